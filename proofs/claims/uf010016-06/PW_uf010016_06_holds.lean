import PyProof.Rows.All
import Wide.All
import OpenK.AllK
import Wide.FinOn
import PySem.Eval
import PyProof.P3Statements
import PyProof.ReprReads
import PyProof.StrBlockL
import PyProof.StrBlock2
import KE.IntText
import PyProof.Cells
import PyProof.Seq
import PyProof.Rows.Nodes
import PyProof.Rows.Chain
import PyProof.Rows.TupSub
import PyProof.Rows.StrTemp
import PyProof.Rows.Exc
import PyProof.CallRoads
import PyProof.SliceSyntax
import PyProof.Rows.Own
import PyProof.RaisesMany
import PyProof.ExcBaseAll.ValueError
import PyProof.StrCalls2
import PyProof.CallStr
import PyProof.StrOps
import PyProof.StrWalks
import PyProof.EnumMake
import PyProof.SliceStr2
import PyProof.StrLawsChain
import PyProof.StrLawsJoin
import PyProof.Rows.StrSplitAre
import PyProof.Rows.StrItems
import KE.KIntText
import PyProof.Rows.RuleB_small
import PyProof.Rows.RuleB_floordiv
import PyProof.Rows.RuleB_mod
import PyProof.Rows.RuleB_mul
import PyProof.Rows.RuleU_int
import PyProof.Rows.RuleN_isinstance
import PyProof.Rows.IntRules
import PyProof.Rows.StrRules
import PyProof.Rows.TupMore
import PyProof.Rows.Lst
import PyProof.ListOps
import PyProof.TupleOps
import PyProof.TupleIter
import PyProof.ListIndexNeg
import PyProof.ListTruth
import PyProof.Truth
import PyProof.Rows.FactsC_int_ge
import PyProof.Rows.FactsC_int_le
import PyProof.NeData
import PyProof.EqAt
import PyProof.ConsumeWalk
import PyProof.TupleOfSeq
import PyProof.WalkInts
import PyProof.ListCopy
import PyProof.Conv_int_bool
import PyProof.PlainList
import PyProof.Rows.RuleC_int
import PyProof.IsRules
import PyProof.P3In
import PyProof.ReprRoads
import PyProof.CallFns
import PyProof.IsiPairs
import PyProof.IsiHeapPairs
import PyProof.IsiNone
import PyProof.ForAppend
import PyProof.SliceList
import KE.KSliceW
import KE.KRevSl
import PyProof.RangeFor
import PyProof.CompFree
import KE.KRevIter
import KE.KItem
import PyProof.StationsW
import PyProof.RulesAs
import PyProof.NsDelKeeps
import PyProof.Rows.Catch
import PyProof.IsInstance
import OpenK.KCall
import OpenK.KLine
import PyProof.Rows.Top
import PyProof.Rows.TupIn
import Wide.BridgeG
import PyProof.StrLawsTight
import PyProof.Rows.StrBin
import PyProof.ReprLen
import PyProof.StrLawsIdx
import PySem.Challenge.RW_uf010016_06
set_option Elab.async false
/- The abstract layer: values, heaps, a small tree language, its weakest preconditions. -/
namespace Mine
open PySem

inductive Ty where
  | int | bool | str | tuple | list | range | reversed | zip | valueError

noncomputable def Ty.name : Ty → String
  | .int => "int" | .bool => "bool" | .str => "str" | .tuple => "tuple" | .list => "list" | .range => "range" | .reversed => "reversed" | .zip => "zip" | .valueError => "ValueError"
inductive Bi where
  | len | isinstance | all | max | min | repr

noncomputable def Bi.name : Bi → String
  | .len => "len" | .isinstance => "isinstance" | .all => "all" | .max => "max" | .min => "min" | .repr => "repr"
inductive Mt where
  | append | clear | index | pop

noncomputable def Mt.name : Mt → Str
  | .append => "append" | .clear => "clear" | .index => "index" | .pop => "pop"

inductive V where
  | none
  | bool (b : Bool)
  | int (i : Int)
  | str (s : Str)
  | opq (s : Str)
  | tup (l : List V)
  | ref (i : Nat)
  | fn (x : Str)
  | ty (n : Ty)
  | bi (n : Bi)
  | scr (ns : List Int)
  | cls (x : Str) (ups : List Str)


inductive O where
  | list (xs : List V)

noncomputable abbrev Hp := List O
noncomputable abbrev Lc := List (Option V)
structure Exc where
  cls : Str
  ups : List Str

inductive SrcK where
  | val | range | rev | zip

inductive IE where
  | lit (v : V)
  | loc (i : Nat)
  | bin (op : Operator) (a b : IE)
  | neg (a : IE)
  | not (a : IE)
  | and (a b : IE)
  | or (a b : IE)
  | cmp (a : IE) (op : CmpOp) (b : IE)
  | cmp2 (a : IE) (op : CmpOp) (b : IE) (op' : CmpOp) (c : IE)
  | ite (t a b : IE)
  | tup (es : List IE)
  | lst (es : List IE)
  | call (f : V) (args : List IE)
  | meth (o : IE) (name : Mt) (args : List IE)
  | sub (o i : IE)
  | slice (o : IE) (lo hi : Option IE)
  | rev (o : IE)
  | comp (elt : IE) (vars : List Nat) (k : SrcK) (srcs : List IE) (ifs : List IE)
  | excIs (y : Str)
  | strm (o : IE) (j : Bool) (a : IE)

inductive IS where
  | expr (e : IE)
  | assign (i : Nat) (e : IE)
  | setItem (o k v : IE)
  | ret (e : IE)
  | retNone
  | ite (t : IE) (a b : List IS)
  | while (t : IE) (b : List IS)
  | for (vars : List Nat) (k : SrcK) (srcs : List IE) (b : List IS)
  | pass
  | brk
  | cont
  | raise (x : Str) (ups : List Str)
  | tryR (b : List IS) (hs : List (Str × Option Nat × IE))

inductive Fl where
  | next | brk | cont
  | ret (v : V)

/- pure helpers -/
noncomputable def idx {α : Type} (l : List α) (k : Int) : Option α :=
  if 0 ≤ k then l[k.toNat]? else if 0 ≤ k + (l.length : Int) then l[(k + (l.length : Int)).toNat]? else none

noncomputable def clampI (n : Nat) (k : Int) : Nat := if 0 ≤ k then min k.toNat n else (k + (n : Int)).toNat
noncomputable def sliceL {α : Type} (l : List α) (lo hi : Option Int) : List α :=
  let a := match lo with | some k => clampI l.length k | none => 0
  let b := match hi with | some k => clampI l.length k | none => l.length
  (l.drop a).take (b - a)

mutual
noncomputable def toPy : V → Option PyData
  | .none => some .none
  | .bool b => some (.bool b)
  | .int i => some (.int i)
  | .str x => some (.str x)
  | .tup l => (toPys l).map .tuple
  | _ => none
noncomputable def toPys : List V → Option (List PyData)
  | [] => some []
  | v :: r => match toPy v, toPys r with
    | some d, some ds => some (d :: ds)
    | _, _ => none
end

noncomputable def listAt (H : Hp) (i : Nat) : Option (List V) := match H[i]? with
  | some (.list xs) => some xs
  | _ => none

noncomputable def truthV (H : Hp) : V → Option Bool
  | .none => some false
  | .bool b => some b
  | .int i => some (decide (i ≠ 0))
  | .str s => some (s.length != 0)
  | .tup l => some (!l.isEmpty)
  | .ref i => (listAt H i).map fun l => !l.isEmpty
  | _ => none

noncomputable def toPyH (H : Hp) : V → Option PyData
  | .ref i => ((listAt H i).bind toPys).map .list
  | v => toPy v

mutual
noncomputable def toPyT (H : Hp) : V → Option PyData
  | .none => some .none
  | .bool b => some (.bool b)
  | .int i => some (.int i)
  | .str x => some (.str x)
  | .ref i => ((listAt H i).bind toPys).map .list
  | .tup l => (toPysT H l).map .tuple
  | _ => none
noncomputable def toPysT (H : Hp) : List V → Option (List PyData)
  | [] => some []
  | v :: r => match toPyT H v, toPysT H r with
    | some d, some ds => some (d :: ds)
    | _, _ => none
end

noncomputable def eqH (H : Hp) (a b : V) : Option Bool :=
  match toPyH H a, toPyH H b with
  | some d, some e => if d.depth ≤ 60 then some (PyData.eqv d e) else none
  | _, _ => none

noncomputable def memV (x : V) (l : List V) : Option Bool :=
  match toPy x, toPys l with
  | some d, some ds => if d.depth ≤ 60 then some (ds.any fun e => PyData.eqv e d) else none
  | _, _ => none

/- what is worked out by unfolding -/
noncomputable def oK {α : Type} (t : Option α) (P : α → Prop) : Prop := match t with | some v => P v | none => False
theorem oK_elim {α : Type} {t : Option α} {P : α → Prop} (h : oK t P) : ∃ v, t = some v ∧ P v := by cases t with | some v => exact ⟨v, rfl, h⟩ | none => exact h.elim
noncomputable def oKK {α : Type} (t : Option (Option α)) (P : α → Prop) : Prop := match t with | some (some v) => P v | _ => False
theorem oKK_elim {α : Type} {t : Option (Option α)} {P : α → Prop} (h : oKK t P) : ∃ v, t = some (some v) ∧ P v := by
  cases t with
  | none => exact h.elim
  | some u => cases u with | some v => exact ⟨v, rfl, h⟩ | none => exact h.elim
noncomputable def tX (H : Hp) (v : V) (P : Bool → Prop) : Prop := match v with | .bool b => P b | v => oK (truthV H v) P
theorem tX_elim {H : Hp} {v : V} {P : Bool → Prop} (h : tX H v P) : ∃ c, truthV H v = some c ∧ P c := by
  cases v with
  | bool b => exact ⟨b, rfl, h⟩
  | _ => exact oK_elim h

/- primitive operations as transformers -/
noncomputable def pBin (op : Operator) (a b : V) (H : Hp) (Q : V → Hp → Prop) : Prop :=
  match op, a, b with
  | .Add, .int i, .int j => Q (.int (i + j)) H
  | .Sub, .int i, .int j => Q (.int (i - j)) H
  | .Mult, .int i, .int j => ((-(2 ^ 64) < i ∧ i < 2 ^ 64) ∨ (-(2 ^ 64) < j ∧ j < 2 ^ 64)) ∧ Q (.int (i * j)) H
  | .FloorDiv, .int i, .int j => (0 < j ∧ j < 2 ^ 128) ∧ Q (.int (i / j)) H
  | .Mod, .int i, .int j => (0 < j ∧ j < 2 ^ 128) ∧ Q (.int (i % j)) H
  | .Pow, .int i, .int j => (0 ≤ j ∧ j ≤ 1000000 ∧ i.natAbs < 2 ^ 64) ∧ Q (.int (i ^ j.toNat)) H
  | .Add, .str x, .str y => x.length + y.length ≤ 1000000 ∧ Q (.str (x ++ y)) H
  | .Add, .tup x, .tup y => x.length + y.length ≤ 1000000 ∧ Q (.tup (x ++ y)) H
  | .Add, .ref i, .ref j => oK (listAt H i) fun xs => oK (listAt H j) fun ys => xs.length + ys.length ≤ 1000000 ∧ Q (.ref H.length) (H ++ [.list (xs ++ ys)])
  | _, _, _ => False

noncomputable def isNoneV : V → Bool
  | .none => true
  | _ => false

noncomputable def strV : V → Option Str
  | .str x => some x
  | _ => none
theorem strV_some {v : V} {x : Str} (h : strV v = some x) : v = .str x := by cases v <;> cases h; rfl
noncomputable def strsOf : List V → Option (List Str)
  | [] => some []
  | v :: r => match v, strsOf r with
    | .str y, some ys => some (y :: ys)
    | _, _ => none
noncomputable def pCmp (op : CmpOp) (a b : V) (H : Hp) (Q : V → Hp → Prop) : Prop :=
  match op with
  | .Eq => (match a, b with
    | .int i, .int j => Q (.bool (decide (i = j))) H
    | .str x, .str y => Q (.bool (x == y)) H
    | .bool x, .bool y => Q (.bool (x == y)) H
    | .opq x, .opq y => Q (.bool (x == y)) H
    | a, b => oK (eqH H a b) fun c => Q (.bool c) H)
  | .NotEq => (match a, b with
    | .int i, .int j => Q (.bool (decide (i ≠ j))) H
    | .str x, .str y => Q (.bool (!(x == y))) H
    | a, b => oK (eqH H a b) fun c => Q (.bool (!c)) H)
  | .Lt => match a, b with | .int i, .int j => Q (.bool (decide (i < j))) H | _, _ => False
  | .LtE => match a, b with | .int i, .int j => Q (.bool (decide (i ≤ j))) H | _, _ => False
  | .Gt => match a, b with | .int i, .int j => Q (.bool (decide (j < i))) H | _, _ => False
  | .GtE => match a, b with | .int i, .int j => Q (.bool (decide (j ≤ i))) H | _, _ => False
  | .In => match b with
    | .str x => oK (strV a) fun y => Q (.bool (Txt.contains x y)) H
    | .tup l => oK (memV a l) fun c => Q (.bool c) H
    | .ref i => oK (listAt H i) fun l => oK (memV a l) fun c => Q (.bool c) H
    | _ => False
  | .NotIn => match b with
    | .str x => oK (strV a) fun y => Q (.bool (!Txt.contains x y)) H
    | .tup l => oK (memV a l) fun c => Q (.bool (!c)) H
    | .ref i => oK (listAt H i) fun l => oK (memV a l) fun c => Q (.bool (!c)) H
    | _ => False
  | .Is => match b with
    | .none => Q (.bool (isNoneV a)) H
    | _ => False
  | .IsNot => match b with
    | .none => Q (.bool (!isNoneV a)) H
    | _ => False
theorem eqv_int {i j : Int} : PyData.eqv (.int i) (.int j) = decide (i = j) := rfl
theorem pCmp_eq {a b : V} {H : Hp} {Q : V → Hp → Prop} (h : pCmp .Eq a b H Q) : (∃ x y, a = .opq x ∧ b = .opq y ∧ Q (.bool (x == y)) H) ∨ ∃ c, eqH H a b = some c ∧ Q (.bool c) H := by
  simp only [pCmp] at h
  split at h
  · rename_i i j
    refine .inr ⟨_, ?_, h⟩
    have e : eqH H (.int i) (.int j) = some (PyData.eqv (.int i) (.int j)) := rfl
    rw [e, eqv_int]
  · exact .inr ⟨_, rfl, h⟩
  · rename_i x y
    refine .inr ⟨_, ?_, h⟩
    cases x <;> cases y <;> rfl
  · exact .inl ⟨_, _, rfl, rfl, h⟩
  · exact .inr (oK_elim h)
theorem pCmp_ne {a b : V} {H : Hp} {Q : V → Hp → Prop} (h : pCmp .NotEq a b H Q) : ∃ c, eqH H a b = some c ∧ Q (.bool (!c)) H := by
  simp only [pCmp] at h
  split at h
  · rename_i i j
    refine ⟨decide (i = j), ?_, by simpa using h⟩
    have e : eqH H (.int i) (.int j) = some (PyData.eqv (.int i) (.int j)) := rfl
    rw [e, eqv_int]
  · exact ⟨_, rfl, h⟩
  · exact oK_elim h

noncomputable def pSub (o i : V) (H : Hp) (Q : V → Hp → Prop) : Prop :=
  match i with
  | .int k => (match o with
    | .tup l => oK (idx l k) fun v => Q v H
    | .ref j => oK (listAt H j) fun l => oK (idx l k) fun v => Q v H
    | .scr ns => oK (idx ns k) fun v => Q (.int v) H
    | _ => False)
  | _ => False

noncomputable def optInt : V → Option (Option Int)
  | .none => some .none
  | .int i => some (.some i)
  | _ => .none

noncomputable def pSlice (o lo hi : V) (H : Hp) (Q : V → Hp → Prop) : Prop :=
  match o with
  | .ref i => oK (listAt H i) fun xs => oK (optInt lo) fun l => oK (optInt hi) fun h => Q (.ref H.length) (H ++ [.list (sliceL xs l h)])
  | .tup xs => oK (optInt lo) fun l => oK (optInt hi) fun h => Q (.tup (sliceL xs l h)) H
  | .str x => oK (optInt lo) fun l => oK (optInt hi) fun h => Q (.str (Txt.slice x l h)) H
  | _ => False

noncomputable def pRev (o : V) (H : Hp) (Q : V → Hp → Prop) : Prop :=
  match o with
  | .ref i => oK (listAt H i) fun xs => Q (.ref H.length) (H ++ [.list xs.reverse])
  | .tup xs => Q (.tup xs.reverse) H
  | _ => False

noncomputable def pSet (o k v : V) (H : Hp) (Q : Hp → Prop) : Prop :=
  match o with
  | .ref i => (match k with
    | .int j => oK (listAt H i) fun l => (0 ≤ j ∧ j < (l.length : Int)) ∧ Q (H.set i (.list (l.set j.toNat v)))
    | _ => False)
  | _ => False

noncomputable def tyOf (H : Hp) : V → Option Ty
  | .bool _ => some .bool
  | .int _ => some .int
  | .str _ => some .str
  | .tup _ => some .tuple
  | .ref i => (listAt H i).map fun _ => .list
  | _ => none

noncomputable def subTy : Ty → Ty → Bool
  | .bool, .int => true
  | .int, .int => true
  | .bool, .bool => true
  | .str, .str => true
  | .tuple, .tuple => true
  | .list, .list => true
  | _, _ => false

noncomputable def isInstH (H : Hp) (v : V) (n : Ty) : Option Bool :=
  match n with
  | .range | .reversed | .zip | .valueError => none
  | _ => match v with
    | .none => some false
    | v => (tyOf H v).map fun t => subTy t n

noncomputable def allBools : List V → Option (List Bool)
  | [] => some []
  | .bool b :: r => (allBools r).map (b :: ·)
  | _ => none

noncomputable abbrev Orc := Str → List V → Hp → (V → Hp → Prop) → (Exc → Hp → Prop) → Prop

noncomputable def pBi (b : Bi) (args : List V) (H : Hp) (Q : V → Hp → Prop) : Prop :=
  match b with
  | .len => (match args with
    | [v] => (match v with
      | .tup l => Q (.int (l.length : Int)) H
      | .ref i => oK (listAt H i) fun l => Q (.int (l.length : Int)) H
      | .scr ns => Q (.int (ns.length : Int)) H
      | .str x => Q (.int (x.length : Int)) H
      | _ => False)
    | _ => False)
  | .isinstance => (match args with
    | [v, w] => (match w with
      | .ty t => oK (isInstH H v t) fun c => Q (.bool c) H
      | _ => False)
    | _ => False)
  | .all => (match args with
    | [v] => (match v with
      | .ref i => oK (listAt H i) fun l => oK (allBools l) fun bs => Q (.bool (bs.all id)) H
      | _ => False)
    | _ => False)
  | .max => (match args with
    | [v, w] => (match v, w with
      | .int a, .int b => Q (.int (max a b)) H
      | _, _ => False)
    | _ => False)
  | .min => (match args with
    | [v, w] => (match v, w with
      | .int a, .int b => Q (.int (min a b)) H
      | _, _ => False)
    | _ => False)
  | .repr => (match args with
    | [v] => oK (toPyT H v) fun d => (d.showable = true ∧ d.depth ≤ 60 ∧ d.shown.length ≤ 1000000) ∧ Q (.opq d.shown) H
    | _ => False)
noncomputable def pTy (b : Ty) (args : List V) (H : Hp) (Q : V → Hp → Prop) : Prop :=
  match b with
  | .int => (match args with
    | [v] => (match v with
      | .bool b => Q (.int (if b then 1 else 0)) H
      | .str x => oK (intText? x) fun n => x.length ≤ 640 ∧ Q (.int n) H
      | _ => False)
    | _ => False)
  | .str => (match args with
    | [v] => (match v with
      | .int i => (i.natAbs < 2 ^ 64 ∧ (Str.ofString (toString i)).length ≤ 1000000) ∧ Q (.str (Str.ofString (toString i))) H
      | .str x => Q (.str x) H
      | _ => False)
    | _ => False)
  | .tuple => (match args with
    | [v] => (match v with
      | .ref i => oK (listAt H i) fun l => Q (.tup l) H
      | _ => False)
    | _ => False)
  | .list => (match args with
    | [v] => (match v with
      | .ref i => oK (listAt H i) fun l => Q (.ref H.length) (H ++ [.list l])
      | .tup l => Q (.ref H.length) (H ++ [.list l])
      | _ => False)
    | _ => False)
  | _ => False
noncomputable def pCall (Φ : Orc) (f : V) (args : List V) (H : Hp) (Q : V → Hp → Prop) (X : Exc → Hp → Prop) : Prop :=
  match f with
  | .fn x => Φ x args H Q X
  | .bi b => pBi b args H Q
  | .ty t => pTy t args H Q
  | _ => False

noncomputable def pStrm (j : Bool) (x : Str) (a : V) (H : Hp) (Q : V → Hp → Prop) : Prop := match j with
  | true => (match a with
    | .ref i => oK (listAt H i) fun l => oK (strsOf l) fun ys => (ys.map (·.length)).sum + ys.length * x.length ≤ 1000000 ∧ Q (.str (Str.join x ys)) H
    | _ => False)
  | false => oK (strV a) fun y => ((y.length == 0) = false ∧ x.length ≤ 1000000) ∧ Q (.ref H.length) (H ++ [.list ((Txt.split x y).map .str)])
noncomputable def okMeth (H : Hp) (o : V) : Prop := match o with
  | .ref i => ∃ l, listAt H i = some l
  | _ => False

noncomputable def idxV (x : V) (l : List V) : Option Nat :=
  match toPy x, toPys l with
  | some d, some ds => if d.depth ≤ 60 then ds.findIdx? (fun e => PyData.eqv e d) else none
  | _, _ => none

noncomputable def pMethL (name : Mt) (i : Nat) (l : List V) (args : List V) (H : Hp) (Q : V → Hp → Prop) : Prop :=
  match name with
  | .append => (match args with
    | [v] => l.length ≤ 1000000 ∧ Q .none (H.set i (.list (l ++ [v])))
    | _ => False)
  | .clear => (match args with
    | [] => Q .none (H.set i (.list []))
    | _ => False)
  | .pop => (match args with
    | [] => oK l.getLast? fun v => Q v (H.set i (.list l.dropLast))
    | _ => False)
  | .index => (match args with
    | [v] => oK (idxV v l) fun j => Q (.int (j : Int)) H
    | _ => False)
noncomputable def pMeth (o : V) (name : Mt) (args : List V) (H : Hp) (Q : V → Hp → Prop) : Prop :=
  match o with
  | .ref i => oK (listAt H i) fun l => pMethL name i l args H Q
  | _ => False

/- what is iterated over -/
noncomputable def rangeL (a b : Int) : List V := (List.range (b - a).toNat).map fun (k : Nat) => V.int (a + (k : Int))
noncomputable def zipL (a b : List V) : List V := (a.zip b).map fun p => V.tup [p.1, p.2]

noncomputable def pSrc (k : SrcK) (vs : List V) (H : Hp) (Q : List V → (Hp → Prop) → Prop) : Prop :=
  match k, vs with
  | .val, [.tup l] => Q l (fun _ => True)
  | .val, [.str x] => x.cps.all (· < 128) = true ∧ Q (x.cps.toList.map fun c => V.str ⟨#[c]⟩) (fun _ => True)
  | .val, [.ref i] => oK (listAt H i) fun l => Q l (fun H' => listAt H' i = some l)
  | .range, [.int b] => (-(2 ^ 62) ≤ b ∧ b ≤ 1000000) ∧ Q (rangeL 0 b) (fun _ => True)
  | .range, [.int a, .int b] => (-(2 ^ 62) ≤ a ∧ a < 2 ^ 62 ∧ -(2 ^ 62) ≤ b ∧ b < 2 ^ 62 ∧ b - a ≤ 1000000) ∧ Q (rangeL a b) (fun _ => True)
  | .rev, [.ref i] => oK (listAt H i) fun l => Q l.reverse (fun H' => listAt H' i = some l)
  | .zip, [.tup a, .tup b] => Q (zipL a b) (fun _ => True)
  | _, _ => False

noncomputable def bindVars : List Nat → V → Lc → Option Lc
  | [i], x, L => some (L.set i (some x))
  | [i, j], .tup [u, v], L => some ((L.set i (some u)).set j (some v))
  | _, _, _ => none

noncomputable abbrev XL := Exc → Hp → Prop
noncomputable def ifP (c : Bool) (A B : Prop) : Prop := match c with | true => A | false => B

noncomputable def compGo (tst : Lc → Hp → (Bool → Hp → Prop) → Prop) (el : Lc → Hp → (V → Hp → Prop) → Prop) (st : Hp → Prop) (vars : List Nat) (L : Lc) :
    List V → List V → Hp → (List V → Hp → Prop) → Prop
  | [], acc, H, Q => Q acc H
  | x :: r, acc, H, Q => oK (bindVars vars x L) fun L' => tst L' H (fun c H1 =>
      ifP c (el L' H1 (fun y H2 => st H2 ∧ compGo tst el st vars L r (acc ++ [y]) H2 Q)) (st H1 ∧ compGo tst el st vars L r acc H1 Q))

noncomputable abbrev noX : XL := fun _ _ => False
noncomputable abbrev noXS : Exc → Lc → Hp → Prop := fun _ _ _ => False
structure ET where
  E : Lc → Hp → (V → Hp → Prop) → XL → Prop
  T : Lc → Hp → (Bool → Hp → Prop) → XL → Prop

noncomputable def ET.of (E : Lc → Hp → (V → Hp → Prop) → XL → Prop) : ET :=
  ⟨E, fun L H Q X => E L H (fun v H1 => tX H1 v fun c => Q c H1) X⟩

mutual
noncomputable def wp2 (Φ : Orc) : IE → ET
  | .lit v => .of fun _ H Q _ => Q v H
  | .loc i => .of fun L H Q _ => oKK L[i]? fun v => Q v H
  | .bin op a b => .of fun L H Q X => (wp2 Φ a).E L H (fun va H1 => (wp2 Φ b).E L H1 (fun vb H2 => pBin op va vb H2 Q) X) X
  | .neg a => .of fun L H Q X => (wp2 Φ a).E L H (fun v H1 => match v with | .int i => Q (.int (-i)) H1 | _ => False) X
  | .not a => ⟨fun L H Q X => (wp2 Φ a).E L H (fun v H1 => tX H1 v fun c => Q (.bool (!c)) H1) X,
      fun L H Q X => (wp2 Φ a).T L H (fun c H1 => Q (!c) H1) X⟩
  | .and a b => ⟨fun L H Q X => (wp2 Φ a).E L H (fun v H1 => tX H1 v fun c => ifP c ((wp2 Φ b).E L H1 Q X) (Q v H1)) X,
      fun L H Q X => (wp2 Φ a).T L H (fun c H1 => ifP c ((wp2 Φ b).T L H1 Q X) (Q false H1)) X⟩
  | .or a b => ⟨fun L H Q X => (wp2 Φ a).E L H (fun v H1 => tX H1 v fun c => ifP c (Q v H1) ((wp2 Φ b).E L H1 Q X)) X,
      fun L H Q X => (wp2 Φ a).T L H (fun c H1 => ifP c (Q true H1) ((wp2 Φ b).T L H1 Q X)) X⟩
  | .cmp a op b => .of fun L H Q X => (wp2 Φ a).E L H (fun va H1 => (wp2 Φ b).E L H1 (fun vb H2 => pCmp op va vb H2 Q) X) X
  | .cmp2 a op b op' c => .of fun L H Q X => (wp2 Φ a).E L H (fun va H1 => (wp2 Φ b).E L H1 (fun vb H2 => pCmp op va vb H2 (fun r H3 =>
      tX H3 r fun t => ifP t ((wp2 Φ c).E L H3 (fun vc H4 => pCmp op' vb vc H4 Q) X) (Q r H3))) X) X
  | .ite t a b => ⟨fun L H Q X => (wp2 Φ t).T L H (fun c H1 => ifP c ((wp2 Φ a).E L H1 Q X) ((wp2 Φ b).E L H1 Q X)) X,
      fun L H Q X => (wp2 Φ t).T L H (fun c H1 => ifP c ((wp2 Φ a).T L H1 Q X) ((wp2 Φ b).T L H1 Q X)) X⟩
  | .tup es => .of fun L H Q X => wpEs Φ es L H (fun vs H1 => vs.length ≤ 1000000 ∧ Q (.tup vs) H1) X
  | .lst es => .of fun L H Q X => wpEs Φ es L H (fun vs H1 => vs.length ≤ 1000000 ∧ Q (.ref H1.length) (H1 ++ [.list vs])) X
  | .call f args => .of fun L H Q X => wpEs Φ args L H (fun vs H1 => pCall Φ f vs H1 Q X) X
  | .meth o name args => .of fun L H Q X => (wp2 Φ o).E L H (fun vo H1 => okMeth H1 vo ∧ wpEs Φ args L H1 (fun vs H2 => pMeth vo name vs H2 Q) X) X
  | .sub o i => .of fun L H Q X => (wp2 Φ o).E L H (fun vo H1 => (wp2 Φ i).E L H1 (fun vi H2 => pSub vo vi H2 Q) X) X
  | .slice o lo hi => .of fun L H Q X => (wp2 Φ o).E L H (fun vo H1 => wpO Φ lo L H1 (fun vl H2 => wpO Φ hi L H2 (fun vh H3 => pSlice vo vl vh H3 Q) X) X) X
  | .rev o => .of fun L H Q X => (wp2 Φ o).E L H (fun vo H1 => pRev vo H1 Q) X
  | .comp elt vars k srcs ifs => .of fun L H Q X => wpEs Φ srcs L H (fun vs H1 => pSrc k vs H1 fun items st =>
      compGo (fun L' H' K => wpIfs Φ ifs L' H' K noX) (fun L' H' K => (wp2 Φ elt).E L' H' K noX) st vars L items [] H1
        (fun ys H2 => ys.length ≤ 1000000 ∧ Q (.ref H2.length) (H2 ++ [.list ys]))) X
  | .excIs _ => .of fun _ _ _ _ => False
  | .strm o j a => .of fun L H Q X => (wp2 Φ o).E L H (fun vo H1 => oK (strV vo) fun x => (wp2 Φ a).E L H1 (fun va H2 => pStrm j x va H2 Q) X) X
noncomputable def wpEs (Φ : Orc) : List IE → Lc → Hp → (List V → Hp → Prop) → XL → Prop
  | [], _, H, Q, _ => Q [] H
  | e :: r, L, H, Q, X => (wp2 Φ e).E L H (fun v H1 => wpEs Φ r L H1 (fun vs H2 => Q (v :: vs) H2) X) X
noncomputable def wpO (Φ : Orc) : Option IE → Lc → Hp → (V → Hp → Prop) → XL → Prop
  | none, _, H, Q, _ => Q .none H
  | some e, L, H, Q, X => (wp2 Φ e).E L H Q X
noncomputable def wpIfs (Φ : Orc) : List IE → Lc → Hp → (Bool → Hp → Prop) → XL → Prop
  | [], _, H, Q, _ => Q true H
  | e :: r, L, H, Q, X => (wp2 Φ e).T L H (fun c H1 => ifP c (wpIfs Φ r L H1 Q X) (Q false H1)) X
end

noncomputable abbrev QS := Fl → Lc → Hp → Prop
noncomputable abbrev XS := Exc → Lc → Hp → Prop

noncomputable def forGo (body : Lc → Hp → QS → Prop) (st : Hp → Prop) (vars : List Nat) : List V → Lc → Hp → QS → Prop
  | [], L, H, Q => Q .next L H
  | x :: r, L, H, Q => oK (bindVars vars x L) fun L' => body L' H (fun fl L1 H1 => match fl with
      | .next => st H1 ∧ forGo body st vars r L1 H1 Q
      | .cont => st H1 ∧ forGo body st vars r L1 H1 Q
      | .brk => Q .next L1 H1
      | .ret v => Q (.ret v) L1 H1)

noncomputable def whileGo (test : Lc → Hp → (Bool → Hp → Prop) → Prop) (body : Lc → Hp → QS → Prop) : Nat → Lc → Hp → QS → Prop
  | 0, _, _, _ => False
  | n + 1, L, H, Q => test L H (fun c H1 => ifP c (body L H1 (fun fl L1 H2 => match fl with
      | .next => whileGo test body n L1 H2 Q
      | .cont => whileGo test body n L1 H2 Q
      | .brk => Q .next L1 H2
      | .ret v => Q (.ret v) L1 H2)) (Q .next L H1))

/- an expression of a handler, the exception known -/
noncomputable def evR (x : Exc) (L : Lc) : IE → Option V
  | .lit v => some v
  | .loc i => (match L[i]? with | some (some v) => some v | _ => none)
  | .excIs y => some (.bool (x.ups.contains y))
  | .not a => (match evR x L a with | some (.bool b) => some (.bool (!b)) | _ => none)
  | .and a b => (match evR x L a with | some (.bool p) => (match p with | true => evR x L b | false => some (.bool false)) | _ => none)
  | .or a b => (match evR x L a with | some (.bool p) => (match p with | true => some (.bool true) | false => evR x L b) | _ => none)
  | .cmp a .Lt b => (match evR x L a, evR x L b with | some (.int i), some (.int j) => some (.bool (decide (i < j))) | _, _ => none)
  | .cmp a .Eq b => (match evR x L a, evR x L b with | some (.int i), some (.int j) => some (.bool (decide (i = j))) | _, _ => none)
  | .bin .Mod a b => (match evR x L a, evR x L b with | some (.int i), some (.int j) => if 0 < j ∧ j < 2 ^ 128 then some (.int (i % j)) else none | _, _ => none)
  | _ => none
noncomputable def unL (n : Option Nat) (L : Lc) : Lc := match n with | some i => L.set i none | none => L
noncomputable def tryGo : List (Str × Option Nat × IE) → Exc → Lc → Hp → QS → Prop
  | [], _, _, _, _ => False
  | h :: r, x, L, H, Q => ifP (x.ups.contains h.1) (oK (evR x (unL h.2.1 L) h.2.2) fun v => Q (.ret v) (unL h.2.1 L) H) (tryGo r x L H Q)
mutual
noncomputable def wpS (Φ : Orc) : IS → Lc → Hp → QS → XS → Prop
  | .expr e, L, H, Q, X => (wp2 Φ e).E L H (fun _ H1 => Q .next L H1) (fun x => X x L)
  | .assign i e, L, H, Q, X => (wp2 Φ e).E L H (fun v H1 => Q .next (L.set i (some v)) H1) (fun x => X x L)
  | .setItem o k v, L, H, Q, X => (wp2 Φ v).E L H (fun vv H1 => (wp2 Φ o).E L H1 (fun vo H2 => (wp2 Φ k).E L H2 (fun vk H3 => pSet vo vk vv H3 (Q .next L)) (fun x => X x L)) (fun x => X x L)) (fun x => X x L)
  | .ret e, L, H, Q, X => (wp2 Φ e).E L H (fun v H1 => Q (.ret v) L H1) (fun x => X x L)
  | .retNone, L, H, Q, _ => Q (.ret .none) L H
  | .ite t a b, L, H, Q, X => (wp2 Φ t).T L H (fun c H1 => ifP c (wpSs Φ a L H1 Q X) (wpSs Φ b L H1 Q X)) (fun x => X x L)
  | .while t b, L, H, Q, X => ∃ n, whileGo (fun L' H' K => (wp2 Φ t).T L' H' K noX) (fun L' H' K => wpSs Φ b L' H' K noXS) n L H Q
  | .for vars k srcs b, L, H, Q, X => wpEs Φ srcs L H (fun vs H1 => pSrc k vs H1 fun items st =>
      forGo (fun L' H' K => wpSs Φ b L' H' K noXS) st vars items L H1 Q) (fun x => X x L)
  | .pass, L, H, Q, _ => Q .next L H
  | .brk, L, H, Q, _ => Q .brk L H
  | .cont, L, H, Q, _ => Q .cont L H
  | .raise _ _, _, _, _, _ => False
  | .tryR b hs, L, H, Q, X => wpSs Φ b L H Q (fun x L' H' => tryGo hs x L' H' Q)
noncomputable def wpSs (Φ : Orc) : List IS → Lc → Hp → QS → XS → Prop
  | [], L, H, Q, _ => Q .next L H
  | s :: r, L, H, Q, X => wpS Φ s L H (fun fl L1 H1 => match fl with
      | .next => wpSs Φ r L1 H1 Q X
      | .brk => Q .brk L1 H1
      | .cont => Q .cont L1 H1
      | .ret v => Q (.ret v) L1 H1) X
end

/- a function: how many names it has, its parameters are the first ones -/
structure Fn where
  names : Nat
  params : Nat
  body : List IS

noncomputable def initL (f : Fn) (vs : List V) : Lc := vs.map some ++ List.replicate (f.names - f.params) none

noncomputable def retV : Fl → V
  | .ret v => v
  | _ => .none

noncomputable def wpFn (Φ : Orc) (f : Fn) (vs : List V) (H : Hp) (Q : V → Hp → Prop) (X : XL) : Prop :=
  vs.length = f.params ∧ wpSs Φ f.body (initL f vs) H (fun fl _ H1 => Q (retV fl) H1) (fun x _ H1 => X x H1)

end Mine

/- From the program's own trees to the small trees. -/
namespace Mine
open PySem

structure CC where
  G : List (Str × V)
  scope : Scope
  slots : List (Str × Nat)
  nxt : Nat

noncomputable def mapO {α β : Type} (f : α → Option β) : List α → Option (List β)
  | [] => some []
  | a :: r => match f a, mapO f r with
    | some b, some bs => some (b :: bs)
    | _, _ => none

noncomputable def constV : Const → Option V
  | .none => some .none
  | .bool b => some (.bool b)
  | .int i => some (.int i)
  | .str s => if s.length ≤ 2000000 ∧ PyData.strOk s = true then some (.str s) else none
  | _ => none

noncomputable def relab (scope outer : Scope) : Scope :=
  { scope with names := scope.names.map fun (n, k) => if (k == .free && outer.kind == .function && outer.names.lookup n == some .cell) then (n, .cell) else (n, k) }

noncomputable def okComp (scope outer : Scope) : Bool :=
  scope.kind == .function && (scope.names.all fun x => x.2 != .cell && (x.2 != .local || scope.names.lookup x.1 == some .local) && (x.2 != .free || (outer.kind == .function && outer.names.lookup x.1 == some .cell)))

noncomputable def isComp : Expr → Bool
  | .ListComp .. | .SetComp .. | .DictComp .. => true
  | _ => false
noncomputable def isStar : Expr → Bool
  | .Starred .. => true
  | _ => false
noncomputable def plainBase : Expr → Bool
  | .Call .. => false
  | _ => true

noncomputable def mtOf (x : Str) : Option Mt := if x == Mt.append.name then some .append else if x == Mt.clear.name then some .clear else if x == Mt.index.name then some .index else if x == Mt.pop.name then some .pop else none
theorem mtOf_some {x : Str} {m : Mt} (h : mtOf x = some m) : x = m.name := by
  unfold mtOf at h
  split at h
  · rename_i q; cases h; exact eq_of_beq q
  · split at h
    · rename_i q; cases h; exact eq_of_beq q
    · split at h
      · rename_i q; cases h; exact eq_of_beq q
      · split at h
        · rename_i q; cases h; exact eq_of_beq q
        · cases h

noncomputable def nameV (c : CC) (x : Str) : Option IE :=
  if x == ("__debug__" : Str) then none else match c.scope.names.lookup x with
    | some .globalImplicit => (c.G.lookup x).map .lit
    | some .local | some .cell => (c.slots.lookup x).map .loc
    | _ => none

noncomputable def globV (c : CC) (x : Str) : Option V :=
  if x == ("__debug__" : Str) then none else match c.scope.names.lookup x with
    | some .globalImplicit => c.G.lookup x
    | _ => none

noncomputable def boolGo (mk : IE → IE → IE) : List IE → Option IE
  | [] => none
  | [a] => some a
  | a :: r => (boolGo mk r).map (mk a)

noncomputable def srcK : V → Option SrcK
  | .ty .range => some .range
  | .ty .reversed => some .rev
  | _ => none

noncomputable def compSrc (f : Expr → Option IE) (c : CC) (e : Expr) : Option (SrcK × List IE) :=
  match e with
  | .Call (.Name g _) args [] _ => if args.any isStar || args.length > 20 then none else match (globV c g).bind srcK, mapO f args with
    | some k, some as => some (k, as)
    | _, _ => (f e).map fun v => (SrcK.val, [v])
  | _ => (f e).map fun v => (SrcK.val, [v])

noncomputable def onlyIf {α : Type} (b : Bool) (x : Option α) : Option α := match b with | true => x | false => none
theorem onlyIf_some {α : Type} {b : Bool} {x : Option α} {y : α} (h : onlyIf b x = some y) : b = true ∧ x = some y := by cases b with | true => exact ⟨rfl, h⟩ | false => cases h
noncomputable def oTwo {α β γ : Type} (f : α → β → γ) (x : Option α) (y : Option β) : Option γ := match x with | some a => (match y with | some b => some (f a b) | none => none) | none => none
theorem oTwo_some {α β γ : Type} {f : α → β → γ} {x : Option α} {y : Option β} {z : γ} (h : oTwo f x y = some z) : ∃ a b, x = some a ∧ y = some b ∧ z = f a b := by
  cases x with
  | none => cases h
  | some a => cases y with
    | none => cases h
    | some b => cases h; exact ⟨a, b, rfl, rfl, rfl⟩
noncomputable def oThree {α β γ δ : Type} (f : α → β → γ → δ) (x : Option α) (y : Option β) (z : Option γ) : Option δ := match x with | some a => oTwo (f a) y z | none => none
theorem oThree_some {α β γ δ : Type} {f : α → β → γ → δ} {x : Option α} {y : Option β} {z : Option γ} {u : δ} (h : oThree f x y z = some u) : ∃ a b c, x = some a ∧ y = some b ∧ z = some c ∧ u = f a b c := by
  cases x with
  | none => cases h
  | some a => obtain ⟨b, c, h1, h2, h3⟩ := oTwo_some h; exact ⟨a, b, c, rfl, h1, h2, h3⟩
noncomputable def methA (f : Expr → Option IE) (args : List Expr) : Option (List IE) := match args with
  | [] => some []
  | [a] => (f a).map fun i => [i]
  | _ => none
noncomputable def methN : Mt → Nat
  | .clear => 0
  | .pop => 0
  | _ => 1
noncomputable def methE (f : Expr → Option IE) (m : Option Mt) (args : List Expr) (o : Option IE) : Option IE := match m with
  | some m => onlyIf (args.length.beq (methN m)) (oTwo (fun v as => .meth v m as) o (methA f args))
  | none => none
noncomputable def smOf (x : Str) : Option Bool := if x == ("join" : Str) then some true else if x == ("split" : Str) then some false else none
theorem smOf_t {x : Str} (h : smOf x = some true) : x = "join" := by
  unfold smOf at h
  split at h
  · rename_i q; exact eq_of_beq q
  · split at h <;> cases h
theorem smOf_f {x : Str} (h : smOf x = some false) : x = "split" := by
  unfold smOf at h
  split at h
  · cases h
  · split at h
    · rename_i q; exact eq_of_beq q
    · cases h
noncomputable def strmE (f : Expr → Option IE) (j : Bool) (args : List Expr) (o : Option IE) : Option IE := match args with
  | [a] => oTwo (fun v i => .strm v j i) o (f a)
  | _ => none
noncomputable def anyM (s : Option Bool) (a : Bool → Option IE) (b : Option IE) : Option IE := match s with
  | some j => a j
  | none => b
noncomputable def innerC (c : CC) (scope : Scope) (x : Str) : CC := { c with scope := relab scope c.scope, slots := (x, c.nxt) :: c.slots, nxt := c.nxt + 1 }

noncomputable def optE (f : Expr → Option IE) : Option Expr → Option (Option IE)
  | none => some none
  | some e => (f e).map some
noncomputable def sliceKind : Expr → Option (Option Expr × Option Expr × Bool)
  | .Slice lo hi none _ => some (lo, hi, false)
  | .Slice none none (some (.UnaryOp .USub (.Constant (.int 1) _ _) _)) _ => some (none, none, true)
  | _ => none
theorem sliceKind_f {i : Expr} {lo hi : Option Expr} (h : sliceKind i = some (lo, hi, false)) : ∃ p, i = .Slice lo hi none p := by
  unfold sliceKind at h
  split at h
  · cases h; exact ⟨_, rfl⟩
  · cases h
  · cases h
theorem sliceKind_t {i : Expr} {lo hi : Option Expr} (h : sliceKind i = some (lo, hi, true)) : ∃ kk p1 p2 p, i = .Slice none none (some (.UnaryOp .USub (.Constant (.int 1) kk p1) p2)) p := by
  unfold sliceKind at h
  split at h
  · cases h
  · exact ⟨_, _, _, _, rfl⟩
  · cases h
noncomputable def subE (f : Expr → Option IE) (o i : Expr) : Option IE := match sliceKind i with
  | some (lo, hi, false) => oThree IE.slice (f o) (optE f lo) (optE f hi)
  | some (_, _, true) => (f o).map .rev
  | none => oTwo IE.sub (f o) (f i)

noncomputable def zipE (_ : Expr → Option IE) (_ : CC) (_ : Expr) (_ : List Comprehension) (_ : Scope) : Option IE := none
noncomputable def isZipC (_ : Expr) : Bool := false

noncomputable def compE : Nat → CC → Expr → Option IE
  | 0, _, _ => none
  | n + 1, c, e => match e with
    | .Constant k _ _ => (constV k).map .lit
    | .Name x _ => nameV c x
    | .BinOp l op r _ => oTwo (IE.bin op) (compE n c l) (compE n c r)
    | .UnaryOp .USub x _ => (compE n c x).map .neg
    | .UnaryOp .Not x _ => (compE n c x).map .not
    | .BoolOp .And vs _ => (mapO (compE n c) vs).bind (boolGo .and)
    | .BoolOp .Or vs _ => (mapO (compE n c) vs).bind (boolGo .or)
    | .IfExp t a b _ => oThree IE.ite (compE n c t) (compE n c a) (compE n c b)
    | .Compare l [op] [r] _ => oTwo (fun a b => .cmp a op b) (compE n c l) (compE n c r)
    | .Compare l [op, op'] [r, r'] _ => oThree (fun a b d => .cmp2 a op b op' d) (compE n c l) (compE n c r) (compE n c r')
    | .Tuple es _ _ => onlyIf (!es.any isStar) ((mapO (compE n c) es).map .tup)
    | .List es _ => onlyIf (!es.any isStar) ((mapO (compE n c) es).map .lst)
    | .Call (.Name f _) args [] _ => onlyIf (!args.any isStar && args.length.ble 20) (oTwo IE.call (globV c f) (mapO (compE n c) args))
    | .Call (.Attribute o name apos) args [] pos => onlyIf (!args.any isStar && args.length.ble 20 && plainBase o && apos.endLine.beq pos.line) (
      anyM (smOf name) (fun j => strmE (compE n c) j args (compE n c o)) <|
      methE (compE n c) (mtOf name) args (compE n c o))
    | .Subscript o i _ => subE (compE n c) o i
    | .ListComp elt [⟨.Name x _, iter, ifs, a⟩] scope _ =>
      onlyIf (a == 0 && okComp scope c.scope && scope.names.lookup x == some .local && (scope.names.all fun y => y.2 != .local || y.1 == x || (c.slots.lookup y.1).isNone) && (c.slots.all fun p => p.2 < c.nxt))
        (oThree (fun ks e fs => .comp e [c.nxt] ks.1 ks.2 fs) (compSrc (compE n c) c iter) (compE n (innerC c scope x) elt) (mapO (compE n (innerC c scope x)) ifs))
    | .ListComp elt gens scope _ => zipE (compE n c) c elt gens scope
    | _ => none

noncomputable def slotV (c : CC) (x : Str) : Option Nat := match c.scope.names.lookup x with
  | some .local | some .cell => c.slots.lookup x
  | _ => none


noncomputable def compS : Nat → CC → Stmt → Option IS
  | 0, _, _ => none
  | n + 1, c, st => match st with
    | .Expr e _ => onlyIf (!isComp e) ((compE n c e).map .expr)
    | .Assign [.Name x _] e _ => onlyIf (!isZipC e) (oTwo IS.assign (slotV c x) (compE n c e))
    | .Assign [.Subscript o i _] e _ => onlyIf (!isComp e) (oThree (fun v o i => IS.setItem o i v) (compE n c e) (compE n c o) (compE n c i))
    | .Return none _ => some .retNone
    | .Return (some e) _ => (compE n c e).map .ret
    | .If t a b _ => oThree IS.ite (compE n c t) (mapO (compS n c) a) (mapO (compS n c) b)
    | .While t b [] _ => oTwo IS.while (compE n c t) (mapO (compS n c) b)
    | .For (.Name x _) iter b [] _ => oThree (fun i ks b => .for [i] ks.1 ks.2 b) (slotV c x) (compSrc (compE n c) c iter) (mapO (compS n c) b)
    | .Raise _ _ _ => some (.raise "" [])
    | .Pass _ => some .pass
    | .Break _ => some .brk
    | .Continue _ => some .cont
    | _ => none

noncomputable def slotsGo : List Str → Nat → List (Str × Nat)
  | [], _ => []
  | x :: r, k => (x, k) :: slotsGo r (k + 1)

noncomputable def ownNames (params : List Str) (scope : Scope) : List Str :=
  params ++ ((scope.names.filter fun x => (x.2 == .local || x.2 == .cell) && !params.contains x.1).map (·.1))

noncomputable def compFn (G : List (Str × V)) (params : List Str) (body : List Stmt) (scope : Scope) : Option Fn :=
  let ns := ownNames params scope
  let c : CC := { G, scope, slots := slotsGo ns 0, nxt := ns.length }
  (mapO (compS 40 c) body).map fun b => { names := ns.length + 3, params := params.length, body := b }

/- the defs of a program -/
noncomputable def defOf (p : Program) (x : Str) : Option (List Str × List Stmt × Scope) :=
  match p.main.body.find? (fun | .FunctionDef n .. => n == x | _ => false) with
  | some (.FunctionDef _ a body _ _ _ scope _ _ _) => some (a.args.map (·.arg), body, scope)
  | _ => none
noncomputable def fnOf? (G : List (Str × V)) (p : Program) (x : Str) : Option Fn :=
  match defOf p x with
  | some (ps, body, scope) => compFn G ps body scope
  | none => none
end Mine

set_option autoImplicit false
namespace Mine
open PySem
section
variable {Φ : Orc} {L : Lc} {H : Hp} {Q : V → Hp → Prop} {P : Bool → Hp → Prop} {X : XL} {QF : QS} {XF : XS}
theorem X_lit {v : V} : (wp2 Φ (.lit v)).E L H Q X = Q v H := rfl
theorem X_loc {i : Nat} : (wp2 Φ (.loc i)).E L H Q X = oKK L[i]? fun v => Q v H := rfl
theorem X_bin {op : Operator} {a b : IE} : (wp2 Φ (.bin op a b)).E L H Q X = (wp2 Φ a).E L H (fun va H1 => (wp2 Φ b).E L H1 (fun vb H2 => pBin op va vb H2 Q) X) X := rfl
noncomputable def negX (v : V) (Q : V → Prop) : Prop := match v with | .int i => Q (.int (-i)) | _ => False
theorem negX_int {i : Int} {Q : V → Prop} : negX (.int i) Q = Q (.int (-i)) := rfl
theorem X_neg {a : IE} : (wp2 Φ (.neg a)).E L H Q X = (wp2 Φ a).E L H (fun v H1 => negX v fun u => Q u H1) X := rfl
theorem X_not {a : IE} : (wp2 Φ (.not a)).E L H Q X = (wp2 Φ a).E L H (fun v H1 => tX H1 v fun c => Q (.bool (!c)) H1) X := rfl
theorem Y_not {a : IE} : (wp2 Φ (.not a)).T L H P X = (wp2 Φ a).T L H (fun c H1 => P (!c) H1) X := rfl
theorem X_and {a b : IE} : (wp2 Φ (.and a b)).E L H Q X = (wp2 Φ a).E L H (fun v H1 => tX H1 v fun c => ifP c ((wp2 Φ b).E L H1 Q X) (Q v H1)) X := rfl
theorem Y_and {a b : IE} : (wp2 Φ (.and a b)).T L H P X = (wp2 Φ a).T L H (fun c H1 => ifP c ((wp2 Φ b).T L H1 P X) (P false H1)) X := rfl
theorem X_or {a b : IE} : (wp2 Φ (.or a b)).E L H Q X = (wp2 Φ a).E L H (fun v H1 => tX H1 v fun c => ifP c (Q v H1) ((wp2 Φ b).E L H1 Q X)) X := rfl
theorem Y_or {a b : IE} : (wp2 Φ (.or a b)).T L H P X = (wp2 Φ a).T L H (fun c H1 => ifP c (P true H1) ((wp2 Φ b).T L H1 P X)) X := rfl
theorem X_cmp {a b : IE} {op : CmpOp} : (wp2 Φ (.cmp a op b)).E L H Q X = (wp2 Φ a).E L H (fun va H1 => (wp2 Φ b).E L H1 (fun vb H2 => pCmp op va vb H2 Q) X) X := rfl
theorem X_cmp2 {a b c : IE} {op op' : CmpOp} : (wp2 Φ (.cmp2 a op b op' c)).E L H Q X = (wp2 Φ a).E L H (fun va H1 => (wp2 Φ b).E L H1 (fun vb H2 => pCmp op va vb H2 (fun r H3 =>
      tX H3 r fun t => ifP t ((wp2 Φ c).E L H3 (fun vc H4 => pCmp op' vb vc H4 Q) X) (Q r H3))) X) X := rfl
theorem X_ite {t a b : IE} : (wp2 Φ (.ite t a b)).E L H Q X = (wp2 Φ t).T L H (fun c H1 => ifP c ((wp2 Φ a).E L H1 Q X) ((wp2 Φ b).E L H1 Q X)) X := rfl
theorem Y_ite {t a b : IE} : (wp2 Φ (.ite t a b)).T L H P X = (wp2 Φ t).T L H (fun c H1 => ifP c ((wp2 Φ a).T L H1 P X) ((wp2 Φ b).T L H1 P X)) X := rfl
theorem X_tup {es : List IE} : (wp2 Φ (.tup es)).E L H Q X = wpEs Φ es L H (fun vs H1 => vs.length ≤ 1000000 ∧ Q (.tup vs) H1) X := rfl
theorem X_lst {es : List IE} : (wp2 Φ (.lst es)).E L H Q X = wpEs Φ es L H (fun vs H1 => vs.length ≤ 1000000 ∧ Q (.ref H1.length) (H1 ++ [.list vs])) X := rfl
theorem X_call {f : V} {args : List IE} : (wp2 Φ (.call f args)).E L H Q X = wpEs Φ args L H (fun vs H1 => pCall Φ f vs H1 Q X) X := rfl
theorem X_meth {o : IE} {name : Mt} {args : List IE} : (wp2 Φ (.meth o name args)).E L H Q X = (wp2 Φ o).E L H (fun vo H1 => okMeth H1 vo ∧ wpEs Φ args L H1 (fun vs H2 => pMeth vo name vs H2 Q) X) X := rfl
theorem X_sub {o i : IE} : (wp2 Φ (.sub o i)).E L H Q X = (wp2 Φ o).E L H (fun vo H1 => (wp2 Φ i).E L H1 (fun vi H2 => pSub vo vi H2 Q) X) X := rfl
noncomputable def coTX (Φ : Orc) (ifs : List IE) (X : XL) : Lc → Hp → (Bool → Hp → Prop) → Prop := fun L' H' K => wpIfs Φ ifs L' H' K X
noncomputable def coEX (Φ : Orc) (elt : IE) (X : XL) : Lc → Hp → (V → Hp → Prop) → Prop := fun L' H' K => (wp2 Φ elt).E L' H' K X
theorem X_comp {elt : IE} {vars : List Nat} {k : SrcK} {srcs ifs : List IE} : (wp2 Φ (.comp elt vars k srcs ifs)).E L H Q X = wpEs Φ srcs L H (fun vs H1 => pSrc k vs H1 fun items st =>
      compGo (coTX Φ ifs noX) (coEX Φ elt noX) st vars L items [] H1 (fun ys H2 => ys.length ≤ 1000000 ∧ Q (.ref H2.length) (H2 ++ [.list ys]))) X := rfl
theorem Y_lit {v : V} : (wp2 Φ (.lit v)).T L H P X = tX H v fun c => P c H := rfl
theorem Y_loc {i : Nat} : (wp2 Φ (.loc i)).T L H P X = oKK L[i]? fun v => tX H v fun c => P c H := rfl
theorem Y_cmp {a b : IE} {op : CmpOp} : (wp2 Φ (.cmp a op b)).T L H P X = (wp2 Φ (.cmp a op b)).E L H (fun v H1 => tX H1 v fun c => P c H1) X := rfl
theorem Y_cmp2 {a b c : IE} {op op' : CmpOp} : (wp2 Φ (.cmp2 a op b op' c)).T L H P X = (wp2 Φ (.cmp2 a op b op' c)).E L H (fun v H1 => tX H1 v fun c => P c H1) X := rfl
theorem Y_call {f : V} {args : List IE} : (wp2 Φ (.call f args)).T L H P X = (wp2 Φ (.call f args)).E L H (fun v H1 => tX H1 v fun c => P c H1) X := rfl
theorem Y_sub {o i : IE} : (wp2 Φ (.sub o i)).T L H P X = (wp2 Φ (.sub o i)).E L H (fun v H1 => tX H1 v fun c => P c H1) X := rfl
theorem XEs_nil {R : List V → Hp → Prop} : wpEs Φ [] L H R X = R [] H := rfl
theorem XEs_cons {e : IE} {r : List IE} {R : List V → Hp → Prop} : wpEs Φ (e :: r) L H R X = (wp2 Φ e).E L H (fun v H1 => wpEs Φ r L H1 (fun vs H2 => R (v :: vs) H2) X) X := rfl
theorem XIfs_nil : wpIfs Φ [] L H P X = P true H := rfl
theorem XIfs_cons {e : IE} {r : List IE} : wpIfs Φ (e :: r) L H P X = (wp2 Φ e).T L H (fun c H1 => ifP c (wpIfs Φ r L H1 P X) (P false H1)) X := rfl
theorem Z_expr {e : IE} : wpS Φ (.expr e) L H QF XF = (wp2 Φ e).E L H (fun _ H1 => QF .next L H1) (fun x => XF x L) := rfl
theorem Z_assign {i : Nat} {e : IE} : wpS Φ (.assign i e) L H QF XF = (wp2 Φ e).E L H (fun v H1 => QF .next (L.set i (some v)) H1) (fun x => XF x L) := rfl
theorem Z_ret {e : IE} : wpS Φ (.ret e) L H QF XF = (wp2 Φ e).E L H (fun v H1 => QF (.ret v) L H1) (fun x => XF x L) := rfl
theorem Z_retNone : wpS Φ .retNone L H QF XF = QF (.ret .none) L H := rfl
theorem Z_ite {t : IE} {a b : List IS} : wpS Φ (.ite t a b) L H QF XF = (wp2 Φ t).T L H (fun c H1 => ifP c (wpSs Φ a L H1 QF XF) (wpSs Φ b L H1 QF XF)) (fun x => XF x L) := rfl
noncomputable def whTX (Φ : Orc) (t : IE) (XF : XL) : Lc → Hp → (Bool → Hp → Prop) → Prop := fun L' H' K => (wp2 Φ t).T L' H' K XF
noncomputable def whBX (Φ : Orc) (b : List IS) (XF : XS) : Lc → Hp → QS → Prop := fun L' H' K => wpSs Φ b L' H' K XF
theorem Z_while {t : IE} {b : List IS} : wpS Φ (.while t b) L H QF XF = ∃ n, whileGo (whTX Φ t noX) (whBX Φ b noXS) n L H QF := rfl
theorem Z_for {vars : List Nat} {k : SrcK} {srcs : List IE} {b : List IS} : wpS Φ (.for vars k srcs b) L H QF XF = wpEs Φ srcs L H (fun vs H1 => pSrc k vs H1 fun items st =>
      forGo (whBX Φ b noXS) st vars items L H1 QF) (fun x => XF x L) := rfl
theorem Z_raise {x : Str} {ups : List Str} : wpS Φ (.raise x ups) L H QF XF = False := rfl
theorem Z_try {b : List IS} {hs : List (Str × Option Nat × IE)} : wpS Φ (.tryR b hs) L H QF XF = wpSs Φ b L H QF (fun x L' H' => tryGo hs x L' H' QF) := rfl
theorem Z_pass : wpS Φ .pass L H QF XF = QF .next L H := rfl
theorem Z_brk : wpS Φ .brk L H QF XF = QF .brk L H := rfl
theorem Z_cont : wpS Φ .cont L H QF XF = QF .cont L H := rfl
theorem Zs_nil : wpSs Φ [] L H QF XF = QF .next L H := rfl
noncomputable def sqX (Φ : Orc) (r : List IS) (QF : QS) (XF : XS) : QS := fun fl L1 H1 => match fl with
      | .next => wpSs Φ r L1 H1 QF XF
      | .brk => QF .brk L1 H1
      | .cont => QF .cont L1 H1
      | .ret v => QF (.ret v) L1 H1
theorem sqX_next {r : List IS} : sqX Φ r QF XF .next L H = wpSs Φ r L H QF XF := rfl
theorem sqX_brk {r : List IS} : sqX Φ r QF XF .brk L H = QF .brk L H := rfl
theorem sqX_cont {r : List IS} : sqX Φ r QF XF .cont L H = QF .cont L H := rfl
theorem sqX_ret {r : List IS} {v : V} : sqX Φ r QF XF (.ret v) L H = QF (.ret v) L H := rfl
theorem Zs_cons {s : IS} {r : List IS} : wpSs Φ (s :: r) L H QF XF = wpS Φ s L H (sqX Φ r QF XF) XF := rfl
theorem zs_cons {s : IS} {r : List IS} (h : wpS Φ s L H (sqX Φ r QF XF) XF) : wpSs Φ (s :: r) L H QF XF := h
noncomputable def wkX (test : Lc → Hp → (Bool → Hp → Prop) → Prop) (body : Lc → Hp → QS → Prop) (n : Nat) (Q : QS) : QS := fun fl L1 H2 => match fl with
      | .next => whileGo test body n L1 H2 Q
      | .cont => whileGo test body n L1 H2 Q
      | .brk => Q .next L1 H2
      | .ret v => Q (.ret v) L1 H2
noncomputable def fkX (body : Lc → Hp → QS → Prop) (st : Hp → Prop) (vars : List Nat) (r : List V) (Q : QS) : QS := fun fl L1 H1 => match fl with
      | .next => st H1 ∧ forGo body st vars r L1 H1 Q
      | .cont => st H1 ∧ forGo body st vars r L1 H1 Q
      | .brk => Q .next L1 H1
      | .ret v => Q (.ret v) L1 H1
end
section
variable {Φ : Orc} {t : IE} {b : List IS} {XF : XS} {X : XL} {test : Lc → Hp → (Bool → Hp → Prop) → Prop} {body : Lc → Hp → QS → Prop} {n : Nat} {Q : QS} {L : Lc} {H : Hp} {st : Hp → Prop} {vars : List Nat} {x : V} {r : List V} {v : V} {acc : List V} {QL : List V → Hp → Prop} {ifs : List IE} {elt : IE}
theorem whX_s : whileGo (whTX Φ t X) (whBX Φ b XF) (n + 1) L H Q = (wp2 Φ t).T L H (fun c H1 => ifP c (wpSs Φ b L H1 (wkX (whTX Φ t X) (whBX Φ b XF) n Q) XF) (Q .next L H1)) X := rfl
theorem wkX_next : wkX test body n Q .next L H = whileGo test body n L H Q := rfl
theorem wkX_cont : wkX test body n Q .cont L H = whileGo test body n L H Q := rfl
theorem wkX_brk : wkX test body n Q .brk L H = Q .next L H := rfl
theorem wkX_ret : wkX test body n Q (.ret v) L H = Q (.ret v) L H := rfl
theorem foX_nil : forGo body st vars [] L H Q = Q .next L H := rfl
theorem foX_cons : forGo (whBX Φ b XF) st vars (x :: r) L H Q = oK (bindVars vars x L) fun L' => wpSs Φ b L' H (fkX (whBX Φ b XF) st vars r Q) XF := rfl
theorem fkX_next : fkX body st vars r Q .next L H = (st H ∧ forGo body st vars r L H Q) := rfl
theorem fkX_cont : fkX body st vars r Q .cont L H = (st H ∧ forGo body st vars r L H Q) := rfl
theorem fkX_brk : fkX body st vars r Q .brk L H = Q .next L H := rfl
theorem fkX_ret : fkX body st vars r Q (.ret v) L H = Q (.ret v) L H := rfl
theorem coX_nil {tst : Lc → Hp → (Bool → Hp → Prop) → Prop} {el : Lc → Hp → (V → Hp → Prop) → Prop} : compGo tst el st vars L [] acc H QL = QL acc H := rfl
theorem coX_cons : compGo (coTX Φ ifs X) (coEX Φ elt X) st vars L (x :: r) acc H QL = oK (bindVars vars x L) fun L' => wpIfs Φ ifs L' H (fun c H1 =>
      ifP c ((wp2 Φ elt).E L' H1 (fun y H2 => st H2 ∧ compGo (coTX Φ ifs X) (coEX Φ elt X) st vars L r (acc ++ [y]) H2 QL) X) (st H1 ∧ compGo (coTX Φ ifs X) (coEX Φ elt X) st vars L r acc H1 QL)) X := rfl
theorem xb_one {i : Nat} : bindVars [i] x L = some (L.set i (some x)) := rfl
theorem oKK_some {α : Type} {a : α} {P : α → Prop} : oKK (some (some a)) P = P a := rfl
theorem oK_some {α : Type} {a : α} {P : α → Prop} : oK (some a) P = P a := rfl
theorem tX_bool {b : Bool} {P : Bool → Prop} : tX H (.bool b) P = P b := rfl
theorem iX_t {A B : Prop} : ifP true A B = A := rfl
theorem iX_f {A B : Prop} : ifP false A B = B := rfl
theorem iX_d {p : Prop} [Decidable p] {A B : Prop} : ifP (decide p) A B = ((p → A) ∧ (¬ p → B)) := by by_cases h : p <;> simp [ifP, h]
theorem iX_p {p : Prop} [Decidable p] {A B : Prop} (h1 : p → A) (h2 : ¬ p → B) : ifP (decide p) A B := by by_cases h : p <;> simp only [h, decide_true, decide_false, ifP]; exact h1 h; exact h2 h
theorem iX_b {c : Bool} {A B : Prop} (h1 : c = true → A) (h2 : c = false → B) : ifP c A B := by cases c; exact h2 rfl; exact h1 rfl
end
section
variable {Φ : Orc} {H : Hp} {Q : V → Hp → Prop} {X : XL} {i j : Int} {m n : Nat} {x y : Str} {l : List V} {ns : List Int} {a v : V} {b c : Bool}
theorem q_add : pBin .Add (.int i) (.int j) H Q = Q (.int (i + j)) H := rfl
theorem q_sub : pBin .Sub (.int i) (.int j) H Q = Q (.int (i - j)) H := rfl
theorem q_mul : pBin .Mult (.int i) (.int j) H Q = (((-(2 ^ 64) < i ∧ i < 2 ^ 64) ∨ (-(2 ^ 64) < j ∧ j < 2 ^ 64)) ∧ Q (.int (i * j)) H) := rfl
theorem q_div : pBin .FloorDiv (.int i) (.int j) H Q = ((0 < j ∧ j < 2 ^ 128) ∧ Q (.int (i / j)) H) := rfl
theorem q_mod : pBin .Mod (.int i) (.int j) H Q = ((0 < j ∧ j < 2 ^ 128) ∧ Q (.int (i % j)) H) := rfl
theorem q_pow : pBin .Pow (.int i) (.int j) H Q = ((0 ≤ j ∧ j ≤ 1000000 ∧ i.natAbs < 2 ^ 64) ∧ Q (.int (i ^ j.toNat)) H) := rfl
theorem q_list : pBin .Add (.ref m) (.ref n) H Q = oK (listAt H m) fun xs => oK (listAt H n) fun ys => xs.length + ys.length ≤ 1000000 ∧ Q (.ref H.length) (H ++ [.list (xs ++ ys)]) := rfl
theorem q_eq : pCmp .Eq (.int i) (.int j) H Q = Q (.bool (decide (i = j))) H := rfl
theorem q_ne : pCmp .NotEq (.int i) (.int j) H Q = Q (.bool (decide (i ≠ j))) H := rfl
theorem q_eqs : pCmp .Eq (.str x) (.str y) H Q = Q (.bool (x == y)) H := rfl
theorem q_nes : pCmp .NotEq (.str x) (.str y) H Q = Q (.bool (!(x == y))) H := rfl
theorem q_eqb : pCmp .Eq (.bool b) (.bool c) H Q = Q (.bool (b == c)) H := rfl
theorem q_lt : pCmp .Lt (.int i) (.int j) H Q = Q (.bool (decide (i < j))) H := rfl
theorem q_le : pCmp .LtE (.int i) (.int j) H Q = Q (.bool (decide (i ≤ j))) H := rfl
theorem q_gt : pCmp .Gt (.int i) (.int j) H Q = Q (.bool (decide (j < i))) H := rfl
theorem q_ge : pCmp .GtE (.int i) (.int j) H Q = Q (.bool (decide (j ≤ i))) H := rfl
theorem q_in : pCmp .In a (.tup l) H Q = oK (memV a l) fun c => Q (.bool c) H := rfl
theorem q_inl : pCmp .In a (.ref n) H Q = oK (listAt H n) fun l => oK (memV a l) fun c => Q (.bool c) H := rfl
theorem q_nin : pCmp .NotIn a (.tup l) H Q = oK (memV a l) fun c => Q (.bool (!c)) H := rfl
theorem q_is : pCmp .Is a .none H Q = Q (.bool (isNoneV a)) H := rfl
theorem q_isnot : pCmp .IsNot a .none H Q = Q (.bool (!isNoneV a)) H := rfl
theorem q_stup : pSub (.tup l) (.int i) H Q = oK (idx l i) fun v => Q v H := rfl
theorem q_sref : pSub (.ref n) (.int i) H Q = oK (listAt H n) fun l => oK (idx l i) fun v => Q v H := rfl
theorem q_sscr : pSub (.scr ns) (.int i) H Q = oK (idx ns i) fun v => Q (.int v) H := rfl
theorem q_fn {vs : List V} : pCall Φ (.fn x) vs H Q X = Φ x vs H Q X := rfl
theorem q_lentup : pCall Φ (.bi .len) [.tup l] H Q X = Q (.int (l.length : Int)) H := rfl
theorem q_lenref : pCall Φ (.bi .len) [.ref n] H Q X = oK (listAt H n) fun l => Q (.int (l.length : Int)) H := rfl
theorem q_lenscr : pCall Φ (.bi .len) [.scr ns] H Q X = Q (.int (ns.length : Int)) H := rfl
theorem q_isi {t : Ty} : pCall Φ (.bi .isinstance) [v, .ty t] H Q X = oK (isInstH H v t) fun c => Q (.bool c) H := rfl
theorem q_all : pCall Φ (.bi .all) [.ref n] H Q X = oK (listAt H n) fun l => oK (allBools l) fun bs => Q (.bool (bs.all id)) H := rfl
theorem q_max : pCall Φ (.bi .max) [.int i, .int j] H Q X = Q (.int (max i j)) H := rfl
theorem q_min : pCall Φ (.bi .min) [.int i, .int j] H Q X = Q (.int (min i j)) H := rfl
theorem q_int : pCall Φ (.ty .int) [.bool b] H Q X = Q (.int (if b then 1 else 0)) H := rfl
theorem q_tuple : pCall Φ (.ty .tuple) [.ref n] H Q X = oK (listAt H n) fun l => Q (.tup l) H := rfl
theorem q_listc : pCall Φ (.ty .list) [.ref n] H Q X = oK (listAt H n) fun l => Q (.ref H.length) (H ++ [.list l]) := rfl
theorem q_append : pMeth (.ref n) .append [v] H Q = oK (listAt H n) fun l => l.length ≤ 1000000 ∧ Q .none (H.set n (.list (l ++ [v]))) := rfl
theorem q_clear : pMeth (.ref n) .clear [] H Q = oK (listAt H n) fun _ => Q .none (H.set n (.list [])) := rfl
theorem q_index : pMeth (.ref n) .index [v] H Q = oK (listAt H n) fun l => oK (idxV v l) fun j => Q (.int (j : Int)) H := rfl
theorem q_pop : pMeth (.ref n) .pop [] H Q = oK (listAt H n) fun l => oK l.getLast? fun v => Q v (H.set n (.list l.dropLast)) := rfl
theorem q_slicet {lo hi : V} : pSlice (.tup l) lo hi H Q = oK (optInt lo) fun a => oK (optInt hi) fun b => Q (.tup (sliceL l a b)) H := rfl
theorem q_revt : pRev (.tup l) H Q = Q (.tup l.reverse) H := rfl
theorem q_revl : pRev (.ref n) H Q = oK (listAt H n) fun xs => Q (.ref H.length) (H ++ [.list xs.reverse]) := rfl
theorem q_set {QH : Hp → Prop} : pSet (.ref n) (.int i) v H QH = oK (listAt H n) fun l => (0 ≤ i ∧ i < (l.length : Int)) ∧ QH (H.set n (.list (l.set i.toNat v))) := rfl
theorem q_repr : pCall Φ (.bi .repr) [v] H Q X = oK (toPyT H v) fun d => (d.showable = true ∧ d.depth ≤ 60 ∧ d.shown.length ≤ 1000000) ∧ Q (.opq d.shown) H := rfl
theorem q_eqo : pCmp .Eq (.opq x) (.opq y) H Q = Q (.bool (x == y)) H := rfl
theorem X_rev {L : Lc} {o : IE} : (wp2 Φ (.rev o)).E L H Q X = (wp2 Φ o).E L H (fun vo H1 => pRev vo H1 Q) X := rfl
theorem Z_set {L : Lc} {QF : QS} {XF : XS} {o k e : IE} : wpS Φ (.setItem o k e) L H QF XF = (wp2 Φ e).E L H (fun vv H1 => (wp2 Φ o).E L H1 (fun vo H2 => (wp2 Φ k).E L H2 (fun vk H3 => pSet vo vk vv H3 (QF .next L)) (fun x => XF x L)) (fun x => XF x L)) (fun x => XF x L) := rfl
theorem q_addt {l2 : List V} : pBin .Add (.tup l) (.tup l2) H Q = (l.length + l2.length ≤ 1000000 ∧ Q (.tup (l ++ l2)) H) := rfl
theorem q_listt : pCall Φ (.ty .list) [.tup l] H Q X = Q (.ref H.length) (H ++ [.list l]) := rfl
theorem q_ninl : pCmp .NotIn a (.ref n) H Q = oK (listAt H n) fun l => oK (memV a l) fun c => Q (.bool (!c)) H := rfl
theorem u_tup {R : List V → (Hp → Prop) → Prop} : pSrc .val [.tup l] H R = R l (fun _ => True) := rfl
theorem u_ref {R : List V → (Hp → Prop) → Prop} : pSrc .val [.ref n] H R = oK (listAt H n) fun l => R l (fun H' => listAt H' n = some l) := rfl
theorem q_slice {lo hi : V} : pSlice (.ref n) lo hi H Q = oK (listAt H n) fun xs => oK (optInt lo) fun l => oK (optInt hi) fun h => Q (.ref H.length) (H ++ [.list (sliceL xs l h)]) := rfl
theorem oi_none : optInt .none = some none := rfl
theorem oi_int : optInt (.int i) = some (some i) := rfl
theorem X_slice {L : Lc} {o : IE} {lo hi : Option IE} : (wp2 Φ (.slice o lo hi)).E L H Q X = (wp2 Φ o).E L H (fun vo H1 => wpO Φ lo L H1 (fun vl H2 => wpO Φ hi L H2 (fun vh H3 => pSlice vo vl vh H3 Q) X) X) X := rfl
theorem XO_none {L : Lc} : wpO Φ none L H Q X = Q .none H := rfl
theorem XO_some {L : Lc} {e : IE} : wpO Φ (some e) L H Q X = (wp2 Φ e).E L H Q X := rfl
theorem u_zip {l2 : List V} {R : List V → (Hp → Prop) → Prop} : pSrc .zip [.tup l, .tup l2] H R = R (zipL l l2) (fun _ => True) := rfl
theorem xb_two {L : Lc} {i j : Nat} {u v : V} : bindVars [i, j] (.tup [u, v]) L = some ((L.set i (some u)).set j (some v)) := rfl
theorem u_rev {R : List V → (Hp → Prop) → Prop} : pSrc .rev [.ref n] H R = oK (listAt H n) fun l => R l.reverse (fun H' => listAt H' n = some l) := rfl
theorem u_range {R : List V → (Hp → Prop) → Prop} : pSrc .range [.int i] H R = ((-(2 ^ 62) ≤ i ∧ i ≤ 1000000) ∧ R (rangeL 0 i) (fun _ => True)) := rfl
theorem u_range2 {R : List V → (Hp → Prop) → Prop} : pSrc .range [.int i, .int j] H R = ((-(2 ^ 62) ≤ i ∧ i < 2 ^ 62 ∧ -(2 ^ 62) ≤ j ∧ j < 2 ^ 62 ∧ j - i ≤ 1000000) ∧ R (rangeL i j) (fun _ => True)) := rfl
end
theorem fn_of {Φ : Orc} {f : Fn} {vs : List V} {H : Hp} {Q : V → Hp → Prop} {X : XL} (h1 : vs.length = f.params) (h : wpSs Φ f.body (initL f vs) H (fun fl _ H1 => Q (retV fl) H1) (fun x _ H1 => X x H1)) : wpFn Φ f vs H Q X := ⟨h1, h⟩
theorem retV_ret {v : V} : retV (.ret v) = v := rfl
theorem retV_next : retV .next = .none := rfl
theorem idx_0 {α : Type} {l : List α} : idx l 0 = l[0]? := rfl
theorem idx_1 {α : Type} {l : List α} : idx l 1 = l[1]? := rfl
theorem idx_2 {α : Type} {l : List α} : idx l 2 = l[2]? := rfl
theorem idx_3 {α : Type} {l : List α} : idx l 3 = l[3]? := rfl
theorem idx_4 {α : Type} {l : List α} : idx l 4 = l[4]? := rfl
theorem idx_5 {α : Type} {l : List α} : idx l 5 = l[5]? := rfl
/- the oracle grows -/
noncomputable def ext (n : Str) (C : List V → Hp → (V → Hp → Prop) → XL → Prop) (Φ : Orc) : Orc := fun x vs H Q X => if x == n then C vs H Q X else Φ x vs H Q X
noncomputable def noΦ : Orc := fun _ _ _ _ _ => False
section
variable {Φ : Orc} {L : Lc} {H : Hp} {Q : V → Hp → Prop} {X : XL} {o a : IE} {j : Bool} {x y : Str} {i : Nat} {n : Int} {lo hi v : V} {R : List V → (Hp → Prop) → Prop}
theorem X_strm : (wp2 Φ (.strm o j a)).E L H Q X = (wp2 Φ o).E L H (fun vo H1 => oK (strV vo) fun x => (wp2 Φ a).E L H1 (fun va H2 => pStrm j x va H2 Q) X) X := rfl
theorem sV_str : strV (.str x) = some x := rfl
theorem q_join : pStrm true x (.ref i) H Q = oK (listAt H i) fun l => oK (strsOf l) fun ys => (ys.map (·.length)).sum + ys.length * x.length ≤ 1000000 ∧ Q (.str (Str.join x ys)) H := rfl
theorem q_split : pStrm false x (.str y) H Q = (((y.length == 0) = false ∧ x.length ≤ 1000000) ∧ Q (.ref H.length) (H ++ [.list ((Txt.split x y).map .str)])) := rfl
theorem q_strint : pCall Φ (.ty .str) [.int n] H Q X = ((n.natAbs < 2 ^ 64 ∧ (Str.ofString (toString n)).length ≤ 1000000) ∧ Q (.str (Str.ofString (toString n))) H) := rfl
theorem q_strstr : pCall Φ (.ty .str) [.str x] H Q X = Q (.str x) H := rfl
theorem q_intstr : pCall Φ (.ty .int) [.str x] H Q X = oK (intText? x) fun n => x.length ≤ 640 ∧ Q (.int n) H := rfl
theorem q_lenstr : pCall Φ (.bi .len) [.str x] H Q X = Q (.int (x.length : Int)) H := rfl
theorem q_slices : pSlice (.str x) lo hi H Q = oK (optInt lo) fun l => oK (optInt hi) fun h => Q (.str (Txt.slice x l h)) H := rfl
theorem q_ins : pCmp .In v (.str x) H Q = oK (strV v) fun y => Q (.bool (Txt.contains x y)) H := rfl
theorem q_nins : pCmp .NotIn v (.str x) H Q = oK (strV v) fun y => Q (.bool (!Txt.contains x y)) H := rfl
theorem u_str : pSrc .val [.str x] H R = (x.cps.all (· < 128) = true ∧ R (x.cps.toList.map fun c => V.str ⟨#[c]⟩) (fun _ => True)) := rfl
end
theorem listAt_pre {H H' : Hp} {i : Nat} {l : List V} (p : H <+: H') (h : listAt H i = some l) : listAt H' i = some l := by
  obtain ⟨Δ, rfl⟩ := p
  unfold listAt at h ⊢
  split at h
  · rename_i xs e
    rw [List.getElem?_append_left (List.getElem?_eq_some_iff.mp e).1, e]
    exact h
  · cases h
theorem listAt_new {H : Hp} {l : List V} : listAt (H ++ [.list l]) H.length = some l := by simp [listAt]
theorem set_new {H : Hp} {l m : List V} : (H ++ [O.list l]).set H.length (.list m) = H ++ [.list m] := by simp
theorem pre_new {H : Hp} {o : O} : H <+: H ++ [o] := List.prefix_append _ _
theorem idx_nat {α : Type} {l : List α} {k : Nat} : idx l (k : Int) = l[k]? := by simp [idx]
end Mine

set_option autoImplicit false
/- How the abstract values and heaps lie in the machine's heap; steps. -/
namespace Mine
open PySem

structure Wd where
  prog : Program
  w : World
  hB : Heap
  mg : Str → Option Value
  mb : Str → Option Value
  ex : List (Str × List Str)
  fr : List Env

noncomputable def TupAt (h : Heap) (a : Addr) (vs : List Value) : Prop := ∃ n, h.get? a = some { cls := .type "tuple", data := .seq vs.toArray n } ∧ vs.length ≤ 2000000

noncomputable def StrFine (x : Str) : Prop := x.length ≤ 2000000 ∧ PyData.strOk x = true

mutual
noncomputable def Rep (mg : Wd) (γ : List Addr) (h : Heap) (v : Value) : V → Prop
  | .none => v = .none
  | .bool b => v = .bool b
  | .int i => ∃ t, v = .int i t
  | .str s => ∃ t, v = .str s t ∧ StrFine s
  | .opq s => ∃ t, v = .str s t
  | .tup l => ∃ a vs, v = .ref a ∧ TupAt h a vs ∧ Reps mg γ h vs l
  | .ref i => ∃ a, γ[i]? = some a ∧ v = .ref a
  | .fn x => ∃ a, v = .ref a ∧ mg.mg x = some (.ref a)
  | .ty n => v = .type n.name
  | .bi n => v = .builtin n.name
  | .scr ns => ∃ (a : Addr) (vs : List Value), v = .ref a ∧ mg.hB.IsList a vs.toArray ∧ vs.length ≤ 2000000 ∧ vs.length = ns.length ∧ ∀ (k : Nat) (i : Int), ns[k]? = some i → ∃ t, vs[k]? = some (.int i t)
  | .cls x _ => ∃ a, v = .ref a ∧ mg.mg x = some (.ref a)
noncomputable def Reps (mg : Wd) (γ : List Addr) (h : Heap) (vs : List Value) : List V → Prop
  | [] => vs = []
  | V :: l => ∃ v r, vs = v :: r ∧ Rep mg γ h v V ∧ Reps mg γ h r l
end

noncomputable def ORep (mg : Wd) (γ : List Addr) (h : Heap) (a : Addr) : O → Prop
  | .list xs => ∃ vs n, h.get? a = some { cls := .type "list", data := .seq vs.toArray n } ∧ Reps mg γ h vs xs ∧ vs.length ≤ 2000000

/- the frames that are open -/
noncomputable def NotD (o : Obj) : Prop := ∀ es n, o.data ≠ .dict es n
noncomputable def FrsOk (D : Wd) (h : Heap) : Prop := ∀ e ∈ D.fr, e.scope.kind = .function ∧ ∃ (L : Addr) (o : Obj), e.frame = some L ∧ D.hB.get? L = none ∧ h.get? L = some o ∧ ¬ NotD o
theorem FrsOk.grow {D : Wd} {h h' : Heap} (f : FrsOk D h) (hk : ∀ b o, h.get? b = some o → h'.get? b = some o) : FrsOk D h' := fun e he => by
  obtain ⟨k, L, o, a, b, c, d⟩ := f e he
  exact ⟨k, L, o, a, b, hk _ _ c, d⟩
theorem FrsOk.but {D : Wd} {h h' : Heap} {I : Addr} (f : FrsOk D h) (hk : ∀ b o, b ≠ I → h.get? b = some o → h'.get? b = some o) (hI : (∃ o, h.get? I = some o ∧ NotD o) ∨ (∃ o, h'.get? I = some o ∧ ¬ NotD o)) : FrsOk D h' := fun e he => by
  obtain ⟨k, L, o, a, b, c, d⟩ := f e he
  by_cases hL : L = I
  · subst hL
    rcases hI with ⟨o', e1, e2⟩ | ⟨o', e1, e2⟩
    · rw [c] at e1; cases e1; exact absurd e2 d
    · exact ⟨k, L, o', a, b, e1, e2⟩
  · exact ⟨k, L, o, a, b, hk _ _ hL c, d⟩

theorem FrsOk.ne {D : Wd} {h : Heap} {I : Addr} (f : FrsOk D h) (hn : h.get? I = none) : ∀ e ∈ D.fr, e.frame ≠ some I := fun e he q => by
  obtain ⟨k, L, o, a, b, c, d⟩ := f e he
  rw [q] at a; cases a
  rw [hn] at c; cases c
theorem FrsOk.butN {D : Wd} {h h' : Heap} {I : Addr} (f : FrsOk D h) (hk : ∀ b o, b ≠ I → h.get? b = some o → h'.get? b = some o) (hI : ∀ e ∈ D.fr, e.frame ≠ some I) : FrsOk D h' := fun e he => by
  obtain ⟨k, L, o, a, b, c, d⟩ := f e he
  exact ⟨k, L, o, a, b, hk _ _ (fun q => hI e he (q ▸ a)) c, d⟩

structure HRel (D : Wd) (γ : List Addr) (H : Hp) (h : Heap) : Prop where
  len : γ.length = H.length
  nodup : γ.Nodup
  objs : ∀ (i : Nat) (a : Addr) (o : O), γ[i]? = some a → H[i]? = some o → ORep D γ h a o
  fresh : ∀ a ∈ γ, D.hB.get? a = none
  base : ∀ b o, D.hB.get? b = some o → h.get? b = some o
  frs : FrsOk D h

structure Stp (wr γ γ' : List Addr) (s s' : Shared) : Prop where
  same : ∃ h' tk, s' = { s with heap := h', toks := tk }
  keepS : ∀ b o, b ∉ γ → b ∉ wr → s.heap.get? b = some o → ∃ sl, s'.heap.get? b = some { o with slots := sl } ∧ (NotD o → sl = o.slots)
  ext : ∃ δ, γ' = γ ++ δ ∧ ∀ a ∈ δ, s.heap.get? a = none

theorem Stp.keep {wr γ γ' : List Addr} {s s' : Shared} (t : Stp wr γ γ' s s') (b : Addr) (o : Obj) (h1 : b ∉ γ) (h2 : b ∉ wr) (nd : NotD o) (e : s.heap.get? b = some o) : s'.heap.get? b = some o := by
  obtain ⟨sl, e', q⟩ := t.keepS b o h1 h2 e
  rw [q nd] at e'; exact e'
theorem Stp.of {wr γ γ' : List Addr} {s s' : Shared} (h1 : ∃ h' tk, s' = { s with heap := h', toks := tk }) (h2 : ∀ b o, b ∉ γ → b ∉ wr → s.heap.get? b = some o → s'.heap.get? b = some o) (h3 : ∃ δ, γ' = γ ++ δ ∧ ∀ a ∈ δ, s.heap.get? a = none) : Stp wr γ γ' s s' :=
  ⟨h1, fun b o a c e => ⟨o.slots, h2 b o a c e, fun _ => rfl⟩, h3⟩
theorem Stp.ns {wr γ γ' : List Addr} {s s' : Shared} (t : Stp wr γ γ' s s') {b : Addr} {m : Str → Option Value} (h1 : b ∉ γ) (h2 : b ∉ wr) (n : s.heap.Ns b m) : s'.heap.Ns b m := by
  obtain ⟨o, es, ep, ho, r⟩ := n
  obtain ⟨sl, e', _⟩ := t.keepS b o h1 h2 ho
  exact ⟨_, es, ep, e', r⟩
theorem Stp.live {wr γ γ' : List Addr} {s s' : Shared} (t : Stp wr γ γ' s s') {b : Addr} {o : Obj} (h1 : b ∉ γ) (h2 : b ∉ wr) (e : s.heap.get? b = some o) : ∃ o', s'.heap.get? b = some o' := by
  obtain ⟨sl, e', _⟩ := t.keepS b o h1 h2 e
  exact ⟨_, e'⟩
theorem notD_seq {o : Obj} {vs : Array Value} {n : Nat} (h : o.data = .seq vs n) : NotD o := fun es m q => by rw [h] at q; cases q
theorem notD_fields {o : Obj} {vs : Array Value} (h : o.data = .fields vs) : NotD o := fun es m q => by rw [h] at q; cases q
theorem isD_ns {h : Heap} {b : Addr} {m : Str → Option Value} (n : h.Ns b m) : ∃ o, h.get? b = some o ∧ ¬ NotD o := by
  obtain ⟨o, es, ep, ho, hd, _⟩ := n
  exact ⟨o, ho, fun q => q es ep hd⟩

theorem HRel.alive {D : Wd} {γ : List Addr} {H : Hp} {h : Heap} (R : HRel D γ H h) {a : Addr} (ha : a ∈ γ) : ∃ o, h.get? a = some o ∧ o.cls ≠ .type "tuple" ∧ (∀ es n, o.data ≠ .dict es n) ∧ (∀ v, o.data ≠ .cell v) := by
  obtain ⟨i, hi, rfl⟩ := List.getElem_of_mem ha
  have hH : i < H.length := R.len ▸ hi
  have := R.objs i γ[i] H[i] (by simp [hi]) (by simp [hH])
  cases ho : H[i] with
  | list xs =>
    rw [ho] at this
    obtain ⟨vs, n, e, _⟩ := this
    exact ⟨_, e, (by simp), (by intro es n q; cases q), (by intro v q; cases q)⟩

theorem Stp.refl {wr γ : List Addr} {s : Shared} : Stp wr γ γ s s := .of ⟨s.heap, s.toks, rfl⟩ (fun _ _ _ _ e => e) ⟨[], by simp, by simp⟩

theorem Stp.trans {D : Wd} {wr γ γ1 γ2 : List Addr} {s s1 s2 : Shared} {H1 : Hp} (R1 : HRel D γ1 H1 s1.heap) (a : Stp wr γ γ1 s s1) (b : Stp wr γ1 γ2 s1 s2)
    (hw : ∀ x ∈ wr, ∀ o, s.heap.get? x = some o → ∃ o', s1.heap.get? x = some o') : Stp wr γ γ2 s s2 := by
  obtain ⟨δ1, rfl, f1⟩ := a.ext
  obtain ⟨δ2, rfl, f2⟩ := b.ext
  refine ⟨?_, ?_, ⟨δ1 ++ δ2, by simp, ?_⟩⟩
  · obtain ⟨h1, t1, rfl⟩ := a.same
    obtain ⟨h2, t2, rfl⟩ := b.same
    exact ⟨h2, t2, rfl⟩
  · intro x o hx hxw e
    obtain ⟨sl1, e1, q1⟩ := a.keepS x o hx hxw e
    have hx2 : x ∉ γ ++ δ1 := ?_
    obtain ⟨sl2, e2, q2⟩ := b.keepS x _ hx2 hxw e1
    exact ⟨sl2, e2, fun nd => (q2 nd).trans (q1 nd)⟩
    intro hm
    rcases List.mem_append.mp hm with q | q
    · exact hx q
    · rw [f1 x q] at e; cases e
  · intro x hx
    rcases List.mem_append.mp hx with q | q
    · exact f1 x q
    · cases e : s.heap.get? x with
      | none => rfl
      | some o =>
        have hn := f2 x q
        by_cases hg : x ∈ γ
        · obtain ⟨o', e', _⟩ := R1.alive (List.mem_append_left _ hg)
          rw [e'] at hn; cases hn
        · by_cases hxw : x ∈ wr
          · obtain ⟨o', e'⟩ := hw x hxw o e
            rw [e'] at hn; cases hn
          · obtain ⟨o', e'⟩ := a.live hg hxw e
            rw [e'] at hn; cases hn

theorem Stp.trans0 {D : Wd} {γ γ1 γ2 : List Addr} {s s1 s2 : Shared} {H1 : Hp} (R1 : HRel D γ1 H1 s1.heap) (a : Stp [] γ γ1 s s1) (b : Stp [] γ1 γ2 s1 s2) : Stp [] γ γ2 s s2 :=
  a.trans R1 b (by simp)

theorem Stp.weak {wr γ γ' : List Addr} {s s' : Shared} (a : Stp [] γ γ' s s') : Stp wr γ γ' s s' := ⟨a.same, fun b o h1 _ e => a.keepS b o h1 (by simp) e, a.ext⟩

theorem getElem?_ext {γ γ' : List Addr} {i : Nat} {a : Addr} (h : ∃ δ, γ' = γ ++ δ) (e : γ[i]? = some a) : γ'[i]? = some a := by
  obtain ⟨δ, rfl⟩ := h
  rw [List.getElem?_append_left]
  · exact e
  · obtain ⟨h1, _⟩ := List.getElem?_eq_some_iff.mp e; exact h1

theorem nodup_inj {l : List Addr} (hn : l.Nodup) {i j : Nat} (hi : i < l.length) (hj : j < l.length) (e : l[i] = l[j]) : i = j := by
  have p := List.pairwise_iff_getElem.mp hn
  rcases Nat.lt_trichotomy i j with q | q | q
  · exact absurd e (p i j hi hj q)
  · exact q
  · exact absurd e.symm (p j i hj hi q)

mutual
theorem Rep.mono {mg : Wd} {γ γ' : List Addr} {h h' : Heap} (hg : ∃ δ, γ' = γ ++ δ) (hk : ∀ a vs, TupAt h a vs → TupAt h' a vs) {v : Value} : ∀ {V : V}, Rep mg γ h v V → Rep mg γ' h' v V
  | .none, x => by simpa only [Rep] using x
  | .bool _, x => by simpa only [Rep] using x
  | .int _, x => by simpa only [Rep] using x
  | .str _, x => by simpa only [Rep] using x
  | .opq _, x => by simpa only [Rep] using x
  | .tup l, x => by
    simp only [Rep] at x ⊢
    obtain ⟨a, vs, e, t, r⟩ := x
    exact ⟨a, vs, e, hk _ _ t, Reps.mono hg hk r⟩
  | .ref _, x => by
    simp only [Rep] at x ⊢
    obtain ⟨a, e, r⟩ := x
    exact ⟨a, getElem?_ext hg e, r⟩
  | .fn _, x => by simpa only [Rep] using x
  | .ty _, x => by simpa only [Rep] using x
  | .bi _, x => by simpa only [Rep] using x
  | .scr _, x => by simpa only [Rep] using x
  | .cls _ _, x => by simpa only [Rep] using x
theorem Reps.mono {mg : Wd} {γ γ' : List Addr} {h h' : Heap} (hg : ∃ δ, γ' = γ ++ δ) (hk : ∀ a vs, TupAt h a vs → TupAt h' a vs) {vs : List Value} : ∀ {l : List V}, Reps mg γ h vs l → Reps mg γ' h' vs l
  | [], x => by simpa only [Reps] using x
  | V :: l, x => by
    simp only [Reps] at x ⊢
    obtain ⟨v, r, e, a, b⟩ := x
    exact ⟨v, r, e, Rep.mono hg hk a, Reps.mono hg hk b⟩
end

theorem Reps.length {mg : Wd} {γ : List Addr} {h : Heap} : ∀ {vs : List Value} {l : List V}, Reps mg γ h vs l → vs.length = l.length
  | vs, [], x => by simp only [Reps] at x; simp [x]
  | vs, V :: l, x => by
    simp only [Reps] at x
    obtain ⟨v, r, rfl, _, b⟩ := x
    simp [Reps.length b]

theorem Reps.get {mg : Wd} {γ : List Addr} {h : Heap} : ∀ {vs : List Value} {l : List V} {k : Nat} {V : V}, Reps mg γ h vs l → l[k]? = some V → ∃ v, vs[k]? = some v ∧ Rep mg γ h v V
  | vs, [], _, _, _, e => by simp at e
  | vs, V :: l, k, W, x, e => by
    simp only [Reps] at x
    obtain ⟨v, r, rfl, a, b⟩ := x
    cases k with
    | zero => simp at e; subst e; exact ⟨v, by simp, a⟩
    | succ k => simp at e; obtain ⟨u, hu, ru⟩ := Reps.get b e; exact ⟨u, by simpa using hu, ru⟩

theorem Reps.append {mg : Wd} {γ : List Addr} {h : Heap} : ∀ {vs : List Value} {l : List V} {ws : List Value} {m : List V}, Reps mg γ h vs l → Reps mg γ h ws m → Reps mg γ h (vs ++ ws) (l ++ m)
  | vs, [], ws, m, x, y => by simp only [Reps] at x; subst x; simpa using y
  | vs, V :: l, ws, m, x, y => by
    simp only [Reps] at x
    obtain ⟨v, r, rfl, a, b⟩ := x
    simp only [List.cons_append, Reps]
    exact ⟨v, r ++ ws, rfl, a, Reps.append b y⟩

theorem Reps.drop {mg : Wd} {γ : List Addr} {h : Heap} : ∀ {vs : List Value} {l : List V} (n : Nat), Reps mg γ h vs l → Reps mg γ h (vs.drop n) (l.drop n)
  | vs, l, 0, x => by simpa using x
  | vs, [], n + 1, x => by simp only [Reps] at x; subst x; simp only [List.drop_nil, Reps]
  | vs, V :: l, n + 1, x => by
    simp only [Reps] at x
    obtain ⟨v, r, rfl, a, b⟩ := x
    simpa using Reps.drop n b
theorem Reps.take {mg : Wd} {γ : List Addr} {h : Heap} : ∀ {vs : List Value} {l : List V} (n : Nat), Reps mg γ h vs l → Reps mg γ h (vs.take n) (l.take n)
  | vs, l, 0, x => by simp only [List.take_zero, Reps]
  | vs, [], n + 1, x => by simp only [Reps] at x; subst x; simp only [List.take_nil, Reps]
  | vs, V :: l, n + 1, x => by
    simp only [Reps] at x
    obtain ⟨v, r, rfl, a, b⟩ := x
    simp only [List.take_succ_cons, Reps]
    exact ⟨v, _, rfl, a, Reps.take n b⟩
theorem Reps.one {mg : Wd} {γ : List Addr} {h : Heap} {v : Value} {V : V} (x : Rep mg γ h v V) : Reps mg γ h [v] [V] := by
  simp only [Reps]; exact ⟨v, [], rfl, x, rfl⟩

theorem Reps.of_get {mg : Wd} {γ : List Addr} {h : Heap} : ∀ {vs : List Value} {l : List V}, vs.length = l.length → (∀ (k : Nat) (v : Value) (V : V), vs[k]? = some v → l[k]? = some V → Rep mg γ h v V) → Reps mg γ h vs l
  | [], [], _, _ => by simp only [Reps]
  | [], _ :: _, e, _ => by simp at e
  | _ :: _, [], e, _ => by simp at e
  | v :: vs, V :: l, e, f => by
    simp only [Reps]
    exact ⟨v, vs, rfl, f 0 v V (by simp) (by simp), Reps.of_get (by simpa using e) fun k u U h1 h2 => f (k + 1) u U (by simpa using h1) (by simpa using h2)⟩

section
variable {D : Wd} {wr γ γ' : List Addr} {H : Hp} {s s' : Shared}

theorem TupAt.stp (R : HRel D γ H s.heap) (t : Stp wr γ γ' s s') (hw : ∀ x ∈ wr, ∀ ws, ¬ TupAt s.heap x ws) {a : Addr} {vs : List Value} (x : TupAt s.heap a vs) : TupAt s'.heap a vs := by
  obtain ⟨n, e, f⟩ := id x
  refine ⟨n, t.keep a _ ?_ ?_ (notD_seq rfl) e, f⟩
  · intro hm
    obtain ⟨o', e', nt, _⟩ := R.alive hm
    rw [e] at e'; cases e'; exact nt rfl
  · intro hm; exact hw a hm _ x

theorem Rep.stp (R : HRel D γ H s.heap) (t : Stp wr γ γ' s s') (hw : ∀ x ∈ wr, ∀ ws, ¬ TupAt s.heap x ws) {v : Value} {V : V} (x : Rep D γ s.heap v V) : Rep D γ' s'.heap v V :=
  Rep.mono (let ⟨δ, e, _⟩ := t.ext; ⟨δ, e⟩) (fun _ _ q => q.stp R t hw) x
theorem Reps.stp (R : HRel D γ H s.heap) (t : Stp wr γ γ' s s') (hw : ∀ x ∈ wr, ∀ ws, ¬ TupAt s.heap x ws) {vs : List Value} {l : List V} (x : Reps D γ s.heap vs l) : Reps D γ' s'.heap vs l :=
  Reps.mono (let ⟨δ, e, _⟩ := t.ext; ⟨δ, e⟩) (fun _ _ q => q.stp R t hw) x
theorem Rep.stp0 (R : HRel D γ H s.heap) (t : Stp [] γ γ' s s') {v : Value} {V : V} (x : Rep D γ s.heap v V) : Rep D γ' s'.heap v V := x.stp R t (by simp)
theorem Reps.stp0 (R : HRel D γ H s.heap) (t : Stp [] γ γ' s s') {vs : List Value} {l : List V} (x : Reps D γ s.heap vs l) : Reps D γ' s'.heap vs l := x.stp R t (by simp)

/- a step that only adds objects, and keeps every object there was -/
theorem stp_grow {h' : Heap} {tk : Nat} (hk : ∀ b o, s.heap.get? b = some o → h'.get? b = some o) : Stp wr γ γ s { s with heap := h', toks := tk } :=
  .of ⟨h', tk, rfl⟩ (fun b o _ _ e => hk b o e) ⟨[], by simp, by simp⟩

theorem tupAt_grow {h h' : Heap} (hk : ∀ b o, h.get? b = some o → h'.get? b = some o) {a : Addr} {vs : List Value} (x : TupAt h a vs) : TupAt h' a vs := by
  obtain ⟨n, e, r⟩ := x; exact ⟨n, hk _ _ e, r⟩

theorem HRel.grow {h h' : Heap} (R : HRel D γ H h) (hk : ∀ b o, h.get? b = some o → h'.get? b = some o) : HRel D γ H h' where
  len := R.len
  nodup := R.nodup
  objs := fun i a o e1 e2 => by
    have := R.objs i a o e1 e2
    cases o with
    | list xs =>
      obtain ⟨vs, n, e, r, z⟩ := this
      exact ⟨vs, n, hk _ _ e, Reps.mono ⟨[], by simp⟩ (fun _ _ => tupAt_grow hk) r, z⟩
  fresh := R.fresh
  base := fun b o e => hk _ _ (R.base b o e)
  frs := R.frs.grow hk

/- a new list at the end of the abstract heap -/
theorem HRel.newList {vs : List Value} {l : List V} {h : Heap} (R : HRel D γ H h) (r : Reps D γ h vs l) (hz : l.length ≤ 2000000) :
    HRel D (γ ++ [h.objs.size]) (H ++ [.list l]) (h.push { cls := .type "list", data := .seq vs.toArray }) where
  len := by simp [R.len]
  nodup := by
    refine List.nodup_append.mpr ⟨R.nodup, by simp, ?_⟩
    intro a ha b hb
    simp at hb; subst hb
    intro e; subst e
    obtain ⟨o, e, _⟩ := R.alive ha
    exact absurd (Heap.lt_size e) (Nat.lt_irrefl _)
  objs := fun i a o e1 e2 => by
    have hk : ∀ b o, h.get? b = some o → (h.push { cls := .type "list", data := .seq vs.toArray }).get? b = some o := fun b o e => Heap.get?_push_of_some _ e
    have ht : ∀ a vs', TupAt h a vs' → TupAt (h.push { cls := .type "list", data := .seq vs.toArray }) a vs' := fun _ _ => tupAt_grow hk
    rcases Nat.lt_trichotomy i γ.length with hi | hi | hi
    · rw [List.getElem?_append_left hi] at e1
      rw [List.getElem?_append_left (R.len ▸ hi)] at e2
      have := R.objs i a o e1 e2
      cases o with
      | list xs =>
        obtain ⟨ws, n, e, q, z⟩ := this
        exact ⟨ws, n, hk _ _ e, Reps.mono ⟨_, rfl⟩ ht q, z⟩
    · subst hi
      rw [List.getElem?_append_right (Nat.le_refl _)] at e1
      rw [R.len, List.getElem?_append_right (Nat.le_refl _)] at e2
      simp at e1 e2; subst e1; subst e2
      exact ⟨vs, 0, Heap.get?_push_size _ rfl, Reps.mono ⟨_, rfl⟩ ht r, by rw [r.length]; exact hz⟩
    · exfalso
      have : (γ ++ [h.objs.size]).length ≤ i := by simp; omega
      rw [List.getElem?_eq_none this] at e1; cases e1
  fresh := by
    intro a ha
    rcases List.mem_append.mp ha with q | q
    · exact R.fresh a q
    · simp at q; subst q
      cases e : D.hB.get? h.objs.size with
      | none => rfl
      | some o => exact absurd (Heap.lt_size (R.base _ _ e)) (Nat.lt_irrefl _)
  base := fun b o e => Heap.get?_push_of_some _ (R.base b o e)
  frs := R.frs.grow fun b o e => Heap.get?_push_of_some _ e

theorem HRel.addList {vs : List Value} {l : List V} {h h' : Heap} {a : Addr} {n : Nat} (R : HRel D γ H h) (r : Reps D γ h vs l) (hz : l.length ≤ 2000000)
    (hk : ∀ b o, h.get? b = some o → h'.get? b = some o) (hn : h.get? a = none) (ha : h'.get? a = some { cls := .type "list", data := .seq vs.toArray n }) :
    HRel D (γ ++ [a]) (H ++ [.list l]) h' where
  len := by simp [R.len]
  nodup := by
    refine List.nodup_append.mpr ⟨R.nodup, by simp, ?_⟩
    intro b hb c hc
    simp at hc; subst hc
    intro e; subst e
    obtain ⟨o, e, _⟩ := R.alive hb
    rw [hn] at e; cases e
  objs := fun i b o e1 e2 => by
    have ht : ∀ a vs', TupAt h a vs' → TupAt h' a vs' := fun _ _ => tupAt_grow hk
    rcases Nat.lt_trichotomy i γ.length with hi | hi | hi
    · rw [List.getElem?_append_left hi] at e1
      rw [List.getElem?_append_left (R.len ▸ hi)] at e2
      have := R.objs i b o e1 e2
      cases o with
      | list xs =>
        obtain ⟨ws, n, e, q, z⟩ := this
        exact ⟨ws, n, hk _ _ e, Reps.mono ⟨_, rfl⟩ ht q, z⟩
    · subst hi
      rw [List.getElem?_append_right (Nat.le_refl _)] at e1
      rw [R.len, List.getElem?_append_right (Nat.le_refl _)] at e2
      simp at e1 e2; subst e1; subst e2
      exact ⟨vs, n, ha, Reps.mono ⟨_, rfl⟩ ht r, by rw [r.length]; exact hz⟩
    · exfalso
      have : (γ ++ [a]).length ≤ i := by simp; omega
      rw [List.getElem?_eq_none this] at e1; cases e1
  fresh := by
    intro b hb
    rcases List.mem_append.mp hb with q | q
    · exact R.fresh b q
    · simp at q; subst q
      cases e : D.hB.get? b with
      | none => rfl
      | some o => have := R.base _ _ e; rw [hn] at this; cases this
  base := fun b o e => hk _ _ (R.base b o e)
  frs := R.frs.grow hk

theorem Stp.newList {o : Obj} {h : Heap} (e : s.heap = h) : Stp wr γ (γ ++ [h.objs.size]) s { s with heap := h.push o } :=
  .of ⟨_, s.toks, rfl⟩ (fun b o' _ _ q => Heap.get?_push_of_some _ (e ▸ q)) ⟨[h.objs.size], rfl, fun a ha => by
    simp at ha; subst ha; subst e
    cases q : s.heap.get? s.heap.objs.size with
    | none => rfl
    | some o => exact absurd (Heap.lt_size q) (Nat.lt_irrefl _)⟩

/- a list of the abstract heap changed -/
theorem HRel.setList {i : Nat} {a : Addr} {vs : List Value} {l : List V} {n : Nat} {h h' : Heap} (R : HRel D γ H h) (hi : γ[i]? = some a) (r : Reps D γ h vs l) (hz : l.length ≤ 2000000)
    (e : h'.get? a = some { cls := .type "list", data := .seq vs.toArray n }) (hk : ∀ b o, b ≠ a → h.get? b = some o → h'.get? b = some o) :
    HRel D γ (H.set i (.list l)) h' := by
  have ha : a ∈ γ := List.mem_of_getElem? hi
  have ht : ∀ b ws, TupAt h b ws → TupAt h' b ws := fun b ws x => by
    obtain ⟨m, q, d⟩ := x
    refine ⟨m, hk _ _ ?_ q, d⟩
    rintro rfl
    obtain ⟨o', e', nt, _⟩ := R.alive ha
    rw [q] at e'; cases e'; exact nt rfl
  refine ⟨by simp [R.len], R.nodup, ?_, R.fresh, ?_, R.frs.but hk (.inl (let ⟨o, e1, _, e2, _⟩ := R.alive ha; ⟨o, e1, e2⟩))⟩
  · intro j b o e1 e2
    by_cases hj : i = j
    · subst hj
      rw [hi] at e1; cases e1
      have hlt : i < H.length := R.len ▸ (List.getElem?_eq_some_iff.mp hi).1
      rw [List.getElem?_set_self hlt] at e2; cases e2
      exact ⟨vs, n, e, Reps.mono ⟨[], by simp⟩ ht r, by rw [r.length]; exact hz⟩
    · rw [List.getElem?_set_ne hj] at e2
      have hb : b ≠ a := by
        rintro rfl
        obtain ⟨h1, q1⟩ := List.getElem?_eq_some_iff.mp hi
        obtain ⟨h2, q2⟩ := List.getElem?_eq_some_iff.mp e1
        exact hj (nodup_inj R.nodup h1 h2 (q1.trans q2.symm))
      have := R.objs j b o e1 e2
      cases o with
      | list xs =>
        obtain ⟨ws, m, q, z, y⟩ := this
        exact ⟨ws, m, hk _ _ hb q, Reps.mono ⟨[], by simp⟩ ht z, y⟩
  · intro b o q
    refine hk b o ?_ (R.base b o q)
    rintro rfl
    rw [R.fresh _ ha] at q; cases q
end
end Mine

set_option autoImplicit false
/- Posts, locals, and how trees go on. -/
namespace Mine
open PySem

/- what is raised: new, or noted in the frames within -/
noncomputable def XNew (D : Wd) (s : Shared) (h : Heap) (e : Value) (x : Exc) : Prop := ∃ a oe vs C a0, e = .ref a ∧ s.heap.get? a = none ∧ h.get? a = some oe ∧ oe.cls = .ref C ∧ D.mg x.cls = some (.ref C) ∧ oe.data = .fields vs ∧ vs[0]? = some a0 ∧ vs[1]? = some .none
noncomputable def XFly (D : Wd) (s : Shared) (h : Heap) (e : Value) (x : Exc) : Prop := ∃ a oe vs C a0 T oT ts, e = .ref a ∧ s.heap.get? a = none ∧ h.get? a = some oe ∧ oe.cls = .ref C ∧ D.mg x.cls = some (.ref C) ∧ oe.data = .fields vs ∧ vs[0]? = some a0 ∧
  vs[1]? = some (.ref T) ∧ s.heap.get? T = none ∧ T ≠ a ∧ h.get? T = some oT ∧ oT.data = .fields ts ∧ ts[3]? = some .none

noncomputable def PostV (D : Wd) (γ : List Addr) (s : Shared) (Q : V → Hp → Prop) (v : Value) (s' : Shared) : Prop :=
  ∃ γ' V H', Stp [] γ γ' s s' ∧ HRel D γ' H' s'.heap ∧ Rep D γ' s'.heap v V ∧ Q V H'
noncomputable def PostL (D : Wd) (γ : List Addr) (s : Shared) (Q : List V → Hp → Prop) (vs : List Value) (s' : Shared) : Prop :=
  ∃ γ' Vs H', Stp [] γ γ' s s' ∧ HRel D γ' H' s'.heap ∧ Reps D γ' s'.heap vs Vs ∧ Q Vs H'
noncomputable def PostB (D : Wd) (γ : List Addr) (s : Shared) (Q : Bool → Hp → Prop) (c : Bool) (s' : Shared) : Prop :=
  ∃ γ' H', Stp [] γ γ' s s' ∧ HRel D γ' H' s'.heap ∧ Q c H'
noncomputable def PostX (D : Wd) (γ : List Addr) (s : Shared) (X : XL) (e : Value) (s' : Shared) : Prop :=
  ∃ γ' H' x, Stp [] γ γ' s s' ∧ HRel D γ' H' s'.heap ∧ (XFly D s s'.heap e x ∧ (x.cls, x.ups) ∈ D.ex) ∧ X x H'
theorem PostX.no {D : Wd} {γ : List Addr} {s : Shared} {e : Value} {s' : Shared} (h : PostX D γ s noX e s') : False := by
  obtain ⟨_, _, _, _, _, _, x⟩ := h; exact x

noncomputable abbrev Wd.M (D : Wd) : Model := model D.prog D.w

structure AOk (D : Wd) (k : Nat) (A : Around) : Prop where
  frames : A.frames = some D.fr
  handled : A.handled = none
  depth : A.depth + k < 900
  units : A.units + 4 * k < 9000
  guards : A.guards = some []

noncomputable abbrev Wd.push (D : Wd) (env : Env) : Wd := { D with fr := env :: D.fr }
theorem AOk.mono {D : Wd} {k k' : Nat} {A : Around} (h : AOk D k A) (hk : k' ≤ k) : AOk D k' A := ⟨h.frames, h.handled, by have := h.depth; omega, by have := h.units; omega, h.guards⟩
theorem AOk.deeper {D : Wd} {k : Nat} {A : Around} (h : AOk D (k + 1) A) (env : Env) : AOk (D.push env) k (A.deeper env) :=
  ⟨Around.frames_deeper h.frames, h.handled, by have := h.depth; show A.depth + 1 + k < 900; omega, by have := h.units; show A.units + 3 + 4 * k < 9000; omega, h.guards⟩
theorem fresh_back {D : Wd} {γ γ1 : List Addr} {H1 : Hp} {s s1 : Shared} (t : Stp [] γ γ1 s s1) (R : HRel D γ1 H1 s1.heap) {a : Addr} (h : s1.heap.get? a = none) : s.heap.get? a = none := by
  cases e : s.heap.get? a with
  | none => rfl
  | some o =>
    by_cases hg : a ∈ γ
    · obtain ⟨δ, rfl, _⟩ := t.ext
      obtain ⟨o', e', _⟩ := R.alive (List.mem_append_left _ hg)
      rw [h] at e'; cases e'
    · obtain ⟨o', e'⟩ := t.live hg (by simp) e
      rw [h] at e'; cases e'
theorem XFly.from {D : Wd} {s s1 : Shared} {h : Heap} {e : Value} {x : Exc} (f : ∀ a, s1.heap.get? a = none → s.heap.get? a = none) (q : XFly D s1 h e x) : XFly D s h e x := by
  obtain ⟨a, oe, vs, C, a0, T, oT, ts, h1, h2, h3, h4, h5, h6, h7, h8, h9, h10⟩ := q
  exact ⟨a, oe, vs, C, a0, T, oT, ts, h1, f a h2, h3, h4, h5, h6, h7, h8, f T h9, h10⟩
theorem XNew.from {D : Wd} {s s1 : Shared} {h : Heap} {e : Value} {x : Exc} (f : ∀ a, s1.heap.get? a = none → s.heap.get? a = none) (q : XNew D s1 h e x) : XNew D s h e x := by
  obtain ⟨a, oe, vs, C, a0, h1, h2, h3⟩ := q
  exact ⟨a, oe, vs, C, a0, h1, f a h2, h3⟩

section
variable {D : Wd} {γ γ1 : List Addr} {H H1 : Hp} {s s1 : Shared} {A : Around}

theorem PostV.back {Q : V → Hp → Prop} {v : Value} {s' : Shared} (t : Stp [] γ γ1 s s1) (R : HRel D γ1 H1 s1.heap) (h : PostV D γ1 s1 Q v s') : PostV D γ s Q v s' := by
  obtain ⟨γ', V, H', a, b, c, d⟩ := h
  exact ⟨γ', V, H', t.trans0 R a, b, c, d⟩
theorem PostL.back {Q : List V → Hp → Prop} {v : List Value} {s' : Shared} (t : Stp [] γ γ1 s s1) (R : HRel D γ1 H1 s1.heap) (h : PostL D γ1 s1 Q v s') : PostL D γ s Q v s' := by
  obtain ⟨γ', V, H', a, b, c, d⟩ := h
  exact ⟨γ', V, H', t.trans0 R a, b, c, d⟩
theorem PostB.back {Q : Bool → Hp → Prop} {v : Bool} {s' : Shared} (t : Stp [] γ γ1 s s1) (R : HRel D γ1 H1 s1.heap) (h : PostB D γ1 s1 Q v s') : PostB D γ s Q v s' := by
  obtain ⟨γ', H', a, b, d⟩ := h
  exact ⟨γ', H', t.trans0 R a, b, d⟩
theorem PostX.back {X : XL} {v : Value} {s' : Shared} (t : Stp [] γ γ1 s s1) (R : HRel D γ1 H1 s1.heap) (h : PostX D γ1 s1 X v s') : PostX D γ s X v s' := by
  obtain ⟨γ', H', x, a, b, ⟨c, m⟩, d⟩ := h
  exact ⟨γ', H', x, t.trans0 R a, b, ⟨c.from fun _ => fresh_back t R, m⟩, d⟩

theorem backV {t : Sem Value} {Q : V → Hp → Prop} {X : XL} (st : Stp [] γ γ1 s s1) (R : HRel D γ1 H1 s1.heap) (h : wpAny D.M A t (PostV D γ1 s1 Q) (PostX D γ1 s1 X) s1) :
    wpAny D.M A t (PostV D γ s Q) (PostX D γ s X) s1 := wpAny_mono h (fun _ _ x => x.back st R) (fun _ _ x => x.back st R)
theorem backB {t : Sem Bool} {Q : Bool → Hp → Prop} {X : XL} (st : Stp [] γ γ1 s s1) (R : HRel D γ1 H1 s1.heap) (h : wpAny D.M A t (PostB D γ1 s1 Q) (PostX D γ1 s1 X) s1) :
    wpAny D.M A t (PostB D γ s Q) (PostX D γ s X) s1 := wpAny_mono h (fun _ _ x => x.back st R) (fun _ _ x => x.back st R)
theorem backL {t : Sem (List Value)} {Q : List V → Hp → Prop} {X : XL} (st : Stp [] γ γ1 s s1) (R : HRel D γ1 H1 s1.heap) (h : wpAny D.M A t (PostL D γ1 s1 Q) (PostX D γ1 s1 X) s1) :
    wpAny D.M A t (PostL D γ s Q) (PostX D γ s X) s1 := wpAny_mono h (fun _ _ x => x.back st R) (fun _ _ x => x.back st R)

/- the first tree of several -/
theorem andThen {t : Sem Value} {Q : V → Hp → Prop} {P : Value → Shared → Prop} {X : XL} (h : wpAny D.M A t (PostV D γ s Q) (PostX D γ s X) s)
    (k : ∀ v s1 γ1 V H1, Stp [] γ γ1 s s1 → HRel D γ1 H1 s1.heap → Rep D γ1 s1.heap v V → Q V H1 → P v s1) : wpAny D.M A t P (PostX D γ s X) s :=
  wpAny_mono h (fun v s1 ⟨γ1, V, H1, a, b, c, d⟩ => k v s1 γ1 V H1 a b c d) (fun _ _ x => x)
theorem andThenL {t : Sem (List Value)} {Q : List V → Hp → Prop} {P : List Value → Shared → Prop} {X : XL} (h : wpAny D.M A t (PostL D γ s Q) (PostX D γ s X) s)
    (k : ∀ v s1 γ1 V H1, Stp [] γ γ1 s s1 → HRel D γ1 H1 s1.heap → Reps D γ1 s1.heap v V → Q V H1 → P v s1) : wpAny D.M A t P (PostX D γ s X) s :=
  wpAny_mono h (fun v s1 ⟨γ1, V, H1, a, b, c, d⟩ => k v s1 γ1 V H1 a b c d) (fun _ _ x => x)
theorem andThenB {t : Sem Bool} {Q : Bool → Hp → Prop} {P : Bool → Shared → Prop} {X : XL} (h : wpAny D.M A t (PostB D γ s Q) (PostX D γ s X) s)
    (k : ∀ v s1 γ1 H1, Stp [] γ γ1 s s1 → HRel D γ1 H1 s1.heap → Q v H1 → P v s1) : wpAny D.M A t P (PostX D γ s X) s :=
  wpAny_mono h (fun v s1 ⟨γ1, H1, a, b, d⟩ => k v s1 γ1 H1 a b d) (fun _ _ x => x)
/- a later one: what it raises is told from the start -/
theorem thenV {t : Sem Value} {Q : V → Hp → Prop} {P : Value → Shared → Prop} {X : XL} (st : Stp [] γ γ1 s s1) (R : HRel D γ1 H1 s1.heap) (h : wpAny D.M A t (PostV D γ1 s1 Q) (PostX D γ1 s1 X) s1)
    (k : ∀ v s2 γ2 V H2, Stp [] γ1 γ2 s1 s2 → HRel D γ2 H2 s2.heap → Rep D γ2 s2.heap v V → Q V H2 → P v s2) : wpAny D.M A t P (PostX D γ s X) s1 :=
  wpAny_mono h (fun v s2 ⟨γ2, V, H2, a, b, c, d⟩ => k v s2 γ2 V H2 a b c d) (fun _ _ x => x.back st R)
theorem thenL {t : Sem (List Value)} {Q : List V → Hp → Prop} {P : List Value → Shared → Prop} {X : XL} (st : Stp [] γ γ1 s s1) (R : HRel D γ1 H1 s1.heap) (h : wpAny D.M A t (PostL D γ1 s1 Q) (PostX D γ1 s1 X) s1)
    (k : ∀ v s2 γ2 V H2, Stp [] γ1 γ2 s1 s2 → HRel D γ2 H2 s2.heap → Reps D γ2 s2.heap v V → Q V H2 → P v s2) : wpAny D.M A t P (PostX D γ s X) s1 :=
  wpAny_mono h (fun v s2 ⟨γ2, V, H2, a, b, c, d⟩ => k v s2 γ2 V H2 a b c d) (fun _ _ x => x.back st R)
theorem thenB {t : Sem Bool} {Q : Bool → Hp → Prop} {P : Bool → Shared → Prop} {X : XL} (st : Stp [] γ γ1 s s1) (R : HRel D γ1 H1 s1.heap) (h : wpAny D.M A t (PostB D γ1 s1 Q) (PostX D γ1 s1 X) s1)
    (k : ∀ v s2 γ2 H2, Stp [] γ1 γ2 s1 s2 → HRel D γ2 H2 s2.heap → Q v H2 → P v s2) : wpAny D.M A t P (PostX D γ s X) s1 :=
  wpAny_mono h (fun v s2 ⟨γ2, H2, a, b, d⟩ => k v s2 γ2 H2 a b d) (fun _ _ x => x.back st R)

/- ends without a change of the heap -/
theorem PostV.now {Q : V → Hp → Prop} {v : Value} {V : V} (R : HRel D γ H s.heap) (r : Rep D γ s.heap v V) (h : Q V H) {tk : Nat} : PostV D γ s Q v { s with toks := tk } :=
  ⟨γ, V, H, stp_grow fun _ _ e => e, R, r, h⟩
theorem PostV.here {Q : V → Hp → Prop} {v : Value} {V : V} (R : HRel D γ H s.heap) (r : Rep D γ s.heap v V) (h : Q V H) : PostV D γ s Q v s :=
  ⟨γ, V, H, Stp.refl, R, r, h⟩
theorem PostB.now {Q : Bool → Hp → Prop} {c : Bool} (R : HRel D γ H s.heap) (h : Q c H) {tk : Nat} : PostB D γ s Q c { s with toks := tk } :=
  ⟨γ, H, stp_grow fun _ _ e => e, R, h⟩
theorem PostB.here {Q : Bool → Hp → Prop} {c : Bool} (R : HRel D γ H s.heap) (h : Q c H) : PostB D γ s Q c s := ⟨γ, H, Stp.refl, R, h⟩
/- ends where objects were added that nothing names -/
theorem PostV.grown {Q : V → Hp → Prop} {v : Value} {V : V} {h' : Heap} {tk : Nat} (R : HRel D γ H s.heap) (hk : ∀ b o, s.heap.get? b = some o → h'.get? b = some o) (r : Rep D γ h' v V) (h : Q V H) :
    PostV D γ s Q v { s with heap := h', toks := tk } := ⟨γ, V, H, stp_grow hk, R.grow hk, r, h⟩
/- a new list -/
theorem PostV.newList {Q : V → Hp → Prop} {vs : List Value} {l : List V} (R : HRel D γ H s.heap) (r : Reps D γ s.heap vs l) (hz : l.length ≤ 2000000) (h : Q (.ref H.length) (H ++ [.list l])) :
    PostV D γ s Q (.ref s.heap.objs.size) { s with heap := s.heap.push { cls := .type "list", data := .seq vs.toArray } } :=
  ⟨γ ++ [s.heap.objs.size], .ref H.length, H ++ [.list l], Stp.newList rfl, R.newList r hz, by
    simp only [Rep]; exact ⟨_, by rw [List.getElem?_append_right (by rw [R.len]; exact Nat.le_refl _)]; simp [R.len], rfl⟩, h⟩
theorem PostV.addList {Q : V → Hp → Prop} {vs : List Value} {l : List V} {h' : Heap} {a : Addr} {n tk : Nat} (R : HRel D γ H s.heap) (r : Reps D γ s.heap vs l) (hz : l.length ≤ 2000000)
    (hk : ∀ b o, s.heap.get? b = some o → h'.get? b = some o) (hn : s.heap.get? a = none) (ha : h'.get? a = some { cls := .type "list", data := .seq vs.toArray n }) (h : Q (.ref H.length) (H ++ [.list l])) :
    PostV D γ s Q (.ref a) { s with heap := h', toks := tk } :=
  ⟨γ ++ [a], .ref H.length, H ++ [.list l], Stp.of ⟨_, _, rfl⟩ (fun b o _ _ e => hk b o e) ⟨[a], rfl, fun b hb => by simp at hb; subst hb; exact hn⟩, R.addList r hz hk hn ha, by
    simp only [Rep]; exact ⟨_, by rw [List.getElem?_append_right (by rw [R.len]; exact Nat.le_refl _)]; simp [R.len], rfl⟩, h⟩
theorem none_end (h : Heap) : h.get? h.objs.size = none := by
  cases e : h.get? h.objs.size with
  | none => rfl
  | some o => exact absurd (Heap.lt_size e) (Nat.lt_irrefl _)
/- a list of the abstract heap changed -/
theorem PostV.setList {Q : V → Hp → Prop} {vs : List Value} {l : List V} {h' : Heap} {i : Nat} {a : Addr} {n tk : Nat} {v : Value} {V : V} (R : HRel D γ H s.heap) (hi : γ[i]? = some a) (r : Reps D γ s.heap vs l) (hz : l.length ≤ 2000000)
    (hk : ∀ b o, b ≠ a → s.heap.get? b = some o → h'.get? b = some o) (ha : h'.get? a = some { cls := .type "list", data := .seq vs.toArray n }) (rv : Rep D γ h' v V) (h : Q V (H.set i (.list l))) :
    PostV D γ s Q v { s with heap := h', toks := tk } :=
  ⟨γ, V, H.set i (.list l), Stp.of ⟨_, _, rfl⟩ (fun b o hb _ e => hk b o (fun q => hb (q ▸ List.mem_of_getElem? hi)) e) ⟨[], by simp, by simp⟩, R.setList hi r hz ha hk, rv, h⟩
/- a new tuple -/
theorem PostV.newTuple {Q : V → Hp → Prop} {vs : List Value} {l : List V} (R : HRel D γ H s.heap) (r : Reps D γ s.heap vs l) (hz : l.length ≤ 2000000) (h : Q (.tup l) H) :
    PostV D γ s Q (.ref s.heap.objs.size) { s with heap := s.heap.push { cls := .type "tuple", data := .seq vs.toArray } } :=
  have hk : ∀ b o, s.heap.get? b = some o → (s.heap.push { cls := .type "tuple", data := .seq vs.toArray }).get? b = some o := fun _ _ e => Heap.get?_push_of_some _ e
  ⟨γ, .tup l, H, Stp.of ⟨_, s.toks, rfl⟩ (fun b o _ _ e => hk b o e) ⟨[], by simp, by simp⟩, R.grow hk, by
    simp only [Rep]
    exact ⟨_, vs, rfl, ⟨0, Heap.get?_push_size _ rfl, by rw [r.length]; exact hz⟩, Reps.mono ⟨[], by simp⟩ (fun _ _ => tupAt_grow hk) r⟩, h⟩
end

/- names -/
structure LRel (D : Wd) (γ : List Addr) (env : Env) (slots : List (Str × Nat)) (h : Heap) (L : Lc) : Prop where
  ns : ∃ m, h.Ns env.locals m ∧ ∀ (x : Str) (i : Nat) (V : V), env.kindOf x = some .local → slots.lookup x = some i → L[i]? = some (some V) → ∃ v, m x = some v ∧ Rep D γ h v V
  cel : ∀ (x : Str), env.kindOf x = some .cell → ∃ c u, env.cells.lookup x = some c ∧ h.IsCell c u ∧ c ∉ γ ∧
    ∀ (i : Nat) (V : V), slots.lookup x = some i → L[i]? = some (some V) → ∃ v, u = some v ∧ Rep D γ h v V
  nin : env.locals ∉ γ

structure EnvOk (c : CC) (env : Env) : Prop where
  scope : env.scope = c.scope
  kind : c.scope.kind = .function
  globals : env.globals = mainGlobals
  builtins : env.builtins = builtinsNs

/- an exception class of the text's own; ups: the names of the classes it comes under -/
noncomputable def qN : List Str := ["__init__", "__getattribute__", "__getattr__", "__class__"]
inductive TailN (h : Heap) (bmB : List Value) : List Value → Prop
  | base : TailN h bmB bmB
  | own {A : Addr} {c0 : Value} {dd : Option Addr} {cd : ClassData} {sl : Array (Option Value)} {mA : Str → Option Value} {tl : List Value} :
      h.get? A = some { cls := c0, dict := dd, data := .cls cd, slots := sl } → h.Ns cd.ns mA → (∀ n ∈ qN, mA n = none) → TailN h bmB tl → TailN h bmB (.ref A :: tl)
theorem TailN.tail {h : Heap} {bmB tl : List Value} (T : TailN h bmB tl) : OwnTail h bmB tl := by
  induction T with
  | base => exact .base
  | own hA hN hq _ ih => exact .own hA hN (hq _ (.head _)) ih
theorem TailN.keeps {h h' : Heap} {bmB tl : List Value} (T : TailN h bmB tl) (hk : ∀ b o, h.get? b = some o → h'.get? b = some o) : TailN h' bmB tl := by
  induction T with
  | base => exact .base
  | own hA hN hq _ ih => exact .own (hk _ _ hA) (hN.keeps hk) hq ih
noncomputable abbrev bmV : List Value := [.type "ValueError", .type "Exception", .type "BaseException", .type "object"]
noncomputable def ClsAt (h : Heap) (C : Addr) (bm : List Value) : Prop :=
  ∃ N nm q bs hdct sn sub ab col dd k0 k1 k2 k3 k5 mN, h.get? C = some (excClassObj nm q C N bs bm hdct sn sub ab col dd k0 k1 k2 k3 k5 "ValueError.__new__") ∧ h.Ns N mN ∧ (∀ n ∈ qN, mN n = none) ∧ TailN h bmV bm
theorem ClsAt.keeps {h h' : Heap} {C : Addr} {bm : List Value} (x : ClsAt h C bm) (hk : ∀ b o, h.get? b = some o → h'.get? b = some o) : ClsAt h' C bm := by
  obtain ⟨N, nm, q, bs, hdct, sn, sub, ab, col, dd, k0, k1, k2, k3, k5, mN, hC, hN, hq, T⟩ := x
  exact ⟨N, nm, q, bs, hdct, sn, sub, ab, col, dd, k0, k1, k2, k3, k5, mN, hk _ _ hC, hN.keeps hk, hq, T.keeps hk⟩
noncomputable def ClsOk (D : Wd) (x : Str) (ups : List Str) (C : Addr) : Prop :=
  ∃ bm, D.mg x = some (.ref C) ∧ ClsAt D.hB C bm ∧
    (∀ (y : Str) (ups' : List Str) (Cy : Addr), (y, ups') ∈ D.ex → D.mg y = some (.ref Cy) → (Value.ref C :: bm).contains (.ref Cy) = ups.contains y) ∧ ups.contains ("ValueError" : Str) = true

structure GOk (D : Wd) (G : List (Str × V)) : Prop where
  gns : D.hB.Ns mainGlobals D.mg
  bns : D.hB.Ns builtinsNs D.mb
  val : ∀ (x : Str) (V : V), G.lookup x = some V → ∃ v, (D.mg x = some v ∨ (D.mg x = none ∧ D.mb x = some v)) ∧ ∀ γ, Rep D γ D.hB v V
  lim : D.hB.NoLimit
  cls : ∀ (x z : Str) (ups : List Str), G.lookup x = some (.cls z ups) → (z, ups) ∈ D.ex
  exs : ∀ (x : Str) (ups : List Str), (x, ups) ∈ D.ex → ∃ C, ClsOk D x ups C

section
variable {D : Wd} {γ γ1 : List Addr} {H H1 : Hp} {s s1 : Shared} {env : Env} {slots : List (Str × Nat)} {L : Lc}

theorem notin_ext (t : Stp [] γ γ1 s s1) {a : Addr} {o : Obj} (h : a ∉ γ) (e : s.heap.get? a = some o) : a ∉ γ1 := by
  obtain ⟨δ, rfl, f⟩ := t.ext
  intro q
  rcases List.mem_append.mp q with q | q
  · exact h q
  · rw [f a q] at e; cases e

theorem LRel.stp (l : LRel D γ env slots s.heap L) (R : HRel D γ H s.heap) (t : Stp [] γ γ1 s s1) : LRel D γ1 env slots s1.heap L where
  ns := by
    obtain ⟨m, n, f⟩ := l.ns
    refine ⟨m, t.ns l.nin (by simp) n, fun x i V a b c => ?_⟩
    obtain ⟨v, e, q⟩ := f x i V a b c
    exact ⟨v, e, q.stp0 R t⟩
  cel := fun x hx => by
    obtain ⟨c, u, a, ⟨o, ho, hd⟩, hc, f⟩ := l.cel x hx
    refine ⟨c, u, a, ⟨o, t.keep _ _ hc (by simp) (fun es n q => by rw [hd] at q; cases q) ho, hd⟩, notin_ext t hc ho, fun i V b d => ?_⟩
    obtain ⟨v, e, q⟩ := f i V b d
    exact ⟨v, e, q.stp0 R t⟩
  nin := by
    obtain ⟨m, ⟨o, es, ep, ho, r⟩, f⟩ := l.ns
    exact notin_ext t l.nin ho

theorem LRel.grow {h h' : Heap} (l : LRel D γ env slots h L) (hk : ∀ b o, h.get? b = some o → h'.get? b = some o) : LRel D γ env slots h' L where
  ns := by
    obtain ⟨m, n, f⟩ := l.ns
    refine ⟨m, n.keeps hk, fun x i V a b c => ?_⟩
    obtain ⟨v, e, q⟩ := f x i V a b c
    exact ⟨v, e, Rep.mono ⟨[], by simp⟩ (fun _ _ => tupAt_grow hk) q⟩
  cel := fun x hx => by
    obtain ⟨c, u, a, q, hc, f⟩ := l.cel x hx
    refine ⟨c, u, a, q.keeps hk, hc, fun i V b d => ?_⟩
    obtain ⟨v, e, q⟩ := f i V b d
    exact ⟨v, e, Rep.mono ⟨[], by simp⟩ (fun _ _ => tupAt_grow hk) q⟩
  nin := l.nin
end

/- what a def answers, by the oracle -/
noncomputable def OrcOk (D : Wd) (k : Nat) (Φ : Orc) : Prop := ∀ fr x vs H Q X, Φ x vs H Q X → ∀ A γ s vals a, AOk { D with fr := fr } k A → HRel { D with fr := fr } γ H s.heap → Reps { D with fr := fr } γ s.heap vals vs → D.mg x = some (.ref a) →
  (∃ o fd, D.hB.get? a = some o ∧ o.data = .func fd) ∧ wpAny D.M A (call (.ref a) vals) (PostV { D with fr := fr } γ s Q) (PostX { D with fr := fr } γ s X) s

noncomputable def SEP (P : Around → Prop) (D : Wd) (Φ : Orc) (c : CC) (e : Expr) (ie : IE) : Prop := ∀ env A γ H s L Q X, EnvOk c env → P A → HRel D γ H s.heap → LRel D γ env c.slots s.heap L →
  (wp2 Φ ie).E L H Q X → wpAny D.M A (eval e env) (PostV D γ s Q) (PostX D γ s X) s
noncomputable def STP (P : Around → Prop) (D : Wd) (Φ : Orc) (c : CC) (e : Expr) (ie : IE) : Prop := ∀ env A γ H s L Q X, EnvOk c env → P A → HRel D γ H s.heap → LRel D γ env c.slots s.heap L →
  (wp2 Φ ie).T L H Q X → wpAny D.M A (isTrue e env (eval e env)) (PostB D γ s Q) (PostX D γ s X) s
noncomputable abbrev SE (D : Wd) (Φ : Orc) (k : Nat) (c : CC) (e : Expr) (ie : IE) : Prop := SEP (AOk D k) D Φ c e ie
noncomputable abbrev ST (D : Wd) (Φ : Orc) (k : Nat) (c : CC) (e : Expr) (ie : IE) : Prop := STP (AOk D k) D Φ c e ie
end Mine

set_option autoImplicit false
/- Strings. -/
namespace Mine
open PySem PyProof.Rows

theorem strOk_iff {x : Str} : PyData.strOk x = true ↔ ∀ c ∈ x.cps.toList, c < 0x110000 := by
  unfold PyData.strOk
  rw [← Array.all_toList, List.all_eq_true]
  simp
theorem strOk_append {x y : Str} : PyData.strOk (x ++ y) = true ↔ PyData.strOk x = true ∧ PyData.strOk y = true := by
  simp only [strOk_iff]
  have e : (x ++ y).cps.toList = x.cps.toList ++ y.cps.toList := by show (x.cps ++ y.cps).toList = _; simp
  rw [e]
  simp only [List.mem_append]
  exact ⟨fun h => ⟨fun c hc => h c (.inl hc), fun c hc => h c (.inr hc)⟩, fun h c hc => hc.elim (h.1 c) (h.2 c)⟩
theorem strOk_join {x : Str} (hx : PyData.strOk x = true) : ∀ ys : List Str, (∀ y ∈ ys, PyData.strOk y = true) → PyData.strOk (Str.join x ys) = true
  | [], _ => by unfold Str.join; exact strOk_iff.mpr (fun c hc => by simp [Str.empty] at hc)
  | [y], h => h y (by simp)
  | y :: z :: r, h => by
    show PyData.strOk (y ++ x ++ Str.join x (z :: r)) = true
    exact strOk_append.mpr ⟨strOk_append.mpr ⟨h y (by simp), hx⟩, strOk_join hx (z :: r) fun w hw => h w (List.mem_cons_of_mem _ hw)⟩
theorem strOk_parts {x : Str} : ∀ ys : List Str, PyData.strOk (Str.join x ys) = true → ∀ y ∈ ys, PyData.strOk y = true
  | [], _, y, hy => by cases hy
  | [z], h, y, hy => by simp at hy; subst hy; exact h
  | z :: w :: r, h, y, hy => by
    have h : PyData.strOk (z ++ x ++ Str.join x (w :: r)) = true := h
    obtain ⟨h1, h2⟩ := strOk_append.mp h
    rcases List.mem_cons.mp hy with q | q
    · subst q; exact (strOk_append.mp h1).1
    · exact strOk_parts (w :: r) h2 y q
theorem strOk_ofString (s : String) : PyData.strOk (Str.ofString s) = true := by
  rw [strOk_iff, signs_ofString]
  intro c hc
  obtain ⟨ch, _, rfl⟩ := List.mem_map.mp hc
  have := ch.valid
  show ch.val.toNat < _
  rcases this with h | h
  · have h : ch.val.toNat < 0xd800 := h
    omega
  · exact h.2
theorem slice_mem {x : Str} {l u : Option Int} {c : Nat} (h : c ∈ (Txt.slice x l u).cps.toList) : c ∈ x.cps.toList := by
  unfold Txt.slice at h
  split at h
  · exact h
  · simp only [List.mem_filterMap] at h
    obtain ⟨i, _, hi⟩ := h
    exact Array.mem_toList_iff.mpr (Array.mem_of_getElem? hi)
theorem fine_slice {x : Str} (f : StrFine x) (l u : Option Int) : StrFine (Txt.slice x l u) :=
  ⟨Nat.le_trans (Txt.slice_le x _ _) f.1, strOk_iff.mpr fun c hc => strOk_iff.mp f.2 c (slice_mem hc)⟩

section
variable {D : Wd} {γ : List Addr} {H : Hp} {s : Shared} {A : Around} {E : Value → Shared → Prop} {Q : V → Hp → Prop} {x : Str} {t : Tok}

theorem strInt_ok {i : Int} (R : HRel D γ H s.heap) (h : i.natAbs < 2 ^ 64 ∧ (Str.ofString (toString i)).length ≤ 1000000) (q : Q (.str (Str.ofString (toString i))) H) :
    wpAny D.M A (call (.type "str") [.int i t]) (PostV D γ s Q) E s := by
  refine P.str_of_int ?_ (PostV.now R (by simp only [Rep]; exact ⟨_, rfl, by have := h.2; omega, strOk_ofString _⟩) q)
  by_cases h0 : i.natAbs = 0
  · rw [h0]; decide
  · have := (Nat.log2_lt h0).mpr h.1; omega
theorem strStr_ok (R : HRel D γ H s.heap) (f : StrFine x) (q : Q (.str x) H) : wpAny D.M A (call (.type "str") [.str x t]) (PostV D γ s Q) E s :=
  P.str_of_str (PostV.here R (by simp only [Rep]; exact ⟨_, rfl, f⟩) q)
theorem intStr_ok {n : Int} (R : HRel D γ H s.heap) (hn : PySem.intText? x = some n) (hl : x.length ≤ 640) (q : Q (.int n) H) : wpAny D.M A (call (.type "int") [.str x t]) (PostV D γ s Q) E s :=
  PySem.W.KIN.call_text hn hl (PostV.now R (by simp only [Rep]; exact ⟨_, rfl⟩) q)
theorem lenStr_ok (R : HRel D γ H s.heap) (f : StrFine x) (q : Q (.int x.length) H) : wpAny D.M A (call (.builtin "len") [.str x t]) (PostV D γ s Q) E s :=
  PySem.P.len_str (by have := f.1; omega) (PostV.now R (by simp only [Rep]; exact ⟨_, rfl⟩) q)

theorem strs_vals : ∀ {l : List V} {ys : List Str} {vs : List Value}, strsOf l = some ys → Reps D γ s.heap vs l → ∃ l' : List (Str × Tok), vs = strValues l' ∧ l'.map (·.1) = ys ∧ ∀ y ∈ ys, StrFine y
  | [], ys, vs, h, r => by cases h; simp only [Reps] at r; subst r; exact ⟨[], rfl, rfl, by simp⟩
  | v :: l, ys, vs, h, r => by
    simp only [Reps] at r
    obtain ⟨w, ws, rfl, a, b⟩ := r
    unfold strsOf at h
    split at h
    · rename_i y zs hz
      cases h
      obtain ⟨l', rfl, rfl, f⟩ := strs_vals hz b
      simp only [Rep] at a
      obtain ⟨u, rfl, fy⟩ := a
      refine ⟨(y, u) :: l', rfl, rfl, fun z hz => ?_⟩
      rcases List.mem_cons.mp hz with q | q
      · subst q; exact fy
      · exact f z q
    · cases h
theorem join_ok {i : Nat} {o : Value} {l : List V} {ys : List Str} (R : HRel D γ H s.heap) (fx : StrFine x) (ro : Rep D γ s.heap o (.ref i)) (hl : listAt H i = some l) (hy : strsOf l = some ys)
    (hz : (ys.map (·.length)).sum + ys.length * x.length ≤ 1000000) (q : Q (.str (Str.join x ys)) H) : wpAny D.M A (call (.builtin "str.join") [.str x t, o]) (PostV D γ s Q) E s := by
  simp only [Rep] at ro
  obtain ⟨a, hi, rfl⟩ := ro
  obtain ⟨vs, n, e, rs, z⟩ : ∃ vs n, s.heap.get? a = some { cls := .type "list", data := .seq vs.toArray n } ∧ Reps D γ s.heap vs l ∧ vs.length ≤ 2000000 := by
    unfold listAt at hl
    split at hl
    · rename_i xs e
      cases hl
      exact R.objs i a _ hi e
    · cases hl
  obtain ⟨l', rfl, hm, f⟩ := strs_vals hy rs
  refine SC.join (l := l') ⟨_, e, rfl, n, rfl⟩ hm ?_ fun t' k => ?_
  · unfold JoinOk
    rw [StrLaws.joinTotal]
    have : ¬ (ys.map (·.length)).sum + ys.length * x.length > sizeLine := by rw [sizeLine_eq]; omega
    simp only [Builtin.Str.tooLong, decide_eq_false this, Bool.not_false]
  · have e2 : Txt.join x ys = Str.join x ys := StrLaws.glued_eq_join x ys
    rw [e2]
    refine PostV.now R ?_ q
    simp only [Rep]
    exact ⟨_, rfl, Nat.le_trans (StrLaws.join_length_le x ys) (by omega), strOk_join fx.2 ys fun y hy => (f y hy).2⟩
theorem reps_strs : ∀ {l : List (Str × Tok)}, (∀ y ∈ l.map (·.1), StrFine y) → Reps D γ s.heap (strValues l) ((l.map (·.1)).map V.str)
  | [], _ => by simp only [List.map_nil, Reps]; rfl
  | (y, u) :: r, h => by
    simp only [List.map_cons, Reps]
    exact ⟨_, _, rfl, by simp only [Rep]; exact ⟨u, rfl, h y (by simp)⟩, reps_strs fun z hz => h z (by simp at hz ⊢; exact .inr hz)⟩
theorem split_ok {y : Str} {u : Tok} (R : HRel D γ H s.heap) (fx : StrFine x) (hy : (y.length == 0) = false) (hz : x.length ≤ 1000000) (q : Q (.ref H.length) (H ++ [.list ((Txt.split x y).map .str)])) :
    wpAny D.M A (call (.builtin "str.split") [.str x t, .str y u]) (PostV D γ s Q) E s := by
  have fine : ∀ z ∈ Txt.split x y, StrFine z := fun z hz' => ⟨Nat.le_trans (part_short hz') (by omega), strOk_parts (x := y) _ (by rw [StrLaws.join_split]; exact fx.2) z hz'⟩
  have hlen : (Txt.split x y).length ≤ 2000000 := Nat.le_trans (split_le x y) (by omega)
  have fin : ∀ (l : List (Str × Tok)) (tk : Nat), l.map (·.1) = Txt.split x y → PostV D γ s Q (.ref s.heap.objs.size) { s with heap := s.heap.push { cls := .type "list", data := .seq (strValues l).toArray }, toks := tk } := fun l tk e => by
    have r : Reps D γ s.heap (strValues l) ((Txt.split x y).map V.str) := by rw [← e]; exact reps_strs (by rw [e]; exact fine)
    obtain ⟨γ', V', H', a, b, c, d⟩ := PostV.newList (Q := Q) R r (by simpa using hlen) q
    exact ⟨γ', V', H', ⟨(let ⟨h1, t1, e1⟩ := a.same; ⟨_, tk, rfl⟩), a.keepS, a.ext⟩, b, c, d⟩
  cases h1 : (decide (x.length < y.length) || decide (Builtin.Str.strKind x < Builtin.Str.strKind y))
  · cases hf : (Builtin.Str.occurrences x y 0 x.length (x.length + 1)).isEmpty
    · have e : Txt.split x y = Builtin.Str.partsBetween x (Builtin.Str.occurrences x y 0 x.length (x.length + 1)) y.length := (if_neg (ne_true_of_eq_false h1)).trans (if_neg (ne_true_of_eq_false hf))
      refine call_meets F.slot_str_split (typeIs_str _ _ _) F.entry_str_split (F.args_str_split_2 _ _) (meets_str_split_sep x y t u h1 hy hf (by rw [sizeLine_eq]; omega) (by rw [← e, sizeLine_eq]; omega)) ?_
      show PostV D γ s Q _ { s with toks := _, heap := s.heap.push { cls := .type "list", data := .seq (strsFrom s.toks (Builtin.Str.partsBetween x (Builtin.Str.occurrences x y 0 x.length (x.length + 1)) y.length)).toArray } }
      rw [strsFrom_eq]
      exact fin _ _ ((numbered_texts _ _).trans e.symm)
    · exact call_meets F.slot_str_split (typeIs_str _ _ _) F.entry_str_split (F.args_str_split_2 _ _) (meets_str_split_not_found x y t u h1 hy hf) (fin [(x, t)] s.toks ((if_neg (ne_true_of_eq_false h1)).trans (if_pos hf)).symm)
  · exact call_meets F.slot_str_split (typeIs_str _ _ _) F.entry_str_split (F.args_str_split_2 _ _) (meets_str_split_cannot_occur x y t u h1) (fin [(x, t)] s.toks (if_pos h1).symm)
end
end Mine

set_option autoImplicit false
/- The primitive operations. -/
namespace Mine
open PySem PyProof.Rows

section
variable {D : Wd} {γ : List Addr} {H : Hp} {s : Shared} {A : Around} {E : Value → Shared → Prop}

theorem TupAt.isTup {h : Heap} {a : Addr} {vs : List Value} (x : TupAt h a vs) : IsTup h a vs.toArray := by
  obtain ⟨n, e, _⟩ := x; exact ⟨_, e, rfl, n, rfl⟩
theorem TupAt.isTuple {h : Heap} {a : Addr} {vs : List Value} (x : TupAt h a vs) : h.IsTuple a vs.toArray := by
  obtain ⟨n, e, _⟩ := x; exact ⟨_, e, rfl, n, rfl⟩
theorem TupAt.size {h : Heap} {a : Addr} {vs : List Value} (x : TupAt h a vs) : vs.length ≤ 2000000 := by
  obtain ⟨n, e, z⟩ := x; exact z

/- a list of the abstract heap -/
theorem HRel.list (R : HRel D γ H s.heap) {i : Nat} {a : Addr} {l : List V} (hi : γ[i]? = some a) (hl : listAt H i = some l) :
    ∃ vs n, s.heap.get? a = some { cls := .type "list", data := .seq vs.toArray n } ∧ Reps D γ s.heap vs l ∧ vs.length ≤ 2000000 := by
  unfold listAt at hl
  split at hl
  · rename_i xs e
    cases hl
    exact R.objs i a _ hi e
  · cases hl

theorem strFine_append {x y : Str} (f : StrFine x) (g : StrFine y) (h : x.length + y.length ≤ 1000000) : StrFine (x ++ y) := by
  refine ⟨by rw [strLen_append]; omega, ?_⟩
  have a := f.2; have b := g.2
  unfold PyData.strOk at a b ⊢
  show (x.cps ++ y.cps).all _ = true
  rw [Array.all_append, a, b]; rfl

theorem truth_ok {v : Value} {V : V} {c : Bool} {Q : Bool → Hp → Prop} (R : HRel D γ H s.heap) (r : Rep D γ s.heap v V) (h : truthV H V = some c) (q : Q c H) :
    wpAny D.M A (truthy v) (PostB D γ s Q) E s := by
  cases V with
  | none => simp only [Rep] at r; subst r; cases h; exact truthy_none (PostB.here R q)
  | bool b => simp only [Rep] at r; subst r; cases h; exact wpAny_truthy_bool (PostB.here R q)
  | int i =>
    simp only [Rep] at r; obtain ⟨t, rfl⟩ := r; cases h
    refine truthy_int (PostB.here R ?_)
    have e : (i != 0) = decide (i ≠ 0) := by by_cases hi : i = 0 <;> simp [hi]
    rw [e]; exact q
  | str x =>
    simp only [Rep] at r; obtain ⟨t, rfl, f⟩ := r; cases h
    refine P.truthy_str (by have := f.1; omega) (PostB.now R ?_)
    have e : ((x.length : Int) != 0) = (x.length != 0) := by rw [Bool.eq_iff_iff]; simp only [bne_iff_ne, ne_eq]; omega
    rw [e]; exact q
  | tup l =>
    simp only [Rep] at r; obtain ⟨a, vs, rfl, t, rs⟩ := r; cases h
    refine truthy_tuple t.isTup (by have := t.size; simp; omega) (PostB.now R ?_)
    have := rs.length
    cases vs <;> cases l <;> simp_all
  | ref i =>
    simp only [Rep] at r; obtain ⟨a, hi, rfl⟩ := r
    simp only [truthV, Option.map_eq_some_iff] at h
    obtain ⟨l, hl, rfl⟩ := h
    obtain ⟨vs, n, e, rs, z⟩ := R.list hi hl
    refine wpAny_truthy_list (items := vs.toArray) ⟨_, e, rfl, n, rfl⟩ (by simp; omega) (PostB.now R ?_)
    have := rs.length
    cases vs <;> cases l <;> simp_all
  | opq x => cases h
  | fn x => cases h
  | ty n => cases h
  | bi n => cases h
  | scr n => cases h
  | cls n u => cases h

theorem neg_ok {v : Value} {i : Int} {Q : V → Hp → Prop} (R : HRel D γ H s.heap) (r : Rep D γ s.heap v (.int i)) (q : Q (.int (-i)) H) :
    wpAny D.M A (unaryOp .USub v) (PostV D γ s Q) E s := by
  simp only [Rep] at r; obtain ⟨t, rfl⟩ := r
  exact neg_int (PostV.now R (by simp only [Rep]; exact ⟨_, rfl⟩) q)

theorem bin_ok {op : Operator} {a b : Value} {Va Vb : V} {Q : V → Hp → Prop} (R : HRel D γ H s.heap) (ra : Rep D γ s.heap a Va) (rb : Rep D γ s.heap b Vb) (h : pBin op Va Vb H Q) :
    wpAny D.M A (binaryOp op a b) (PostV D γ s Q) E s := by
  unfold pBin at h
  split at h
  · simp only [Rep] at ra rb; obtain ⟨t, rfl⟩ := ra; obtain ⟨u, rfl⟩ := rb
    exact add_int (PostV.now R (by simp only [Rep]; exact ⟨_, rfl⟩) h)
  · simp only [Rep] at ra rb; obtain ⟨t, rfl⟩ := ra; obtain ⟨u, rfl⟩ := rb
    exact sub_int (PostV.now R (by simp only [Rep]; exact ⟨_, rfl⟩) h)
  · simp only [Rep] at ra rb; obtain ⟨t, rfl⟩ := ra; obtain ⟨u, rfl⟩ := rb
    refine mul_int (PostV.now R (by simp only [Rep]; exact ⟨_, rfl⟩) h.2) ?_
    rcases h.1 with q | q
    · exact IntMulOk.of_left (intBits_le_64 q.1 q.2)
    · exact IntMulOk.of_right (intBits_le_64 q.1 q.2)
  · rename_i i j
    simp only [Rep] at ra rb; obtain ⟨t, rfl⟩ := ra; obtain ⟨u, rfl⟩ := rb
    have hj : j ≠ 0 := by have := h.1.1; omega
    refine floordiv_int hj (PostV.now (V := .int (i.fdiv j)) R (by simp only [Rep]; exact ⟨_, rfl⟩) ?_) (.inl (PyProof.noPylong_of_log2 ?_))
    · rw [Int.fdiv_eq_ediv_of_nonneg _ (by omega)]; exact h.2
    · have h1 := h.1
      have h2 : j.natAbs < 2 ^ 128 := by omega
      have h3 : j.natAbs ≠ 0 := by omega
      have := (Nat.log2_lt h3).mpr h2
      omega
  · rename_i i j
    simp only [Rep] at ra rb; obtain ⟨t, rfl⟩ := ra; obtain ⟨u, rfl⟩ := rb
    have hj : j ≠ 0 := by have := h.1.1; omega
    refine mod_int' hj (PostV.now (V := .int (i.fmod j)) R (by simp only [Rep]; exact ⟨_, rfl⟩) ?_)
    rw [Int.fmod_eq_emod_of_nonneg _ (by omega)]; exact h.2
  · simp only [Rep] at ra rb; obtain ⟨t, rfl⟩ := ra; obtain ⟨u, rfl⟩ := rb
    exact pow_int_small h.1.1 h.1.2.1 h.1.2.2 (PostV.now R (by simp only [Rep]; exact ⟨_, rfl⟩) h.2)
  · simp only [Rep] at ra rb; obtain ⟨t, rfl, f⟩ := ra; obtain ⟨u, rfl, g⟩ := rb
    refine PyProof.Rows.add_str (fun t' tk => PostV.now R (by simp only [Rep]; exact ⟨_, rfl, strFine_append f g h.1⟩) h.2) (by rw [sizeLine_eq]; omega)
  · rename_i x y
    simp only [Rep] at ra rb; obtain ⟨t, vs, rfl, ta, rs⟩ := ra; obtain ⟨u, ws, rfl, tb, rs'⟩ := rb
    obtain ⟨n, e, z⟩ := id ta
    obtain ⟨m, e', z'⟩ := id tb
    have h1 := rs.length; have h2 := rs'.length
    by_cases hv : vs = []
    · subst hv
      have hx : x = [] := by cases x <;> simp_all
      subst hx
      refine concat_meets ⟨_, e, rfl⟩ ⟨_, e', rfl⟩ noFill_tuple_add seq_tuple_add PySem.F.slot_tuple_add PySem.F.entry_tuple_add (PySem.F.args_tuple_add_2 _ _) (AutoSeq1.tuple___add___tuple_tuple_0 t ([] : List Value).toArray n u ws.toArray m rfl) ⟨e, e', ?_⟩
      exact PostV.here (V := .tup y) R (by simp only [Rep]; exact ⟨u, ws, rfl, tb, rs'⟩) (by simpa using h.2)
    · by_cases hw : ws = []
      · subst hw
        have hy : y = [] := by cases y <;> simp_all
        subst hy
        refine concat_meets ⟨_, e, rfl⟩ ⟨_, e', rfl⟩ noFill_tuple_add seq_tuple_add PySem.F.slot_tuple_add PySem.F.entry_tuple_add (PySem.F.args_tuple_add_2 _ _) (AutoSeq1.tuple___add___tuple_tuple_1 t vs.toArray n u ([] : List Value).toArray m (by simpa using hv) rfl) ⟨e, e', ?_⟩
        exact PostV.here (V := .tup x) R (by simp only [Rep]; exact ⟨t, vs, rfl, ta, rs⟩) (by simpa using h.2)
      · refine P.add_tuple (items := vs.toArray) (items2 := ws.toArray) (n := n) (n2 := m) e e' (by simpa using hv) (by simpa using hw) ?_ (by simp [sizeLine_eq]; omega)
        rw [List.append_toArray]
        exact PostV.newTuple R (rs.append rs') (by simp; omega) h.2
  · rename_i i j
    simp only [Rep] at ra rb; obtain ⟨x, hx, rfl⟩ := ra; obtain ⟨y, hy, rfl⟩ := rb
    obtain ⟨xs, h1, h⟩ := oK_elim h
    obtain ⟨ys, h2, h3, h4⟩ := oK_elim h
    obtain ⟨vs, n, e, rs, z⟩ := R.list hx h1
    obtain ⟨ws, m, e', rs', z'⟩ := R.list hy h2
    have := rs.length; have := rs'.length
    refine P.add_list (items := vs.toArray) (items2 := ws.toArray) (n := n) (n2 := m) e e' ?_ (by simp [sizeLine_eq]; omega)
    rw [List.append_toArray]
    exact PostV.newList R (rs.append rs') (by simp; omega) h4
  · exact h.elim

theorem sub_ok {value slice : Expr} {a b : Value} {Va Vb : V} {Q : V → Hp → Prop} (R : HRel D γ H s.heap) (ra : Rep D γ s.heap a Va) (rb : Rep D γ s.heap b Vb) (h : pSub Va Vb H Q)
    (hs : ∀ lo hi st p, slice ≠ .Slice lo hi st p) : wpAny D.M A (subscriptTail value slice a b) (PostV D γ s Q) E s := by
  have hs' : ∀ o i, subscripted slice false o i = operate [o, i] (getItem o i) := fun o i => by
    unfold subscripted
    split
    · rename_i lo hi p _ _; exact absurd rfl (hs _ _ _ _)
    · rename_i h1; cases h1
    · rfl
  have hi : ∃ k, Vb = .int k := by
    cases Vb with
    | int k => exact ⟨k, rfl⟩
    | _ => exact h.elim
  obtain ⟨k, rfl⟩ := hi
  cases Va with
  | tup l =>
    simp only [Rep] at ra rb; obtain ⟨t, vs, rfl, ta, rs⟩ := ra; obtain ⟨u, rfl⟩ := rb
    obtain ⟨v, hv, q⟩ := oK_elim h
    have hl := rs.length
    have hz := ta.size
    unfold idx at hv
    split at hv
    · rename_i h0
      obtain ⟨w, hw, rw_⟩ := rs.get hv
      have hlt : k.toNat < vs.length := (List.getElem?_eq_some_iff.mp hw).1
      refine item_tupleT (j := k.toNat) ta.isTup (by omega) (by omega) ?_ hw (PostV.here R rw_ q) (hs' _ _)
      unfold seqIndex?
      have : ¬ k < 0 := by omega
      have h1 : (0 ≤ k && decide (k < (vs.length : Int))) = true := by simp; omega
      simp only [this, if_false]
      rw [if_pos h1]
    · split at hv
      · rename_i h0 h1
        obtain ⟨w, hw, rw_⟩ := rs.get hv
        have hlt := (List.getElem?_eq_some_iff.mp hw).1
        refine item_tupleT (j := (k + (l.length : Int)).toNat) ta.isTup (by omega) (by omega) ?_ hw (PostV.here R rw_ q) (hs' _ _)
        unfold seqIndex?
        have h3 : k < 0 := by omega
        have h4 : (0 ≤ k + (vs.length : Int) && decide (k + (vs.length : Int) < (vs.length : Int))) = true := by simp; omega
        simp only [h3, if_true]
        rw [if_pos h4, hl]
      · cases hv
  | ref i =>
    simp only [Rep] at ra rb; obtain ⟨x, hx, rfl⟩ := ra; obtain ⟨u, rfl⟩ := rb
    obtain ⟨l, hl, h⟩ := oK_elim h
    obtain ⟨v, hv, q⟩ := oK_elim h
    obtain ⟨vs, n, e, rs, hz⟩ := R.list hx hl
    have hlen := rs.length
    have hL : s.heap.IsList x vs.toArray := ⟨_, e, rfl, n, rfl⟩
    refine tail_any hL.typeIs slot_list_getitem.lookup ?_ (hs' _ _)
    unfold idx at hv
    split at hv
    · rename_i h0
      obtain ⟨w, hw, rw_⟩ := rs.get hv
      have hlt := (List.getElem?_eq_some_iff.mp hw).1
      exact wpAny_getItem_list hL h0 (by omega) (by simpa using hw) (PostV.here R rw_ q)
    · split at hv
      · rename_i h0 h1
        obtain ⟨w, hw, rw_⟩ := rs.get hv
        have hlt := (List.getElem?_eq_some_iff.mp hw).1
        refine wpAny_getItem_list_neg hL (by omega) (by simp; omega) (by omega) ?_ (PostV.here R rw_ q)
        simpa [hlen] using hw
      · cases hv
  | scr ns =>
    simp only [Rep] at ra rb; obtain ⟨x, vs, rfl, e, hz, hlen, hI⟩ := ra; obtain ⟨u, rfl⟩ := rb
    obtain ⟨v, hv, q⟩ := oK_elim h
    have hL : s.heap.IsList x vs.toArray := let ⟨o, h1, h2, n, h3⟩ := e; ⟨o, R.base _ _ h1, h2, n, h3⟩
    refine tail_any hL.typeIs slot_list_getitem.lookup ?_ (hs' _ _)
    unfold idx at hv
    split at hv
    · rename_i h0
      obtain ⟨t, hw⟩ := hI _ _ hv
      have hlt := (List.getElem?_eq_some_iff.mp hw).1
      exact wpAny_getItem_list hL h0 (by omega) (by simpa using hw) (PostV.here (v := .int v t) (V := .int v) R (by simp only [Rep]; exact ⟨t, rfl⟩) q)
    · split at hv
      · rename_i h0 h1
        obtain ⟨t, hw⟩ := hI _ _ hv
        have hlt := (List.getElem?_eq_some_iff.mp hw).1
        refine wpAny_getItem_list_neg hL (by omega) (by simp; omega) (by omega) ?_ (PostV.here (v := .int v t) (V := .int v) R (by simp only [Rep]; exact ⟨t, rfl⟩) q)
        simpa [hlen] using hw
      · cases hv
  | _ => exact h.elim
end
end Mine

set_option autoImplicit false
/- Comparisons, built-in calls, methods. -/
namespace Mine
open PySem PyProof.Rows PySem.SeqAt

mutual
theorem toPy_reads {mg : Wd} {γ : List Addr} {h : Heap} {v : Value} : ∀ {V : V} {d : PyData}, Rep mg γ h v V → toPy V = some d → ∃ as, Reads h v d as ∧ d.canLay0 = true
  | .none, d, r, e => by simp only [Rep] at r; subst r; cases e; exact ⟨_, .none, rfl⟩
  | .bool b, d, r, e => by simp only [Rep] at r; subst r; cases e; exact ⟨_, .bool b, rfl⟩
  | .int i, d, r, e => by simp only [Rep] at r; obtain ⟨t, rfl⟩ := r; cases e; exact ⟨_, .int i t, rfl⟩
  | .str x, d, r, e => by simp only [Rep] at r; obtain ⟨t, rfl, f⟩ := r; cases e; exact ⟨_, .str x t, f.2⟩
  | .tup l, d, r, e => by
    simp only [Rep] at r; obtain ⟨a, vs, rfl, ⟨n, q, z⟩, rs⟩ := r
    simp only [toPy, Option.map_eq_some_iff] at e
    obtain ⟨ds, hd, rfl⟩ := e
    obtain ⟨as, ra, c⟩ := toPys_reads rs hd
    exact ⟨as, .tuple q rfl rfl (by simpa using ra), c⟩
  | .opq i, d, r, e => by cases e
  | .ref i, d, r, e => by cases e
  | .fn i, d, r, e => by cases e
  | .ty i, d, r, e => by cases e
  | .bi i, d, r, e => by cases e
  | .scr i, d, r, e => by cases e
  | .cls _ _, d, r, e => by cases e
theorem toPys_reads {mg : Wd} {γ : List Addr} {h : Heap} {vs : List Value} : ∀ {l : List V} {ds : List PyData}, Reps mg γ h vs l → toPys l = some ds → ∃ as, ReadsAll h vs ds as ∧ PyData.canLayAll0 ds = true
  | [], ds, r, e => by simp only [Reps] at r; subst r; cases e; exact ⟨_, .nil, rfl⟩
  | V :: l, ds, r, e => by
    simp only [Reps] at r; obtain ⟨v, r', rfl, a, b⟩ := r
    simp only [toPys] at e
    split at e
    · rename_i d ds' h1 h2
      cases e
      obtain ⟨as, q1, c1⟩ := toPy_reads a h1
      obtain ⟨bs, q2, c2⟩ := toPys_reads b h2
      exact ⟨_, .cons q1 q2, by simp only [PyData.canLayAll0, c1, c2, Bool.and_self]⟩
    · cases e
end

section
variable {D : Wd} {γ : List Addr} {H : Hp} {s : Shared} {A : Around} {E : Value → Shared → Prop} {k : Nat}

theorem toPyH_reads {v : Value} {V : V} {d : PyData} (R : HRel D γ H s.heap) (r : Rep D γ s.heap v V) (e : toPyH H V = some d) : ∃ as, Reads s.heap v d as ∧ d.canLay0 = true := by
  cases V with
  | ref i =>
    simp only [toPyH, Option.map_eq_some_iff, Option.bind_eq_some_iff] at e
    obtain ⟨ds, ⟨l, hl, hd⟩, rfl⟩ := e
    simp only [Rep] at r; obtain ⟨a, hi, rfl⟩ := r
    obtain ⟨vs, n, q, rs, z⟩ := R.list hi hl
    obtain ⟨as, ra, c⟩ := toPys_reads rs hd
    exact ⟨_, .list q rfl rfl (by simpa using ra), c⟩
  | _ => exact toPy_reads r e

theorem room (hA : AOk D k A) {n m : Nat} (h : n ≤ 60) : A.units + min n m < cLine := by
  have := hA.units
  have : min n m ≤ n := Nat.min_le_left _ _
  show _ < 9900
  omega

theorem room1 (hA : AOk D k A) {n m : Nat} (h : n ≤ 60) : A.units + 1 + min m n < cLine := by
  have := hA.units
  have : min m n ≤ n := Nat.min_le_right _ _
  show _ < 9900
  omega

theorem rep_none {v : Value} {V : V} (r : Rep D γ s.heap v V) : (v == Value.none) = isNoneV V := by
  cases V <;> simp only [Rep] at r
  · subst r; rfl
  · subst r; rfl
  · obtain ⟨t, rfl⟩ := r; rfl
  · obtain ⟨t, rfl, _⟩ := r; rfl
  · obtain ⟨t, rfl⟩ := r; rfl
  · obtain ⟨a, vs, rfl, _⟩ := r; rfl
  · obtain ⟨a, _, rfl⟩ := r; rfl
  · obtain ⟨a, rfl, _⟩ := r; rfl
  · subst r; rfl
  · subst r; rfl
  · obtain ⟨a, vs, rfl, _⟩ := r; rfl
  · obtain ⟨a, rfl, _⟩ := r; rfl
theorem isnot_none {M : Model} {v : Value} {Q : Value → Shared → Prop} (h : Q (.bool (!(v == .none))) s) : wpAny M A (compareOp .IsNot v .none) Q E s := by
  show wpAny M A (do return .bool (!(← isSame v .none))) Q E s
  rw [isSame_none]; exact wpAny_bind (wpAny_pure (wpAny_pure h))

theorem cmp_ok {op : CmpOp} {a b : Value} {Va Vb : V} {Q : V → Hp → Prop} (hA : AOk D k A) (R : HRel D γ H s.heap) (ra : Rep D γ s.heap a Va) (rb : Rep D γ s.heap b Vb) (h : pCmp op Va Vb H Q) :
    wpAny D.M A (compareOp op a b) (PostV D γ s Q) E s := by
  have bl : ∀ c, Rep D γ s.heap (.bool c) (.bool c) := fun c => by simp only [Rep]
  cases op with
  | Eq =>
    rcases pCmp_eq h with ⟨x, y, rfl, rfl, q⟩ | ⟨c, hc, q⟩
    · simp only [Rep] at ra rb; obtain ⟨t, rfl⟩ := ra; obtain ⟨u, rfl⟩ := rb
      exact eq_str (PostV.here R (bl _) q)
    unfold eqH at hc
    split at hc
    · rename_i d e h1 h2
      split at hc
      · rename_i hd
        cases hc
        obtain ⟨as, r1, c1⟩ := toPyH_reads R ra h1
        obtain ⟨bs, r2, c2⟩ := toPyH_reads R rb h2
        exact compareEq_reads r1 r2 c1 c2 (room hA hd) (PostV.here R (bl _) q)
      · cases hc
    · cases hc
  | NotEq =>
    obtain ⟨c, hc, q⟩ := pCmp_ne h
    unfold eqH at hc
    split at hc
    · rename_i d e h1 h2
      split at hc
      · rename_i hd
        cases hc
        obtain ⟨as, r1, c1⟩ := toPyH_reads R ra h1
        obtain ⟨bs, r2, c2⟩ := toPyH_reads R rb h2
        exact compareNe_reads r1 r2 c1 c2 (room hA hd) (PostV.here R (bl _) q)
      · cases hc
    · cases hc
  | Lt =>
    simp only [pCmp] at h
    split at h
    · simp only [Rep] at ra rb; obtain ⟨t, rfl⟩ := ra; obtain ⟨u, rfl⟩ := rb
      exact lt_int (PostV.here R (bl _) h)
    · exact h.elim
  | LtE =>
    simp only [pCmp] at h
    split at h
    · simp only [Rep] at ra rb; obtain ⟨t, rfl⟩ := ra; obtain ⟨u, rfl⟩ := rb
      exact le_int (PostV.here R (bl _) h)
    · exact h.elim
  | Gt =>
    simp only [pCmp] at h
    split at h
    · simp only [Rep] at ra rb; obtain ⟨t, rfl⟩ := ra; obtain ⟨u, rfl⟩ := rb
      exact gt_int (PostV.here R (bl _) h)
    · exact h.elim
  | GtE =>
    simp only [pCmp] at h
    split at h
    · simp only [Rep] at ra rb; obtain ⟨t, rfl⟩ := ra; obtain ⟨u, rfl⟩ := rb
      exact ge_int (PostV.here R (bl _) h)
    · exact h.elim
  | In =>
    simp only [pCmp] at h
    split at h
    · rename_i x
      obtain ⟨y, hy, q⟩ := oK_elim h
      rw [strV_some hy] at ra
      simp only [Rep] at ra rb
      obtain ⟨u, rfl, _⟩ := ra
      obtain ⟨t, rfl, _⟩ := rb
      exact PySem.P.in_str (PostV.here R (by simp only [Rep]; rfl) q)
    · rename_i l
      obtain ⟨c, hc, q⟩ := oK_elim h
      unfold memV at hc
      split at hc
      · rename_i d ds h1 h2
        split at hc
        · rename_i hd
          cases hc
          obtain ⟨as, r1, c1⟩ := toPy_reads ra h1
          obtain ⟨bs, r2, c2⟩ := toPy_reads (d := .tuple ds) rb (by simp [toPy, h2])
          exact in_tuple_reads r2 r1 c2 c1 (room1 hA hd) (PostV.here R (bl _) q)
        · cases hc
      · cases hc
    · rename_i i
      obtain ⟨l, hl, h⟩ := oK_elim h
      obtain ⟨c, hc, q⟩ := oK_elim h
      unfold memV at hc
      split at hc
      · rename_i d ds h1 h2
        split at hc
        · rename_i hd
          cases hc
          obtain ⟨as, r1, c1⟩ := toPy_reads ra h1
          obtain ⟨bs, r2, c2⟩ := toPyH_reads (d := .list ds) R rb (by simp [toPyH, hl, h2])
          exact in_list_reads r2 r1 c2 c1 (room1 hA hd) (PostV.here R (bl _) q)
        · cases hc
      · cases hc
    · exact h.elim
  | NotIn =>
    simp only [pCmp] at h
    split at h
    · rename_i x
      obtain ⟨y, hy, q⟩ := oK_elim h
      rw [strV_some hy] at ra
      simp only [Rep] at ra rb
      obtain ⟨u, rfl, _⟩ := ra
      obtain ⟨t, rfl, _⟩ := rb
      exact PySem.P.notIn_str (PostV.here R (by simp only [Rep]; rfl) q)
    · rename_i l
      obtain ⟨c, hc, q⟩ := oK_elim h
      unfold memV at hc
      split at hc
      · rename_i d ds h1 h2
        split at hc
        · rename_i hd
          cases hc
          obtain ⟨as, r1, c1⟩ := toPy_reads ra h1
          obtain ⟨bs, r2, c2⟩ := toPy_reads (d := .tuple ds) rb (by simp [toPy, h2])
          exact notIn_tuple_reads r2 r1 c2 c1 (room1 hA hd) (PostV.here R (bl _) q)
        · cases hc
      · cases hc
    · rename_i i
      obtain ⟨l, hl, h⟩ := oK_elim h
      obtain ⟨c, hc, q⟩ := oK_elim h
      unfold memV at hc
      split at hc
      · rename_i d ds h1 h2
        split at hc
        · rename_i hd
          cases hc
          obtain ⟨as, r1, c1⟩ := toPy_reads ra h1
          obtain ⟨bs, r2, c2⟩ := toPyH_reads (d := .list ds) R rb (by simp [toPyH, hl, h2])
          exact notIn_list_reads r2 r1 c2 c1 (room1 hA hd) (PostV.here R (bl _) q)
        · cases hc
      · cases hc
    · exact h.elim
  | Is =>
    simp only [pCmp] at h
    split at h
    · simp only [Rep] at rb; subst rb
      refine is_none (PostV.here R (bl _) ?_)
      rw [rep_none ra]; exact h
    · exact h.elim
  | IsNot =>
    simp only [pCmp] at h
    split at h
    · simp only [Rep] at rb; subst rb
      refine isnot_none (PostV.here R (bl _) ?_)
      rw [rep_none ra]; exact h
    · exact h.elim

theorem len_ok {v : Value} {n : Int} {Q : V → Hp → Prop} {V : V} (R : HRel D γ H s.heap) (r : Rep D γ s.heap v V)
    (h : (∃ l, V = .tup l ∧ n = (l.length : Int)) ∨ (∃ i l, V = .ref i ∧ listAt H i = some l ∧ n = (l.length : Int))) (q : Q (.int n) H) :
    wpAny D.M A (call (.builtin "len") [v]) (PostV D γ s Q) E s := by
  rcases h with ⟨l, rfl, rfl⟩ | ⟨i, l, rfl, hl, rfl⟩
  · simp only [Rep] at r; obtain ⟨a, vs, rfl, t, rs⟩ := r
    have := t.size; have hlen := rs.length
    refine len_tuple t.isTup (by simp; omega) (PostV.now R ?_ q)
    simp only [Rep]; exact ⟨s.toks + 1, by simp [hlen]⟩
  · simp only [Rep] at r; obtain ⟨a, hi, rfl⟩ := r
    obtain ⟨vs, n, e, rs, z⟩ := R.list hi hl
    have hlen := rs.length
    refine len_list (items := vs.toArray) ⟨_, e, rfl, n, rfl⟩ (by simp; omega) (PostV.now R ?_ q)
    simp only [Rep]; exact ⟨s.toks + 1, by simp [hlen]⟩
end
end Mine

set_option autoImplicit false
/- Built-in calls and methods. -/
namespace Mine
open PySem PyProof.Rows PySem.SeqAt

section
variable {D : Wd} {γ : List Addr} {H : Hp} {s : Shared} {A : Around} {E : Value → Shared → Prop} {k : Nat}

theorem isi_ok {v : Value} {t : Ty} {c : Bool} {Q : V → Hp → Prop} {W : V} (R : HRel D γ H s.heap) (r : Rep D γ s.heap v W) (h : isInstH H W t = some c) (q : Q (.bool c) H) :
    wpAny D.M A (call (.builtin "isinstance") [v, .type t.name]) (PostV D γ s Q) E s := by
  have bl : ∀ c, Rep D γ s.heap (.bool c) (.bool c) := fun c => by simp only [Rep]
  cases W with
  | none =>
    simp only [Rep] at r; subst r
    cases t <;> simp [isInstH] at h <;> subst h
    · exact IsiPair.NoneType_int (PostV.now R (bl _) q)
    · exact IsiPair.NoneType_bool (PostV.now R (bl _) q)
    · exact IsiPair.NoneType_str (PostV.now R (bl _) q)
    · exact IsiPair.NoneType_tuple (PostV.now R (bl _) q)
    · exact IsiPair.NoneType_list (PostV.now R (bl _) q)
  | bool b =>
    simp only [Rep] at r; subst r
    cases t <;> simp [isInstH, tyOf, subTy] at h <;> subst h
    · exact IsiPair.bool_int (PostV.here R (bl _) q)
    · exact IsiPair.bool_bool (PostV.here R (bl _) q)
    · exact IsiPair.bool_str (PostV.now R (bl _) q)
    · exact IsiPair.bool_tuple (PostV.now R (bl _) q)
    · exact IsiPair.bool_list (PostV.now R (bl _) q)
  | int i =>
    simp only [Rep] at r; obtain ⟨u, rfl⟩ := r
    cases t <;> simp [isInstH, tyOf, subTy] at h <;> subst h
    · exact IsiPair.int_int (PostV.here R (bl _) q)
    · exact IsiPair.int_bool (PostV.now R (bl _) q)
    · exact IsiPair.int_str (PostV.now R (bl _) q)
    · exact IsiPair.int_tuple (PostV.now R (bl _) q)
    · exact IsiPair.int_list (PostV.now R (bl _) q)
  | str x =>
    simp only [Rep] at r; obtain ⟨u, rfl, _⟩ := r
    cases t <;> simp [isInstH, tyOf, subTy] at h <;> subst h
    · exact IsiPair.str_int (PostV.now R (bl _) q)
    · exact IsiPair.str_bool (PostV.now R (bl _) q)
    · exact IsiPair.str_str (PostV.here R (bl _) q)
    · exact IsiPair.str_tuple (PostV.now R (bl _) q)
    · exact IsiPair.str_list (PostV.now R (bl _) q)
  | tup l =>
    simp only [Rep] at r; obtain ⟨a, vs, rfl, ⟨n, e, _⟩, _⟩ := r
    cases t <;> simp [isInstH, tyOf, subTy] at h <;> subst h
    · exact IsiPair.tuple_int e rfl (PostV.now R (bl _) q)
    · exact IsiPair.tuple_bool e rfl (PostV.now R (bl _) q)
    · exact IsiPair.tuple_str e rfl (PostV.now R (bl _) q)
    · exact IsiPair.tuple_tuple e rfl (PostV.here R (bl _) q)
    · exact IsiPair.tuple_list e rfl (PostV.now R (bl _) q)
  | ref i =>
    simp only [Rep] at r; obtain ⟨a, hi, rfl⟩ := r
    have hl : ∃ l, listAt H i = some l := by
      cases e : listAt H i with
      | some l => exact ⟨l, rfl⟩
      | none => cases t <;> simp [isInstH, tyOf, e] at h
    obtain ⟨l, hl⟩ := hl
    obtain ⟨vs, n, e, rs, z⟩ := R.list hi hl
    cases t <;> simp [isInstH, tyOf, subTy, hl] at h <;> subst h
    · exact IsiPair.list_int e rfl (PostV.now R (bl _) q)
    · exact IsiPair.list_bool e rfl (PostV.now R (bl _) q)
    · exact IsiPair.list_str e rfl (PostV.now R (bl _) q)
    · exact IsiPair.list_tuple e rfl (PostV.now R (bl _) q)
    · exact IsiPair.list_list e rfl (PostV.here R (bl _) q)
  | fn x => cases t <;> simp [isInstH, tyOf] at h
  | ty n => cases t <;> simp [isInstH, tyOf] at h
  | bi n => cases t <;> simp [isInstH, tyOf] at h
  | opq n => cases t <;> simp [isInstH, tyOf] at h
  | scr n => cases t <;> simp [isInstH, tyOf] at h
  | cls n u => cases t <;> simp [isInstH, tyOf] at h

theorem allBools_reps {mg : Wd} {h : Heap} : ∀ {l : List V} {bs : List Bool} {vs : List Value}, allBools l = some bs → Reps mg γ h vs l → vs = bs.map Value.bool
  | [], bs, vs, e, r => by cases e; simp only [Reps] at r; simpa using r
  | .bool b :: l, bs, vs, e, r => by
    simp only [allBools, Option.map_eq_some_iff] at e
    obtain ⟨cs, hc, rfl⟩ := e
    simp only [Reps] at r
    obtain ⟨v, w, rfl, a, b'⟩ := r
    simp only [Rep] at a; subst a
    rw [allBools_reps hc b']; rfl
  | .none :: l, bs, vs, e, r => by cases e
  | .int _ :: l, bs, vs, e, r => by cases e
  | .str _ :: l, bs, vs, e, r => by cases e
  | .tup _ :: l, bs, vs, e, r => by cases e
  | .ref _ :: l, bs, vs, e, r => by cases e
  | .fn _ :: l, bs, vs, e, r => by cases e
  | .ty _ :: l, bs, vs, e, r => by cases e
  | .bi _ :: l, bs, vs, e, r => by cases e
  | .scr _ :: l, bs, vs, e, r => by cases e
  | .cls _ _ :: l, bs, vs, e, r => by cases e

theorem all_ok {i : Nat} {v : Value} {l : List V} {bs : List Bool} {Q : V → Hp → Prop} (hA : AOk D k A) (R : HRel D γ H s.heap) (r : Rep D γ s.heap v (.ref i)) (hl : listAt H i = some l) (hb : allBools l = some bs)
    (q : Q (.bool (bs.all id)) H) : wpAny D.M A (call (.builtin "all") [v]) (PostV D γ s Q) E s := by
  simp only [Rep] at r; obtain ⟨a, hi, rfl⟩ := r
  obtain ⟨vs, n, e, rs, z⟩ := R.list hi hl
  have hvs := allBools_reps hb rs
  subst hvs
  have hL : s.heap.IsList a (bs.map Value.bool).toArray := ⟨_, e, rfl, n, rfl⟩
  refine call_all_walk (wpAny_pyIter_list hL ?_)
  have ha : a ≠ s.heap.objs.size := Nat.ne_of_lt (Heap.lt_size e)
  refine ⟨_, _, _, _, _, _, fun j => bs.getD j true, rfl, Walks.list (by exact hA.handled) s.heap.objs.size a ha (bs.map Value.bool).toArray, ?_, ?_, ?_⟩
  · refine ⟨⟨_, Heap.get?_push_size _ rfl, rfl, rfl⟩, ⟨_, Heap.get?_push_of_some _ e, rfl, n, rfl⟩⟩
  · intro j v s' Q' E' hv hq
    have : v = .bool (bs.getD j true) := by
      rw [List.getElem?_toArray, List.getElem?_map, Option.map_eq_some_iff] at hv
      obtain ⟨b, hb1, rfl⟩ := hv
      simp [List.getD, hb1]
    subst this
    exact wpAny_truthy_bool hq
  · intro h' tk hk
    have e1 : (List.range (bs.map Value.bool).toArray.size).all (fun j => bs.getD j true) = bs.all id := by
      simp only [List.size_toArray, List.length_map]
      rw [Bool.eq_iff_iff]
      simp only [List.all_eq_true, List.mem_range, id]
      constructor
      · intro hx b hb'
        obtain ⟨j, hj, rfl⟩ := List.getElem_of_mem hb'
        have := hx j hj
        simpa [List.getD, hj] using this
      · intro hx j hj
        have := hx bs[j] (List.getElem_mem hj)
        simpa [List.getD, hj] using this
    have hkk : ∀ b o, s.heap.get? b = some o → h'.get? b = some o := fun b o eb => hk b o (by
      intro hm; simp at hm; subst hm; exact absurd (Heap.lt_size eb) (Nat.lt_irrefl _)) (Heap.get?_push_of_some _ eb)
    rw [e1]
    exact PostV.grown R hkk (by simp only [Rep]) q

theorem int_of_bool_ok {v : Value} {b : Bool} {Q : V → Hp → Prop} (R : HRel D γ H s.heap) (r : Rep D γ s.heap v (.bool b)) (q : Q (.int (if b then 1 else 0)) H) :
    wpAny D.M A (call (.type "int") [v]) (PostV D γ s Q) E s := by
  simp only [Rep] at r; subst r
  exact call_int_bool (PostV.now R (by simp only [Rep]; exact ⟨_, rfl⟩) q)

theorem tuple_of_list_ok {v : Value} {i : Nat} {l : List V} {Q : V → Hp → Prop} (R : HRel D γ H s.heap) (r : Rep D γ s.heap v (.ref i)) (hl : listAt H i = some l) (q : Q (.tup l) H) :
    wpAny D.M A (call (.type "tuple") [v]) (PostV D γ s Q) E s := by
  simp only [Rep] at r; obtain ⟨a, hi, rfl⟩ := r
  obtain ⟨vs, n, e, rs, z⟩ := R.list hi hl
  refine call_tuple_list (items := vs.toArray) ⟨_, e, rfl, n, rfl⟩ (fun h' hk => ?_) (by simp [sizeLine_eq]; omega)
  have hk' : ∀ b o, s.heap.get? b = some o → (h'.push { cls := .type "tuple", data := .seq vs.toArray }).get? b = some o := fun b o eb => Heap.get?_push_of_some _ (hk b o eb)
  refine PostV.grown (V := .tup l) (tk := s.toks) R hk' ?_ q
  simp only [Rep]
  exact ⟨_, vs, rfl, ⟨0, Heap.get?_push_size _ rfl, z⟩, Reps.mono ⟨[], by simp⟩ (fun _ _ => tupAt_grow hk') rs⟩

theorem list_of_ok {v : Value} {l : List V} {Q : V → Hp → Prop} {W : V} (R : HRel D γ H s.heap) (r : Rep D γ s.heap v W) (h : W = .tup l ∨ ∃ i, W = .ref i ∧ listAt H i = some l) (q : Q (.ref H.length) (H ++ [.list l])) :
    wpAny D.M A (call (.type "list") [v]) (PostV D γ s Q) E s := by
  rcases h with rfl | ⟨i, rfl, hl⟩
  · simp only [Rep] at r; obtain ⟨a, vs, rfl, ⟨n, e, z⟩, rs⟩ := r
    refine call_list_seq a (T := "tuple") (items := vs.toArray) (.inr rfl) e rfl rfl (fun h' c' hk hn => ?_) (by simp [sizeLine_eq]; omega)
    exact PostV.addList (tk := s.toks) R rs (by rw [← rs.length]; exact z) hk (none_end _) hn q
  · simp only [Rep] at r; obtain ⟨a, hi, rfl⟩ := r
    obtain ⟨vs, n, e, rs, z⟩ := R.list hi hl
    refine call_list_seq a (T := "list") (items := vs.toArray) (.inl rfl) e rfl rfl (fun h' c' hk hn => ?_) (by simp [sizeLine_eq]; omega)
    exact PostV.addList (tk := s.toks) R rs (by rw [← rs.length]; exact z) hk (none_end _) hn q

theorem max_ok {a b : Int} {v u : Value} {Q : V → Hp → Prop} (hA : AOk D k A) (R : HRel D γ H s.heap) (r : Rep D γ s.heap v (.int a)) (r' : Rep D γ s.heap u (.int b)) (q : Q (.int (max a b)) H) :
    wpAny D.M A (call (.builtin "max") [v, u]) (PostV D γ s Q) E s := by
  simp only [Rep] at r r'; obtain ⟨t, rfl⟩ := r; obtain ⟨t', rfl⟩ := r'
  refine max_two_ints hA.handled fun h' tk hk => ?_
  by_cases c : b > a
  · rw [if_pos c]
    have e : max a b = b := by omega
    rw [e] at q
    exact PostV.grown R hk (by simp only [Rep]; exact ⟨_, rfl⟩) q
  · rw [if_neg c]
    have e : max a b = a := by omega
    rw [e] at q
    exact PostV.grown R hk (by simp only [Rep]; exact ⟨_, rfl⟩) q
theorem min_ok {a b : Int} {v u : Value} {Q : V → Hp → Prop} (hA : AOk D k A) (R : HRel D γ H s.heap) (r : Rep D γ s.heap v (.int a)) (r' : Rep D γ s.heap u (.int b)) (q : Q (.int (min a b)) H) :
    wpAny D.M A (call (.builtin "min") [v, u]) (PostV D γ s Q) E s := by
  simp only [Rep] at r r'; obtain ⟨t, rfl⟩ := r; obtain ⟨t', rfl⟩ := r'
  refine min_two_ints hA.handled fun h' tk hk => ?_
  by_cases c : b < a
  · rw [if_pos c]
    have e : min a b = b := by omega
    rw [e] at q
    exact PostV.grown R hk (by simp only [Rep]; exact ⟨_, rfl⟩) q
  · rw [if_neg c]
    have e : min a b = a := by omega
    rw [e] at q
    exact PostV.grown R hk (by simp only [Rep]; exact ⟨_, rfl⟩) q

/- every call of what is no def of the text's own -/
mutual
theorem toPyT_reads {v : Value} (R : HRel D γ H s.heap) : ∀ {V : V} {d : PyData}, Rep D γ s.heap v V → toPyT H V = some d → ∃ as, Reads s.heap v d as ∧ d.canLay0 = true
  | .none, d, r, e => toPy_reads r e
  | .bool b, d, r, e => toPy_reads r e
  | .int i, d, r, e => toPy_reads r e
  | .str x, d, r, e => toPy_reads r e
  | .ref i, d, r, e => toPyH_reads R r e
  | .tup l, d, r, e => by
    simp only [Rep] at r; obtain ⟨a, vs, rfl, ⟨n, q, z⟩, rs⟩ := r
    simp only [toPyT, Option.map_eq_some_iff] at e
    obtain ⟨ds, hd, rfl⟩ := e
    obtain ⟨as, ra, c⟩ := toPysT_reads R rs hd
    exact ⟨as, .tuple q rfl rfl (by simpa using ra), c⟩
  | .opq i, d, r, e => by cases e
  | .fn i, d, r, e => by cases e
  | .ty i, d, r, e => by cases e
  | .bi i, d, r, e => by cases e
  | .scr i, d, r, e => by cases e
  | .cls _ _, d, r, e => by cases e
theorem toPysT_reads {vs : List Value} (R : HRel D γ H s.heap) : ∀ {l : List V} {ds : List PyData}, Reps D γ s.heap vs l → toPysT H l = some ds → ∃ as, ReadsAll s.heap vs ds as ∧ PyData.canLayAll0 ds = true
  | [], ds, r, e => by simp only [Reps] at r; subst r; cases e; exact ⟨_, .nil, rfl⟩
  | V :: l, ds, r, e => by
    simp only [Reps] at r; obtain ⟨v, r', rfl, a, b⟩ := r
    simp only [toPysT] at e
    split at e
    · rename_i d ds' h1 h2
      cases e
      obtain ⟨as, q1, c1⟩ := toPyT_reads R a h1
      obtain ⟨bs, q2, c2⟩ := toPysT_reads R b h2
      exact ⟨_, .cons q1 q2, by simp only [PyData.canLayAll0, c1, c2, Bool.and_self]⟩
    · cases e
end
theorem repr_ok {v : Value} {W : V} {d : PyData} {Q : V → Hp → Prop} (hA : AOk D k A) (R : HRel D γ H s.heap) (r : Rep D γ s.heap v W) (hd : toPyT H W = some d) (h1 : d.showable = true) (h2 : d.depth ≤ 60) (h3 : d.shown.length ≤ 1000000) (q : Q (.opq d.shown) H) :
    wpAny D.M A (call (.builtin "repr") [v]) (PostV D γ s Q) E s := by
  have ho : ∀ (x : Str) (t : Tok), Rep D γ s.heap (.str x t) (.opq x) := fun x t => by simp only [Rep]; exact ⟨t, rfl⟩
  have big : ∀ a, v = .ref a → wpAny D.M A (call (.builtin "repr") [v]) (PostV D γ s Q) E s := by
    rintro a rfl
    obtain ⟨as, rd, c⟩ := toPyT_reads R r hd
    refine repr_of_reads' rd h1 (fun h => by rw [PyData.hasDict_of_canLay d c] at h; cases h) hA.guards (by have := hA.units; show _ < 9900; omega) (fun _ _ e => e) (fun h' u tk hk => ?_) (by rw [sizeLine_eq]; omega)
    exact PostV.grown R hk (by simp only [Rep]; exact ⟨u, rfl⟩) q
  cases W with
  | none => simp only [Rep] at r; subst r; cases hd; exact P.repr_of_none (PostV.now R (ho _ _) q)
  | bool b => simp only [Rep] at r; subst r; cases hd; exact P.repr_of_bool (PostV.now R (ho _ _) q)
  | int i => simp only [Rep] at r; obtain ⟨t, rfl⟩ := r; cases hd; exact P.repr_of_int (of_decide_eq_true h1) (PostV.now R (ho _ _) q)
  | str x => simp only [Rep] at r; obtain ⟨t, rfl, f⟩ := r; cases hd; exact P.repr_of_str (PostV.now R (ho _ _) q) (by rw [sizeLine_eq]; show (PyData.shown (.str x)).length ≤ _; omega)
  | tup l => obtain ⟨a, vs, rfl, _⟩ := r; exact big a rfl
  | ref i => obtain ⟨a, _, rfl⟩ := r; exact big a rfl
  | opq x => cases hd
  | fn x => cases hd
  | ty n => cases hd
  | bi n => cases hd
  | scr n => cases hd
  | cls n u => cases hd
theorem call_ok {Φ : Orc} {f : Value} {vals : List Value} {vs : List V} {Q : V → Hp → Prop} {X : XL} {W : V} (hA : AOk D k A) (R : HRel D γ H s.heap) (rf : Rep D γ s.heap f W) (rv : Reps D γ s.heap vals vs)
    (h : pCall Φ W vs H Q X) (hn : ∀ x, W ≠ .fn x) : wpAny D.M A (call f vals) (PostV D γ s Q) (PostX D γ s X) s := by
  cases W with
  | fn x => exact absurd rfl (hn _)
  | bi b =>
    simp only [Rep] at rf; subst rf
    change pBi b vs H Q at h
    cases b with
    | len =>
      simp only [pBi] at h
      split at h
      · rename_i W
        simp only [Reps] at rv
        obtain ⟨v, r, rfl, a, rfl⟩ := rv
        cases W with
        | tup l => exact len_ok R a (.inl ⟨_, rfl, rfl⟩) h
        | ref i =>
          obtain ⟨l, hl, q⟩ := oK_elim h
          exact len_ok R a (.inr ⟨_, l, rfl, hl, rfl⟩) q
        | scr ns =>
          simp only [Rep] at a; obtain ⟨x, ws, rfl, e, hz, hlen, hI⟩ := a
          refine len_list (items := ws.toArray) (let ⟨o, h1, h2, n, h3⟩ := e; ⟨o, R.base _ _ h1, h2, n, h3⟩) (by simp; omega) (PostV.now R ?_ h)
          simp only [Rep]; exact ⟨s.toks + 1, by simp [hlen]⟩
        | str x => simp only [Rep] at a; obtain ⟨t, rfl, f⟩ := a; exact lenStr_ok R f h
        | _ => exact h.elim
      · exact h.elim
    | isinstance =>
      simp only [pBi] at h
      split at h
      · rename_i W W'
        simp only [Reps] at rv
        obtain ⟨v, r, rfl, a, u, r', rfl, b, rfl⟩ := rv
        cases W' with
        | ty t =>
          simp only [Rep] at b; subst b
          obtain ⟨c, hc, q⟩ := oK_elim h
          exact isi_ok R a hc q
        | _ => exact h.elim
      · exact h.elim
    | all =>
      simp only [pBi] at h
      split at h
      · rename_i W
        simp only [Reps] at rv
        obtain ⟨v, r, rfl, a, rfl⟩ := rv
        cases W with
        | ref i =>
          obtain ⟨l, hl, h⟩ := oK_elim h
          obtain ⟨bs, hb, q⟩ := oK_elim h
          exact all_ok hA R a hl hb q
        | _ => exact h.elim
      · exact h.elim
    | max =>
      simp only [pBi] at h
      split at h
      · rename_i W W'
        simp only [Reps] at rv
        obtain ⟨v, r, rfl, a, u, r', rfl, b, rfl⟩ := rv
        split at h
        · exact max_ok hA R a b h
        · exact h.elim
      · exact h.elim
    | min =>
      simp only [pBi] at h
      split at h
      · rename_i W W'
        simp only [Reps] at rv
        obtain ⟨v, r, rfl, a, u, r', rfl, b, rfl⟩ := rv
        split at h
        · exact min_ok hA R a b h
        · exact h.elim
      · exact h.elim
    | repr =>
      simp only [pBi] at h
      split at h
      · rename_i W
        simp only [Reps] at rv
        obtain ⟨v, r, rfl, a, rfl⟩ := rv
        obtain ⟨d, hd, h1, q⟩ := oK_elim h
        exact repr_ok hA R a hd h1.1 h1.2.1 h1.2.2 q
      · exact h.elim
  | ty b =>
    simp only [Rep] at rf; subst rf
    change pTy b vs H Q at h
    cases b with
    | int =>
      simp only [pTy] at h
      split at h
      · rename_i W
        simp only [Reps] at rv
        obtain ⟨v, r, rfl, a, rfl⟩ := rv
        cases W with
        | bool b => exact int_of_bool_ok R a h
        | str x =>
          simp only [Rep] at a; obtain ⟨t, rfl, f⟩ := a
          obtain ⟨n, hn, hl, q⟩ := oK_elim h
          exact intStr_ok R hn hl q
        | _ => exact h.elim
      · exact h.elim
    | str =>
      simp only [pTy] at h
      split at h
      · rename_i W
        simp only [Reps] at rv
        obtain ⟨v, r, rfl, a, rfl⟩ := rv
        cases W with
        | int i => simp only [Rep] at a; obtain ⟨t, rfl⟩ := a; exact strInt_ok R h.1 h.2
        | str x => simp only [Rep] at a; obtain ⟨t, rfl, f⟩ := a; exact strStr_ok R f h
        | _ => exact h.elim
      · exact h.elim
    | tuple =>
      simp only [pTy] at h
      split at h
      · rename_i W
        simp only [Reps] at rv
        obtain ⟨v, r, rfl, a, rfl⟩ := rv
        cases W with
        | ref i =>
          obtain ⟨l, hl, q⟩ := oK_elim h
          exact tuple_of_list_ok R a hl q
        | _ => exact h.elim
      · exact h.elim
    | list =>
      simp only [pTy] at h
      split at h
      · rename_i W
        simp only [Reps] at rv
        obtain ⟨v, r, rfl, a, rfl⟩ := rv
        cases W with
        | ref i =>
          obtain ⟨l, hl, q⟩ := oK_elim h
          exact list_of_ok R a (.inr ⟨_, rfl, hl⟩) q
        | tup l => exact list_of_ok R a (.inl rfl) h
        | _ => exact h.elim
      · exact h.elim
    | _ => exact h.elim
  | _ => exact h.elim

theorem append_ok {i : Nat} {o v : Value} {l : List V} {Q : V → Hp → Prop} {W : V} (R : HRel D γ H s.heap) (ro : Rep D γ s.heap o (.ref i)) (r : Rep D γ s.heap v W) (hl : listAt H i = some l) (hz : l.length ≤ 1000000)
    (q : Q .none (H.set i (.list (l ++ [W])))) : wpAny D.M A (call (.builtin "list.append") [o, v]) (PostV D γ s Q) E s := by
  simp only [Rep] at ro; obtain ⟨a, hi, rfl⟩ := ro
  obtain ⟨vs, n, e, rs, z⟩ := R.list hi hl
  have hlen := rs.length
  refine wpAny_list_append_plain (items := vs.toArray) ⟨n, e⟩ (fun h' hp hs => ?_) (by simp [sizeLine_eq]; omega)
  obtain ⟨m, hm⟩ := hp
  have em : vs.toArray.push v = (vs ++ [v]).toArray := by simp
  rw [em] at hm
  exact PostV.setList (tk := s.toks) R hi (rs.append (Reps.one r)) (by simp; omega) (fun b o' hb e' => hs.extBut b o' hb e') hm (by simp only [Rep]) q
theorem clear_ok {i : Nat} {o : Value} {l : List V} {Q : V → Hp → Prop} {pos : Pos} (R : HRel D γ H s.heap) (ro : Rep D γ s.heap o (.ref i)) (hl : listAt H i = some l) (q : Q .none (H.set i (.list []))) :
    wpAny D.M A (callWith pos (.builtin "list.clear") [o] [] []) (PostV D γ s Q) E s := by
  simp only [Rep] at ro; obtain ⟨a, hi, rfl⟩ := ro
  obtain ⟨vs, n, e, rs, z⟩ := R.list hi hl
  refine P.clear_list (items := vs.toArray) (n := n) e ?_ (by simp [sizeLine_eq]; omega)
  exact PostV.setList (tk := s.toks) (vs := []) (l := []) R hi (by simp only [Reps]) (Nat.zero_le _) (fun b o' hb e' => (Heap.SameBut.update ..).extBut b o' hb e') (IsL.update e fun _ => #[]) (by simp only [Rep]) q

theorem index_ok {i j : Nat} {o v : Value} {l : List V} {Q : V → Hp → Prop} {W : V} (hA : AOk D k A) (R : HRel D γ H s.heap) (ro : Rep D γ s.heap o (.ref i)) (r : Rep D γ s.heap v W) (hl : listAt H i = some l) (hj : idxV W l = some j)
    (q : Q (.int (j : Int)) H) : wpAny D.M A (call (.builtin "list.index") [o, v]) (PostV D γ s Q) E s := by
  unfold idxV at hj
  split at hj
  · rename_i d ds h1 h2
    split at hj
    · rename_i hd
      obtain ⟨as, r1, c1⟩ := toPy_reads r h1
      obtain ⟨bs, r2, c2⟩ := toPyH_reads (d := .list ds) R ro (by simp [toPyH, hl, h2])
      simp only [Rep] at ro; obtain ⟨a, hi, rfl⟩ := ro
      obtain ⟨vs, n, e, rs, z⟩ := R.list hi hl
      have hlen := rs.length
      cases r2 with
      | list h3 h4 h5 h6 =>
        rw [e] at h3
        cases h3
        cases h5
        have hm := SeqAt.readsAll_map _ _ _ c2 h6
        simp only at hm
        obtain ⟨hj1, hj2, hj3⟩ := List.findIdx?_eq_some_iff_getElem.mp hj
        have hj4 : j < vs.length := by rw [← hm] at hj1; simpa using hj1
        refine call_meets F.slot_list_index ⟨_, e, rfl⟩ F.entry_list_index (F.args_list_index_2 _ _)
          (SeqAt.list_indexAt a vs.toArray n none #[] v (fun y => PyData.eqv (SeqAt.readOf s.heap y) d) j (by simpa using hj4) (by omega) ?_ ?_)
          ⟨e, SeqAt.items_eqAt h6 r1 c2 c1 (room1 hA hd), PostV.now R (by simp only [Rep]; exact ⟨_, rfl⟩) q⟩
        · subst hm; simpa using hj2
        · intro m hm1 hm2
          subst hm
          have := hj3 m hm2
          simpa using this
    · cases hj
  · cases hj
theorem pop_ok {i : Nat} {o : Value} {l : List V} {W : V} {Q : V → Hp → Prop} {pos : Pos} (R : HRel D γ H s.heap) (ro : Rep D γ s.heap o (.ref i)) (hl : listAt H i = some l) (hw : l.getLast? = some W) (q : Q W (H.set i (.list l.dropLast))) :
    wpAny D.M A (callWith pos (.builtin "list.pop") [o] [] []) (PostV D γ s Q) E s := by
  simp only [Rep] at ro; obtain ⟨a, hi, rfl⟩ := ro
  obtain ⟨vs, n, e, rs, z⟩ := R.list hi hl
  have hlen := rs.length
  have hne : l ≠ [] := by rintro rfl; cases hw
  have hpos : 0 < l.length := List.length_pos_iff.mpr hne
  rw [List.getLast?_eq_getElem?] at hw
  obtain ⟨v, hv, rv⟩ := rs.get hw
  have hv' : vs.toArray[vs.toArray.size - 1]? = some v := by simpa [hlen] using hv
  have he : vs.toArray.eraseIdxIfInBounds (vs.toArray.size - 1) = vs.dropLast.toArray := by
    have hb : vs.toArray.size - 1 < vs.toArray.size := by simp; omega
    unfold Array.eraseIdxIfInBounds
    rw [dif_pos hb]
    apply Array.toList_inj.mp
    rw [Array.toList_eraseIdx]
    simp only [List.size_toArray]
    rw [List.eraseIdx_eq_take_drop_succ]
    simp [List.dropLast_eq_take]
    omega
  refine P.pop_list (items := vs.toArray) (n := n) e hv' ?_ (by simp [sizeLine_eq]; omega)
  have e' := IsL.update e fun xs => xs.eraseIdxIfInBounds (vs.toArray.size - 1)
  simp only [he] at e'
  have hk : ∀ b o', b ≠ a → s.heap.get? b = some o' → (s.heap.update a (Obj.mapSeq fun xs => xs.eraseIdxIfInBounds (vs.toArray.size - 1))).get? b = some o' := fun b o' hb q => (Heap.SameBut.update ..).extBut b o' hb q
  have ht : ∀ b ws, TupAt s.heap b ws → TupAt (s.heap.update a (Obj.mapSeq fun xs => xs.eraseIdxIfInBounds (vs.toArray.size - 1))) b ws := fun b ws x => by
    obtain ⟨m, q, d⟩ := x
    refine ⟨m, hk _ _ ?_ q, d⟩
    rintro rfl
    rw [e] at q; simp at q
  refine PostV.setList (tk := s.toks) (vs := vs.dropLast) (l := l.dropLast) R hi ?_ (by simp; omega) hk e' (Rep.mono ⟨[], by simp⟩ ht rv) q
  rw [List.dropLast_eq_take, List.dropLast_eq_take, hlen]
  exact rs.take _
end
end Mine

set_option autoImplicit false
/- The expressions' trees. -/
namespace Mine
open PySem PyProof.Rows

section
variable {D : Wd} {Φ : Orc} {k : Nat}

theorem mapO_cons {α β : Type} {f : α → Option β} {a : α} {r : List α} {l : List β} (h : mapO f (a :: r) = some l) : ∃ b bs, l = b :: bs ∧ f a = some b ∧ mapO f r = some bs := by
  simp only [mapO] at h
  split at h
  · rename_i b bs h1 h2; cases h; exact ⟨b, bs, rfl, h1, h2⟩
  · cases h
theorem mapO_nil {α β : Type} {f : α → Option β} {l : List β} (h : mapO f ([] : List α) = some l) : l = [] := by cases h; rfl

theorem starEach_of {env : Env} {pos : Pos} : ∀ {args : List Expr}, args.any isStar = false → backTo pos (starEach args env) = args.map fun e => (false, eval e env)
  | [], _ => rfl
  | e :: r, h => by
    simp only [List.any_cons, Bool.or_eq_false_iff] at h
    have ih := starEach_of (env := env) (pos := pos) h.2
    have e1 : starEach (e :: r) env = (false, eval e env) :: starEach r env := by
      cases e <;> first | rfl | (simp [isStar] at h)
    rw [e1]
    show ((false, eval e env) :: backTo pos (starEach r env)) = _
    rw [ih]; rfl

theorem spliced_ok {c : CC} {n : Nat} (ih : ∀ e ie, compE n c e = some ie → SE D Φ k c e ie) {env : Env} {A : Around} {X : XL} (he : EnvOk c env) (hA : AOk D k A) {L : Lc} : ∀ (args : List Expr) (ies : List IE) (γ : List Addr) (H : Hp) (s : Shared) (Q : List V → Hp → Prop),
    mapO (compE n c) args = some ies → HRel D γ H s.heap → LRel D γ env c.slots s.heap L → wpEs Φ ies L H Q X →
    wpAny D.M A (spliced (args.map fun e => (false, eval e env))) (PostL D γ s Q) (PostX D γ s X) s
  | [], ies, γ, H, s, Q, hm, R, _, h => by
    rw [mapO_nil hm] at h
    exact Calls.spliced_nil ⟨γ, [], H, Stp.refl, R, by simp only [Reps], h⟩
  | e :: r, ies, γ, H, s, Q, hm, R, l, h => by
    obtain ⟨b, bs, rfl, h1, h2⟩ := mapO_cons hm
    refine Calls.spliced_cons (andThen (ih e b h1 env A γ H s L _ X he hA R l h) ?_)
    intro v s1 γ1 V H1 st R1 rv q
    refine wpAny_mono (spliced_ok ih he hA r bs γ1 H1 s1 _ h2 R1 (l.stp R st) q) (fun vs s2 p => ?_) (fun _ _ x => x.back st R1)
    obtain ⟨γ2, Vs, H2, st2, R2, rvs, q2⟩ := p
    exact ⟨γ2, V :: Vs, H2, st.trans0 R1 st2, R2, by simp only [Reps]; exact ⟨v, vs, rfl, rv.stp0 R1 st2, rvs⟩, q2⟩

theorem evalArgs_ok {c : CC} {n : Nat} (ih : ∀ e ie, compE n c e = some ie → SE D Φ k c e ie) {env : Env} {A : Around} {X : XL} (he : EnvOk c env) (hA : AOk D k A) {L : Lc} {args : List Expr} {ies : List IE} {γ : List Addr} {H : Hp} {s : Shared} {Q : List V → Hp → Prop} {f : Value}
    (hm : mapO (compE n c) args = some ies) (R : HRel D γ H s.heap) (l : LRel D γ env c.slots s.heap L) (h : wpEs Φ ies L H Q X) :
    wpAny D.M A (evalArgs f true (args.map fun e => (false, eval e env)) []) (fun a s' => a.kw = [] ∧ PostL D γ s Q a.pos s') (PostX D γ s X) s := by
  have hs := spliced_ok ih he hA args ies γ H s Q hm R l h
  cases args with
  | nil =>
    rw [mapO_nil hm] at h
    exact evalArgs_nil3 ⟨rfl, γ, [], H, Stp.refl, R, by simp only [Reps], h⟩
  | cons e r => exact Calls.evalArgs_plain (wpAny_mono hs (fun vs s' p => ⟨rfl, p⟩) fun _ _ x => x)

theorem name_ok {c : CC} {env : Env} {A : Around} {γ : List Addr} {H : Hp} {s : Shared} {L : Lc} {Q : V → Hp → Prop} {X : XL} {x : Str} {pos : Pos} {ie : IE} (g : GOk D c.G) (he : EnvOk c env) (R : HRel D γ H s.heap) (l : LRel D γ env c.slots s.heap L)
    (hc : nameV c x = some ie) (h : (wp2 Φ ie).E L H Q X) : wpAny D.M A (eval (.Name x pos) env) (PostV D γ s Q) (PostX D γ s X) s := by
  unfold nameV at hc
  split at hc
  · cases hc
  · rename_i hd
    have hd' : (x == ("__debug__" : Str)) = false := by simpa using hd
    have hkf : env.scope.kind = .function := by rw [he.scope]; exact he.kind
    split at hc
    · rename_i hk
      rw [Option.map_eq_some_iff] at hc
      obtain ⟨V, hV, rfl⟩ := hc
      have hk' : env.kindOf x = some .globalImplicit := by unfold Env.kindOf; rw [he.scope]; exact hk
      obtain ⟨v, hv, rv⟩ := g.val x V hV
      refine Calls.Name_function_global hkf hk' ?_ hd'
      have rr : Rep D γ s.heap v V := Rep.mono ⟨[], by simp⟩ (fun _ _ => tupAt_grow R.base) (rv γ)
      rcases hv with hv | ⟨hv1, hv2⟩
      · exact Calls.loadGlobal_global (by rw [he.globals]; exact g.gns.keeps R.base) hv (PostV.here R rr h)
      · exact Calls.loadGlobal_builtin (by rw [he.globals]; exact g.gns.keeps R.base) hv1 (by rw [he.builtins]; exact g.bns.keeps R.base) hv2 (PostV.here R rr h)
    · rename_i hk
      rw [Option.map_eq_some_iff] at hc
      obtain ⟨i, hi, rfl⟩ := hc
      have hk' : env.kindOf x = some .local := by unfold Env.kindOf; rw [he.scope]; exact hk
      obtain ⟨V, hL, q⟩ := oKK_elim h
      obtain ⟨m, hn, f⟩ := l.ns
      obtain ⟨v, hv, rv⟩ := f x i V hk' hi hL
      exact wpAny_Name (wpAny_loadName_local hkf hk' hn hv (PostV.here R rv q)) hd'
    · rename_i hk
      rw [Option.map_eq_some_iff] at hc
      obtain ⟨i, hi, rfl⟩ := hc
      have hk' : env.kindOf x = some .cell := by unfold Env.kindOf; rw [he.scope]; exact hk
      obtain ⟨V, hL, q⟩ := oKK_elim h
      obtain ⟨ca, u, hca, hcell, _, f⟩ := l.cel x hk'
      obtain ⟨v, rfl, rv⟩ := f i V hi hL
      exact wpAny_Name (wpAny_loadName_cell hkf hk' hca hcell (PostV.here R rv q)) hd'
    · cases hc

theorem globV_lit {c : CC} {x : Str} {V : V} (h : globV c x = some V) : nameV c x = some (.lit V) := by
  unfold globV at h
  unfold nameV
  split at h
  · cases h
  · rename_i hd
    rw [if_neg hd]
    split at h
    · rename_i hk; rw [hk]; simp [h]
    · cases h

theorem const_ok {env : Env} {A : Around} {γ : List Addr} {H : Hp} {s : Shared} {Q : V → Hp → Prop} {X : XL} {kk : Const} {n : Nat} {pos : Pos} {W : V} (R : HRel D γ H s.heap) (hc : constV kk = some W) (q : Q W H) :
    wpAny D.M A (eval (.Constant kk n pos) env) (PostV D γ s Q) (PostX D γ s X) s := by
  cases kk with
  | none => cases hc; exact Constant_none (PostV.here R (by simp only [Rep]) q)
  | bool b => cases hc; exact Constant_bool (PostV.here R (by simp only [Rep]) q)
  | int i => cases hc; exact wpAny_Constant_int (PostV.now R (by simp only [Rep]; exact ⟨_, rfl⟩) q)
  | str x =>
    simp only [constV] at hc
    split at hc
    · rename_i hf
      cases hc; exact Calls.Constant_str (PostV.now R (by simp only [Rep]; exact ⟨_, rfl, hf⟩) q)
    · cases hc
  | float x => cases hc
  | complex a b => cases hc
  | bytes b => cases hc
  | ellipsis => cases hc

theorem orc_call {D : Wd} {A : Around} {γ : List Addr} {H : Hp} {s : Shared} {Q : V → Hp → Prop} {X : XL} {pos : Pos} {f : Value} {W : V} {trees : List (Bool × Sem Value)} {QL : List V → Hp → Prop} (hO : OrcOk D k Φ) (hA : AOk D k A)
    (R : HRel D γ H s.heap) (rf : Rep D γ s.heap f W) (hp : trees.any (·.1) = false)
    (ha : wpAny D.M A (evalArgs f true trees []) (fun a s' => a.kw = [] ∧ PostL D γ s QL a.pos s') (PostX D γ s X) s)
    (hq : ∀ vs H1, QL vs H1 → pCall Φ W vs H1 Q X) : wpAny D.M A (callWith pos f [] trees []) (PostV D γ s Q) (PostX D γ s X) s := by
  have nonfn : (∀ x, W ≠ .fn x) → ∀ (a : Args) (s1 : Shared), (a.kw = [] ∧ PostL D γ s QL a.pos s1) → wpAny D.M A (call f ([] ++ a.pos) a.kw) (PostV D γ s Q) (PostX D γ s X) s1 := by
    rintro hn ⟨ps, kw⟩ s1 ⟨hk, γ1, Vs, H1, st, R1, rv, q⟩
    simp only at hk; subst hk
    exact backV st R1 (call_ok hA R1 (rf.stp0 R st) rv (hq _ _ q) hn)
  have noway : (∀ vs H1, pCall Φ W vs H1 Q X → False) → wpAny D.M A (callWith pos f [] trees []) (PostV D γ s Q) (PostX D γ s X) s := fun hn => by
    unfold callWith
    refine wpAny_bind (wpAny_holding (wpAny_mono ha (fun b s1 hb => ?_) fun _ _ x => x))
    obtain ⟨_, γ1, Vs, H1, _, _, _, q⟩ := hb
    exact (hn _ _ (hq _ _ q)).elim
  cases W with
  | fn x =>
    simp only [Rep] at rf
    obtain ⟨a, rfl, hx⟩ := rf
    have hfun : ∀ (b : Args) (s1 : Shared), (b.kw = [] ∧ PostL D γ s QL b.pos s1) → (∃ o fd, s1.heap.get? a = some o ∧ o.data = .func fd) ∧ wpAny D.M A (call (.ref a) ([] ++ b.pos) b.kw) (PostV D γ s Q) (PostX D γ s X) s1 := by
      rintro ⟨ps, kw⟩ s1 ⟨hk, γ1, Vs, H1, st, R1, rv, q⟩
      simp only at hk; subst hk
      obtain ⟨⟨o, fd, e1, e2⟩, hc⟩ := hO D.fr x Vs H1 Q X (hq _ _ q) A γ1 s1 ps a hA R1 rv hx
      exact ⟨⟨o, fd, R1.base _ _ e1, e2⟩, backV st R1 hc⟩
    unfold callWith
    refine wpAny_bind (wpAny_holding (wpAny_mono ha (fun b s1 hb => wpAny_bind (wpAny_standAt ?_)) fun _ _ x => x))
    obtain ⟨⟨o, fd, e1, e2⟩, hc⟩ := hfun b s1 hb
    have tail : ∀ {t : Sem Value}, wpAny D.M A t (PostV D γ s Q) (PostX D γ s X) s1 → wpAny D.M A (t >>= fun r => holding [r] point >>= fun _ => pure r) (PostV D γ s Q) (PostX D γ s X) s1 :=
      fun ht => wpAny_bind (wpAny_mono ht (fun r s₂ hr => wpAny_bind (wpAny_holding (wpAny_point (wpAny_pure hr)))) fun _ _ x => x)
    simp only [hp, List.any_nil, Bool.or_false]
    refine wpAny_bind (m := keeperOf (.ref a)) ?_
    unfold keeperOf
    refine wpAny_bind (wpAny_load e1 ?_)
    rw [e2]
    refine wpAny_pure ?_
    refine wpAny_ite ?_
    split
    · exact tail hc
    · exact tail (by unfold callMarked; exact Calls.wpAny_keep hc)
  | ty n =>
    simp only [Rep] at rf; subst rf
    exact PyProof.Rows.callWith_type hp (wpAny_mono ha (nonfn (by intro x h; cases h)) fun _ _ x => x)
  | bi n =>
    simp only [Rep] at rf; subst rf
    exact Calls.callWith_builtin hp (wpAny_mono ha (nonfn (by intro x h; cases h)) fun _ _ x => x)
  | _ => exact noway fun _ _ q => q

theorem noSlice {i : Expr} {n : Nat} {c : CC} {ie : IE} (h : compE n c i = some ie) : ∀ lo hi st p, i ≠ .Slice lo hi st p := by
  rintro lo hi st p rfl
  cases n <;> exact nomatch (show (none : Option IE) = some ie from h)

theorem noMarks {r : Expr} {n : Nat} {c : CC} {ie : IE} {op : CmpOp} (h : compE n c r = some ie) : behindInMarks op r = false := by
  cases r <;> first | rfl | (cases n <;> exact nomatch (show (none : Option IE) = some ie from h))

theorem ifP_true {A B : Prop} (h : ifP true A B) : A := h
theorem ifP_false {A B : Prop} (h : ifP false A B) : B := h

/- the truth of a tree by its value -/
theorem st_plain {P : Around → Prop} {c : CC} {e : Expr} {ie : IE} (h : SEP P D Φ c e ie) (hT : (wp2 Φ ie).T = fun L H Q X => (wp2 Φ ie).E L H (fun v H1 => tX H1 v fun c => Q c H1) X)
    (he : ∀ env whole, isTrue e env whole = (do let v ← whole; standAt e.pos; holding [v] (truthy v))) : STP P D Φ c e ie := by
  intro env A γ H s L Q X hE hA R l w
  rw [hT] at w
  refine isTrue_plain (andThen (h env A γ H s L _ X hE hA R l w) ?_) (he _ _)
  intro v s1 γ1 V H1 st R1 rv q
  obtain ⟨b, hb, q⟩ := tX_elim q
  exact backB st R1 (truth_ok R1 rv hb q)
end
end Mine

set_option autoImplicit false
/- The expressions, one tree at a time. -/
namespace Mine
open PySem PyProof.Rows

noncomputable def BothP (P : Around → Prop) (D : Wd) (Φ : Orc) (c : CC) (e : Expr) (ie : IE) : Prop := SEP P D Φ c e ie ∧ STP P D Φ c e ie
noncomputable abbrev Both (D : Wd) (Φ : Orc) (k : Nat) (c : CC) (e : Expr) (ie : IE) : Prop := BothP (AOk D k) D Φ c e ie

section
variable {D : Wd} {Φ : Orc} {k : Nat} {c : CC} {P : Around → Prop}

theorem both_plain {e : Expr} {ie : IE} (h : SEP P D Φ c e ie) (hT : (wp2 Φ ie).T = fun L H Q X => (wp2 Φ ie).E L H (fun v H1 => tX H1 v fun c => Q c H1) X)
    (he : ∀ env whole, isTrue e env whole = (do let v ← whole; standAt e.pos; holding [v] (truthy v))) : BothP P D Φ c e ie := ⟨h, st_plain h hT he⟩

theorem e_name (g : GOk D c.G) {x : Str} {pos : Pos} {ie : IE} (hc : nameV c x = some ie) : BothP P D Φ c (.Name x pos) ie := by
  have hT : (wp2 Φ ie).T = fun L H Q X => (wp2 Φ ie).E L H (fun v H1 => tX H1 v fun c => Q c H1) X := by
    unfold nameV at hc
    split at hc
    · cases hc
    · split at hc <;> first | (rw [Option.map_eq_some_iff] at hc; obtain ⟨_, _, rfl⟩ := hc; rfl) | cases hc
  exact both_plain (fun env A γ H s L Q X hE hA R l w => name_ok g hE R l hc w) hT (fun _ _ => rfl)

theorem e_const {kk : Const} {n : Nat} {pos : Pos} {W : V} (hc : constV kk = some W) : BothP P D Φ c (.Constant kk n pos) (.lit W) :=
  both_plain (fun _ _ _ _ _ _ _ _ _ _ R _ w => const_ok R hc w) rfl (fun _ _ => rfl)

theorem e_bin {l r : Expr} {op : Operator} {pos : Pos} {a b : IE} (ha : SE D Φ k c l a) (hb : SE D Φ k c r b) : Both D Φ k c (.BinOp l op r pos) (.bin op a b) := by
  refine both_plain (fun env A γ H s L Q X hE hA R lr w => ?_) rfl (fun _ _ => rfl)
  refine wpAny_BinOp (andThen (ha env A γ H s L _ X hE hA R lr w) ?_)
  intro va s1 γ1 Va H1 st R1 ra q
  refine thenV st R1 (hb env A γ1 H1 s1 L _ X hE hA R1 (lr.stp R st) q) ?_
  intro vb s2 γ2 Vb H2 st2 R2 rb q2
  exact backV (st.trans0 R1 st2) R2 (bin_ok R2 (ra.stp0 R1 st2) rb q2)

theorem e_neg {x : Expr} {pos : Pos} {a : IE} (ha : SE D Φ k c x a) : Both D Φ k c (.UnaryOp .USub x pos) (.neg a) := by
  refine both_plain (fun env A γ H s L Q X hE hA R lr w => ?_) rfl (fun _ _ => rfl)
  refine UnaryOp_ (andThen (ha env A γ H s L _ X hE hA R lr w) ?_)
  intro va s1 γ1 Va H1 st R1 ra q
  split at q
  · exact backV st R1 (neg_ok R1 ra q)
  · exact q.elim

theorem e_not {x : Expr} {pos : Pos} {a : IE} (ha : BothP P D Φ c x a) : BothP P D Φ c (.UnaryOp .Not x pos) (.not a) := by
  refine ⟨fun env A γ H s L Q X hE hA R lr w => ?_, fun env A γ H s L Q X hE hA R lr w => ?_⟩
  · refine UnaryOp_ (andThen (ha.1 env A γ H s L _ X hE hA R lr w) ?_)
    intro va s1 γ1 Va H1 st R1 ra q
    obtain ⟨b, hb, q⟩ := tX_elim q
    refine not_of (wpAny_mono (truth_ok (Q := fun d H' => d = b ∧ Q (.bool (!b)) H') (E := PostX D γ s X) R1 ra hb ⟨rfl, q⟩) (fun d s2 p => ?_) fun _ _ x => x)
    obtain ⟨γ2, H2, st2, R2, rfl, q2⟩ := p
    exact ⟨γ2, _, H2, st.trans0 R1 st2, R2, by simp only [Rep], q2⟩
  · refine isTrue_not (wpAny_mono (ha.2 env A γ H s L _ X hE hA R lr w) (fun d s2 p => ?_) fun _ _ x => x)
    obtain ⟨γ2, H2, st2, R2, q2⟩ := p
    exact ⟨γ2, H2, st2, R2, q2⟩

theorem e_cmp {l r : Expr} {op : CmpOp} {pos : Pos} {a b : IE} (ha : SE D Φ k c l a) (hb : SE D Φ k c r b) (hm : behindInMarks op r = false) : Both D Φ k c (.Compare l [op] [r] pos) (.cmp a op b) := by
  have key : ∀ env A γ H s L Q X, EnvOk c env → AOk D k A → HRel D γ H s.heap → LRel D γ env c.slots s.heap L → (wp2 Φ (.cmp a op b)).E L H Q X →
      wpAny D.M A (eval l env) (fun va s₁ => wpAny D.M A (eval r env) (fun vb s₂ => wpAny D.M A (compareOp op va vb) (PostV D γ s Q) (PostX D γ s X) s₂) (PostX D γ s X) s₁) (PostX D γ s X) s := by
    intro env A γ H s L Q X hE hA R lr w
    refine andThen (ha env A γ H s L _ X hE hA R lr w) ?_
    intro va s1 γ1 Va H1 st R1 ra q
    refine thenV st R1 (hb env A γ1 H1 s1 L _ X hE hA R1 (lr.stp R st) q) ?_
    intro vb s2 γ2 Vb H2 st2 R2 rb q2
    exact backV (st.trans0 R1 st2) R2 (cmp_ok hA R2 (ra.stp0 R1 st2) rb q2)
  refine ⟨fun env A γ H s L Q X hE hA R lr w => wpAny_Compare1 (key env A γ H s L Q X hE hA R lr w) hm, fun env A γ H s L Q X hE hA R lr w => wpAny_isTrue_Compare1 ?_ hm⟩
  refine wpAny_mono (key env A γ H s L _ X hE hA R lr w) (fun va s1 p => wpAny_mono p (fun vb s2 p2 => wpAny_mono p2 (fun v s3 p3 => ?_) fun _ _ x => x) fun _ _ x => x) fun _ _ x => x
  obtain ⟨γ3, V, H3, st3, R3, rv, q⟩ := p3
  obtain ⟨d, hd, q⟩ := tX_elim q
  exact backB st3 R3 (truth_ok R3 rv hd q)

theorem cmp2_head {l r : Expr} {op op' : CmpOp} {a b d : IE} (ha : SE D Φ k c l a) (hb : SE D Φ k c r b) {env : Env} {A : Around} {γ : List Addr} {H : Hp} {s : Shared} {L : Lc} {Q : V → Hp → Prop} {X : XL}
    (hE : EnvOk c env) (hA : AOk D k A) (R : HRel D γ H s.heap) (lr : LRel D γ env c.slots s.heap L) (w : (wp2 Φ (.cmp2 a op b op' d)).E L H Q X) :
    wpAny D.M A (eval l env) (fun va s₁ => wpAny D.M A (eval r env) (fun vb s₂ => wpAny D.M A (compareOp op va vb) (fun cv s₃ => wpAny D.M A (truthy cv) (fun t s₄ =>
      ∃ γ4 Vb Vc H4, Stp [] γ γ4 s s₄ ∧ HRel D γ4 H4 s₄.heap ∧ LRel D γ4 env c.slots s₄.heap L ∧ Rep D γ4 s₄.heap vb Vb ∧ Rep D γ4 s₄.heap cv Vc ∧ truthV H4 Vc = some t ∧ ifP t ((wp2 Φ d).E L H4 (fun vc H4 => pCmp op' Vb vc H4 Q) X) (Q Vc H4))
        (PostX D γ s X) s₃) (PostX D γ s X) s₂) (PostX D γ s X) s₁) (PostX D γ s X) s := by
  refine andThen (ha env A γ H s L _ X hE hA R lr w) ?_
  intro va s1 γ1 Va H1 st R1 ra q
  refine thenV st R1 (hb env A γ1 H1 s1 L _ X hE hA R1 (lr.stp R st) q) ?_
  intro vb s2 γ2 Vb H2 st2 R2 rb q2
  have st02 := st.trans0 R1 st2
  refine thenV st02 R2 (cmp_ok (Q := _) (E := PostX D γ2 s2 X) hA R2 (ra.stp0 R1 st2) rb q2) ?_
  intro cv s3 γ3 Vc H3 st3 R3 rc q3
  obtain ⟨t, ht, q3⟩ := tX_elim q3
  have st03 := st02.trans0 R2 st3
  refine wpAny_mono (truth_ok (Q := fun t' H' => t' = t ∧ H' = H3) (E := PostX D γ s X) R3 rc ht ⟨rfl, rfl⟩) (fun t' s4 p => ?_) fun _ _ x => x
  obtain ⟨γ4, H4, st4, R4, rfl, rfl⟩ := p
  exact ⟨γ4, Vb, Vc, _, st03.trans0 R3 st4, R4, (lr.stp R st03).stp R3 st4, (rb.stp0 R2 st3).stp0 R3 st4, rc.stp0 R3 st4, ht, q3⟩

theorem e_cmp2 {l r r' : Expr} {op op' : CmpOp} {pos : Pos} {a b d : IE} (ha : SE D Φ k c l a) (hb : SE D Φ k c r b) (hd : SE D Φ k c r' d) (hm : behindInMarks op' r' = false) :
    Both D Φ k c (.Compare l [op, op'] [r, r'] pos) (.cmp2 a op b op' d) := by
  have hm' : lastMarks [op, op'] [r, r'] = false := hm
  refine ⟨fun env A γ H s L Q X hE hA R lr w => ?_, fun env A γ H s L Q X hE hA R lr w => ?_⟩
  · refine Compare_chain (wpAny_mono (cmp2_head ha hb hE hA R lr w) (fun va s1 h1 => ?_) fun _ _ x => x) hm'
    refine chain_link (wpAny_mono h1 (fun vb s2 h2 => wpAny_mono h2 (fun cv s3 h3 => wpAny_mono h3 (fun t s4 h4 => ?_) fun _ _ x => x) fun _ _ x => x) fun _ _ x => x)
    obtain ⟨γ4, Vb, Vc, H4, st, R4, l4, rb, rc, ht, q⟩ := h4
    cases t with
    | true =>
      refine chain_last (thenV st R4 (hd env A γ4 _ s4 L _ X hE hA R4 l4 q) ?_)
      intro vd s5 γ5 Vd H5 st5 R5 rd q5
      exact backV (st.trans0 R4 st5) R5 (cmp_ok hA R5 (rb.stp0 R4 st5) rd q5)
    | false => exact ⟨γ4, Vc, H4, st, R4, rc, q⟩
  · refine isTrue_chain (wpAny_mono (cmp2_head ha hb hE hA R lr w) (fun va s1 h1 => ?_) fun _ _ x => x) hm'
    refine test_link (wpAny_mono h1 (fun vb s2 h2 => wpAny_mono h2 (fun cv s3 h3 => wpAny_mono h3 (fun t s4 h4 => ?_) fun _ _ x => x) fun _ _ x => x) fun _ _ x => x)
    obtain ⟨γ4, Vb, Vc, H4, st, R4, l4, rb, rc, ht, q⟩ := h4
    cases t with
    | true =>
      refine test_last (thenV st R4 (hd env A γ4 _ s4 L _ X hE hA R4 l4 q) ?_)
      intro vd s5 γ5 Vd H5 st5 R5 rd q5
      refine thenV (st.trans0 R4 st5) R5 (cmp_ok (Q := _) (E := PostX D γ5 s5 X) hA R5 (rb.stp0 R4 st5) rd q5) ?_
      intro v s6 γ6 V6 H6 st6 R6 r6 q6
      obtain ⟨t6, ht6, q6⟩ := tX_elim q6
      exact backB ((st.trans0 R4 st5).trans0 R5 st6) R6 (truth_ok R6 r6 ht6 q6)
    | false =>
      obtain ⟨t', ht', q'⟩ := tX_elim q
      rw [ht] at ht'; cases ht'
      exact ⟨γ4, H4, st, R4, q'⟩

theorem e_ite {t a b : Expr} {pos : Pos} {it ia ib : IE} (ht : Both D Φ k c t it) (ha : Both D Φ k c a ia) (hb : Both D Φ k c b ib) : Both D Φ k c (.IfExp t a b pos) (.ite it ia ib) := by
  refine ⟨fun env A γ H s L Q X hE hA R lr w => ?_, fun env A γ H s L Q X hE hA R lr w => ?_⟩
  · refine IfExp_ (andThenB (ht.2 env A γ H s L _ X hE hA R lr w) ?_)
    intro v s1 γ1 H1 st R1 q
    cases v with
    | true => exact backV st R1 (ha.1 env A γ1 H1 s1 L Q X hE hA R1 (lr.stp R st) q)
    | false => exact backV st R1 (hb.1 env A γ1 H1 s1 L Q X hE hA R1 (lr.stp R st) q)
  · refine isTrue_IfExp (andThenB (ht.2 env A γ H s L _ X hE hA R lr w) ?_)
    intro v s1 γ1 H1 st R1 q
    cases v with
    | true => exact backB st R1 (ha.2 env A γ1 H1 s1 L Q X hE hA R1 (lr.stp R st) q)
    | false => exact backB st R1 (hb.2 env A γ1 H1 s1 L Q X hE hA R1 (lr.stp R st) q)

theorem e_and {f : Expr → Option IE} : ∀ {vs : List Expr} {ies : List IE} {pos : Pos} {ie : IE}, (∀ e ie, f e = some ie → BothP P D Φ c e ie) → mapO f vs = some ies → boolGo .and ies = some ie → BothP P D Φ c (.BoolOp .And vs pos) ie
  | [], ies, pos, ie, ih, hm, hb => by rw [mapO_nil hm] at hb; cases hb
  | [e], ies, pos, ie, ih, hm, hb => by
    obtain ⟨b, bs, rfl, h1, h2⟩ := mapO_cons hm
    rw [mapO_nil h2] at hb
    cases hb
    have := ih e ie h1
    refine ⟨fun env A γ H s L Q X hE hA R lr w => BoolOp_one (this.1 env A γ H s L Q X hE hA R lr w), fun env A γ H s L Q X hE hA R lr w => ?_⟩
    refine isTrue_and (wpAny_mono (this.2 env A γ H s L Q X hE hA R lr w) (fun t s1 p => ?_) fun _ _ x => x)
    cases t with
    | true => exact isTrue_and_nil p
    | false => exact p
  | e :: e2 :: r, ies, pos, ie, ih, hm, hb => by
    obtain ⟨b, bs, rfl, h1, h2⟩ := mapO_cons hm
    obtain ⟨b2, bs2, rfl, h3, h4⟩ := mapO_cons h2
    simp only [boolGo, Option.map_eq_some_iff] at hb
    obtain ⟨i2, hi2, rfl⟩ := hb
    have rest := e_and (vs := e2 :: r) (pos := pos) ih h2 hi2
    have one := ih e b h1
    refine ⟨fun env A γ H s L Q X hE hA R lr w => ?_, fun env A γ H s L Q X hE hA R lr w => ?_⟩
    · refine BoolOp_and (andThen (one.1 env A γ H s L _ X hE hA R lr w) ?_)
      intro va s1 γ1 Va H1 st R1 ra q
      obtain ⟨t, ht, q⟩ := tX_elim q
      refine wpAny_mono (truth_ok (Q := fun t' H' => t' = t ∧ H' = H1) (E := PostX D γ s X) R1 ra ht ⟨rfl, rfl⟩) (fun t' s4 p => ?_) fun _ _ x => x
      obtain ⟨γ4, H4, st4, R4, rfl, rfl⟩ := p
      have st04 := st.trans0 R1 st4
      cases t' with
      | true => exact backV st04 R4 (rest.1 env A γ4 _ s4 L Q X hE hA R4 (lr.stp R st04) q)
      | false => exact ⟨γ4, Va, _, st04, R4, ra.stp0 R1 st4, q⟩
    · refine isTrue_and (andThenB (one.2 env A γ H s L _ X hE hA R lr w) ?_)
      intro v s1 γ1 H1 st R1 q
      cases v with
      | true => exact backB st R1 (rest.2 env A γ1 H1 s1 L Q X hE hA R1 (lr.stp R st) q)
      | false => exact ⟨γ1, H1, st, R1, q⟩

theorem e_or {f : Expr → Option IE} : ∀ {vs : List Expr} {ies : List IE} {pos : Pos} {ie : IE}, (∀ e ie, f e = some ie → BothP P D Φ c e ie) → mapO f vs = some ies → boolGo .or ies = some ie → BothP P D Φ c (.BoolOp .Or vs pos) ie
  | [], ies, pos, ie, ih, hm, hb => by rw [mapO_nil hm] at hb; cases hb
  | [e], ies, pos, ie, ih, hm, hb => by
    obtain ⟨b, bs, rfl, h1, h2⟩ := mapO_cons hm
    rw [mapO_nil h2] at hb
    cases hb
    have := ih e ie h1
    refine ⟨fun env A γ H s L Q X hE hA R lr w => BoolOp_one (this.1 env A γ H s L Q X hE hA R lr w), fun env A γ H s L Q X hE hA R lr w => ?_⟩
    refine isTrue_or (wpAny_mono (this.2 env A γ H s L Q X hE hA R lr w) (fun t s1 p => ?_) fun _ _ x => x)
    cases t with
    | true => exact p
    | false => exact isTrue_or_nil p
  | e :: e2 :: r, ies, pos, ie, ih, hm, hb => by
    obtain ⟨b, bs, rfl, h1, h2⟩ := mapO_cons hm
    obtain ⟨b2, bs2, rfl, h3, h4⟩ := mapO_cons h2
    simp only [boolGo, Option.map_eq_some_iff] at hb
    obtain ⟨i2, hi2, rfl⟩ := hb
    have rest := e_or (vs := e2 :: r) (pos := pos) ih h2 hi2
    have one := ih e b h1
    refine ⟨fun env A γ H s L Q X hE hA R lr w => ?_, fun env A γ H s L Q X hE hA R lr w => ?_⟩
    · refine BoolOp_or (andThen (one.1 env A γ H s L _ X hE hA R lr w) ?_)
      intro va s1 γ1 Va H1 st R1 ra q
      obtain ⟨t, ht, q⟩ := tX_elim q
      refine wpAny_mono (truth_ok (Q := fun t' H' => t' = t ∧ H' = H1) (E := PostX D γ s X) R1 ra ht ⟨rfl, rfl⟩) (fun t' s4 p => ?_) fun _ _ x => x
      obtain ⟨γ4, H4, st4, R4, rfl, rfl⟩ := p
      have st04 := st.trans0 R1 st4
      cases t' with
      | false => exact backV st04 R4 (rest.1 env A γ4 _ s4 L Q X hE hA R4 (lr.stp R st04) q)
      | true => exact ⟨γ4, Va, _, st04, R4, ra.stp0 R1 st4, q⟩
    · refine isTrue_or (andThenB (one.2 env A γ H s L _ X hE hA R lr w) ?_)
      intro v s1 γ1 H1 st R1 q
      cases v with
      | false => exact backB st R1 (rest.2 env A γ1 H1 s1 L Q X hE hA R1 (lr.stp R st) q)
      | true => exact ⟨γ1, H1, st, R1, q⟩

theorem e_tup {es : List Expr} {kk : Nat} {pos : Pos} {ies : List IE} {n : Nat} (ih : ∀ e ie, compE n c e = some ie → SE D Φ k c e ie) (hs : es.any isStar = false) (hm : mapO (compE n c) es = some ies) :
    Both D Φ k c (.Tuple es kk pos) (.tup ies) := by
  refine both_plain (fun env A γ H s L Q X hE hA R lr w => ?_) rfl (fun _ _ => rfl)
  refine wpAny_Tuple (wpAny_mono (by rw [starEach_of hs]; exact spliced_ok ih hE hA es ies γ H s _ hm R lr w) (fun vs s1 p => ?_) fun _ _ x => x)
  obtain ⟨γ1, Vs, H1, st, R1, rv, hz, q⟩ := p
  have hl := rv.length
  exact ⟨by rw [sizeLine_eq]; omega, (PostV.newTuple R1 rv (by omega) q).back st R1⟩

theorem e_lst {es : List Expr} {pos : Pos} {ies : List IE} {n : Nat} (ih : ∀ e ie, compE n c e = some ie → SE D Φ k c e ie) (hs : es.any isStar = false) (hm : mapO (compE n c) es = some ies) :
    Both D Φ k c (.List es pos) (.lst ies) := by
  refine both_plain (fun env A γ H s L Q X hE hA R lr w => ?_) rfl (fun _ _ => rfl)
  refine wpAny_List (wpAny_mono (by rw [starEach_of hs]; exact spliced_ok ih hE hA es ies γ H s _ hm R lr w) (fun vs s1 p => ?_) fun _ _ x => x)
  obtain ⟨γ1, Vs, H1, st, R1, rv, hz, q⟩ := p
  have hl := rv.length
  exact ⟨by rw [sizeLine_eq]; omega, (PostV.newList R1 rv (by omega) q).back st R1⟩

theorem e_sub {o i : Expr} {pos : Pos} {a b : IE} (ha : SE D Φ k c o a) (hb : SE D Φ k c i b) (hs : ∀ lo hi st p, i ≠ .Slice lo hi st p) : Both D Φ k c (.Subscript o i pos) (.sub a b) := by
  refine both_plain (fun env A γ H s L Q X hE hA R lr w => ?_) rfl (fun _ _ => rfl)
  refine Subscript_ (andThen (ha env A γ H s L _ X hE hA R lr w) ?_)
  intro va s1 γ1 Va H1 st R1 ra q
  refine thenV st R1 (hb env A γ1 H1 s1 L _ X hE hA R1 (lr.stp R st) q) ?_
  intro vb s2 γ2 Vb H2 st2 R2 rb q2
  exact backV (st.trans0 R1 st2) R2 (sub_ok R2 (ra.stp0 R1 st2) rb q2 hs)

theorem e_call {f : Str} {fp pos : Pos} {args : List Expr} {W : V} {ies : List IE} {n : Nat} (g : GOk D c.G) (hO : OrcOk D k Φ) (ih : ∀ e ie, compE n c e = some ie → SE D Φ k c e ie) (hs : args.any isStar = false) (hf : globV c f = some W)
    (hm : mapO (compE n c) args = some ies) : Both D Φ k c (.Call (.Name f fp) args [] pos) (.call W ies) := by
  refine both_plain (fun env A γ H s L Q X hE hA R lr w => ?_) rfl (fun _ _ => rfl)
  refine wpAny_Call_ofName (andThen (name_ok (Φ := Φ) (Q := fun V H' => V = W ∧ H' = H) g hE R lr (globV_lit hf) ⟨rfl, rfl⟩) ?_)
  intro vf s1 γ1 Vf H1 st R1 rf q
  obtain ⟨rfl, rfl⟩ := q
  refine backV st R1 ?_
  rw [starEach_of hs]
  refine orc_call (QL := fun vs H' => pCall Φ Vf vs H' Q X) hO hA R1 rf (by simp) (evalArgs_ok ih hE hA hm R1 (lr.stp R st) w) (fun _ _ q => q)

theorem e_append {o a : Expr} {apos pos : Pos} {io ia : IE} (ho : SE D Φ k c o io) (ha : SE D Φ k c a ia) (hb : plainBase o = true) (hl : apos.endLine = pos.line) (hs : isStar a = false) :
    Both D Φ k c (.Call (.Attribute o "append" apos) [a] [] pos) (.meth io .append [ia]) := by
  refine both_plain (fun env A γ H s L Q X hE hA R lr w => ?_) rfl (fun _ _ => rfl)
  have e1 : backTo pos (starEach [a] env) = [(false, eval a env)] := by
    rw [starEach_of (by simp [hs])]; rfl
  refine wpAny_Call_append (by cases o <;> first | rfl | (simp [plainBase] at hb)) (by rw [e1]; rfl) (by simp [hl]) e1 (andThen (ho env A γ H s L _ X hE hA R lr w) ?_)
  intro vo s1 γ1 Vo H1 st R1 ro q
  obtain ⟨hm, q⟩ := q
  cases Vo <;> simp only [okMeth] at hm
  rename_i i
  obtain ⟨l0, hl0⟩ := hm
  have ro' := ro
  simp only [Rep] at ro'
  obtain ⟨x, hx, rfl⟩ := ro'
  obtain ⟨vs, n, e, rs, z⟩ := R1.list hx hl0
  refine ⟨x, vs.toArray, rfl, ?_, thenV st R1 (ha env A γ1 H1 s1 L _ X hE hA R1 (lr.stp R st) q) ?_⟩
  · exact ⟨_, n, e, rfl, rfl, rfl⟩
  intro va s2 γ2 Va H2 st2 R2 ra q2
  obtain ⟨l, hl', hz, q2⟩ := oK_elim q2
  exact backV (st.trans0 R1 st2) R2 (append_ok R2 (ro.stp0 R1 st2) ra hl' hz q2)
theorem listTy {D : Wd} {γ : List Addr} {H : Hp} {s : Shared} {i : Nat} {o : Value} {l : List V} (R : HRel D γ H s.heap) (ro : Rep D γ s.heap o (.ref i)) (hl : listAt H i = some l) :
    s.TypeIs o "list" ∧ ∀ a, o = .ref a → ∃ ob, s.heap.get? a = some ob ∧ ob.dict = none := by
  simp only [Rep] at ro
  obtain ⟨x, hx, rfl⟩ := ro
  obtain ⟨vs, n, e, rs, z⟩ := R.list hx hl
  exact ⟨⟨_, e, rfl⟩, fun a ha => by cases ha; exact ⟨_, e, rfl⟩⟩
theorem attrBase {o : Expr} {name : Str} {env : Env} (hb : plainBase o = true) : attributeBase o name env (eval o env) = eval o env := by cases o <;> first | rfl | (simp [plainBase] at hb)
theorem e_clear {o : Expr} {apos pos : Pos} {io : IE} (ho : SE D Φ k c o io) (hb : plainBase o = true) (hl : apos.endLine = pos.line) :
    Both D Φ k c (.Call (.Attribute o "clear" apos) [] [] pos) (.meth io .clear []) := by
  refine both_plain (fun env A γ H s L Q X hE hA R lr w => ?_) rfl (fun _ _ => rfl)
  refine wpAny_Call_method (attrBase hb) rfl (by simp [hl]) F.plainAttrs_list F.slot_list_clear F.type_list_clear (andThen (ho env A γ H s L _ X hE hA R lr w) ?_)
  intro vo s1 γ1 Vo H1 st R1 ro q
  obtain ⟨hm, q⟩ := q
  cases Vo <;> simp only [okMeth] at hm
  rename_i i
  obtain ⟨l, hl'⟩ := hm
  obtain ⟨l2, hl2, q⟩ := oK_elim q
  obtain ⟨h1, h2⟩ := listTy R1 ro hl'
  exact ⟨h1, h2, backV st R1 (clear_ok R1 ro hl2 q)⟩
theorem e_index {o a : Expr} {apos pos : Pos} {io ia : IE} (ho : SE D Φ k c o io) (ha : SE D Φ k c a ia) (hb : plainBase o = true) (hl : apos.endLine = pos.line) (hs : isStar a = false) :
    Both D Φ k c (.Call (.Attribute o "index" apos) [a] [] pos) (.meth io .index [ia]) := by
  refine both_plain (fun env A γ H s L Q X hE hA R lr w => ?_) rfl (fun _ _ => rfl)
  have e1 : backTo pos (starEach [a] env) = [(false, eval a env)] := by
    rw [starEach_of (by simp [hs])]; rfl
  refine wpAny_Call_method (attrBase hb) (by rw [e1]; rfl) (by simp [hl]) F.plainAttrs_list F.slot_list_index F.type_list_index (andThen (ho env A γ H s L _ X hE hA R lr w) ?_)
  intro vo s1 γ1 Vo H1 st R1 ro q
  obtain ⟨hm, q⟩ := q
  cases Vo <;> simp only [okMeth] at hm
  rename_i i
  obtain ⟨l, hl'⟩ := hm
  obtain ⟨h1, h2⟩ := listTy R1 ro hl'
  refine ⟨h1, h2, ?_⟩
  rw [e1]
  refine Calls.callWith_builtin rfl (Calls.evalArgs_plain (Calls.spliced_cons (thenV st R1 (ha env A γ1 H1 s1 L _ X hE hA R1 (lr.stp R st) q) ?_)))
  intro va s2 γ2 Va H2 st2 R2 ra q2
  obtain ⟨l2, hl2, q2⟩ := oK_elim q2
  obtain ⟨j, hj, q2⟩ := oK_elim q2
  exact Calls.spliced_nil (backV (st.trans0 R1 st2) R2 (index_ok hA R2 (ro.stp0 R1 st2) ra hl2 hj q2))
theorem e_pop {o : Expr} {apos pos : Pos} {io : IE} (ho : SE D Φ k c o io) (hb : plainBase o = true) (hl : apos.endLine = pos.line) :
    Both D Φ k c (.Call (.Attribute o "pop" apos) [] [] pos) (.meth io .pop []) := by
  refine both_plain (fun env A γ H s L Q X hE hA R lr w => ?_) rfl (fun _ _ => rfl)
  refine wpAny_Call_method (attrBase hb) rfl (by simp [hl]) F.plainAttrs_list F.slot_list_pop F.type_list_pop (andThen (ho env A γ H s L _ X hE hA R lr w) ?_)
  intro vo s1 γ1 Vo H1 st R1 ro q
  obtain ⟨hm, q⟩ := q
  cases Vo <;> simp only [okMeth] at hm
  rename_i i
  obtain ⟨l, hl'⟩ := hm
  obtain ⟨l2, hl2, q⟩ := oK_elim q
  obtain ⟨v, hv, q⟩ := oK_elim q
  obtain ⟨h1, h2⟩ := listTy R1 ro hl'
  exact ⟨h1, h2, backV st R1 (pop_ok R1 ro hl2 hv q)⟩
theorem e_strm {o a : Expr} {name : Str} {j : Bool} {apos pos : Pos} {io ia : IE} (hj : smOf name = some j) (ho : SE D Φ k c o io) (ha : SE D Φ k c a ia) (hb : plainBase o = true) (hl : apos.endLine = pos.line) (hs : isStar a = false) :
    Both D Φ k c (.Call (.Attribute o name apos) [a] [] pos) (.strm io j ia) := by
  refine both_plain (fun env A γ H s L Q X hE hA R lr w => ?_) rfl (fun _ _ => rfl)
  have e1 : backTo pos (starEach [a] env) = [(false, eval a env)] := by
    rw [starEach_of (by simp [hs])]; rfl
  have run : ∀ (m : String), (∀ {va : Value} {s2 : Shared} {γ2 : List Addr} {H2 : Hp} {Va : V} {x : Str} {t : Tok}, HRel D γ2 H2 s2.heap → StrFine x → Rep D γ2 s2.heap va Va → pStrm j x Va H2 Q → wpAny D.M A (call (.builtin m) [.str x t, va]) (PostV D γ2 s2 Q) (PostX D γ2 s2 X) s2) →
      wpAny D.M A (eval o env) (fun v s₁ => s₁.TypeIs v "str" ∧ (∀ b, v = .ref b → ∃ ob, s₁.heap.get? b = some ob ∧ ob.dict = none) ∧ wpAny D.M A (callWith pos (.builtin m) [v] [(false, eval a env)] []) (PostV D γ s Q) (PostX D γ s X) s₁) (PostX D γ s X) s := by
    intro m hm
    refine andThen (ho env A γ H s L _ X hE hA R lr w) ?_
    intro vo s1 γ1 Vo H1 st R1 ro q
    obtain ⟨x, hx, q⟩ := oK_elim q
    rw [strV_some hx] at ro
    simp only [Rep] at ro
    obtain ⟨t, rfl, f⟩ := ro
    refine ⟨typeIs_str _ _ _, ⟨(fun b e => by cases e), ?_⟩⟩
    refine Calls.callWith_builtin rfl (Calls.evalArgs_plain (Calls.spliced_cons (thenV st R1 (ha env A γ1 H1 s1 L _ X hE hA R1 (lr.stp R st) q) ?_)))
    intro va s2 γ2 Va H2 st2 R2 ra q2
    exact Calls.spliced_nil (backV (st.trans0 R1 st2) R2 (hm R2 f ra q2))
  cases j with
  | true =>
    rw [smOf_t hj]
    refine wpAny_Call_method (attrBase hb) (by rw [e1]; rfl) (by simp [hl]) F.plainAttrs_str F.slot_str_join F.type_str_join ?_
    rw [e1]
    refine run _ fun {va s2 γ2 H2 Va x t} R2 f ra q2 => ?_
    cases Va <;> first | exact q2.elim | skip
    obtain ⟨l, hl', q2⟩ := oK_elim q2
    obtain ⟨ys, hy, hz, q2⟩ := oK_elim q2
    exact join_ok R2 f ra hl' hy hz q2
  | false =>
    rw [smOf_f hj]
    refine wpAny_Call_method (attrBase hb) (by rw [e1]; rfl) (by simp [hl]) F.plainAttrs_str F.slot_str_split F.type_str_split ?_
    rw [e1]
    refine run _ fun {va s2 γ2 H2 Va x t} R2 f ra q2 => ?_
    obtain ⟨y, hy, hz, q2⟩ := oK_elim q2
    rw [strV_some hy] at ra
    simp only [Rep] at ra
    obtain ⟨u, rfl, fy⟩ := ra
    exact split_ok R2 f hz.1 hz.2 q2
end
end Mine

set_option autoImplicit false
/- Slices of lists and tuples. -/
namespace Mine
open PySem PyProof.Rows

section
variable {prog : Program} {w : World} {A : Around} {E : Value → Shared → Prop} {s : Shared}

theorem part_at {v : Value} {k : Option Int} {Q : Option Int → Shared → Prop} (p : IsPart v k) (h : Q k s) : wpAny (model prog w) A (Builtin.Slice.slicePartIndex v) Q E s := by
  cases p with
  | none => exact slicePart_none h
  | int i t => exact slicePart_int h
theorem applied_at {sl : Addr} {vl vu vt : Value} {lo hi st : Option Int} {n : Nat} {Q : Int × Int × Nat → Shared → Prop} (hs : s.heap.IsSliceOf sl vl vu vt) (pl : IsPart vl lo) (pu : IsPart vu hi) (pt : IsPart vt st) (h0 : (st.getD 1 == 0) = false)
    (h : Q ((Builtin.Slice.sliceAdjust lo hi (st.getD 1) (n : Int)).1, st.getD 1, Builtin.Slice.slicePlaces (Builtin.Slice.sliceAdjust lo hi (st.getD 1) (n : Int)).1 (Builtin.Slice.sliceAdjust lo hi (st.getD 1) (n : Int)).2 (st.getD 1)) s) :
    wpAny (model prog w) A (Builtin.Slice.sliceApplied (.ref sl) (pure (n : Int))) Q E s := by
  obtain ⟨os, hos, hcs, hds⟩ := id hs
  unfold Builtin.Slice.sliceApplied Builtin.Slice.sliceFields
  refine wpAny_bind (wpAny_bind (wpAny_field hos hds (x := vl) rfl (wpAny_bind (wpAny_field hos hds (x := vu) rfl (wpAny_bind (wpAny_field hos hds (x := vt) rfl (wpAny_pure ?_)))))))
  refine wpAny_bind (part_at pt ?_)
  show wpAny _ _ (if (st.getD 1 == 0) = true then _ else _) _ _ s
  rw [h0, if_neg (by decide)]
  exact wpAny_bind (part_at pl (wpAny_bind (part_at pu (wpAny_bind (wpAny_pure (wpAny_pure h))))))

noncomputable def pickT (xs : Array Value) (lo step : Int) (n : Nat) : List Value := (List.range n).filterMap fun (k : Nat) => xs[(lo + (k : Int) * step).toNat]?
theorem getItem_tup {t sl : Addr} {items : Array Value} {vl vu vt : Value} {lo hi st : Option Int} {zs : List Value} {Q : Value → Shared → Prop} (ht : IsTup s.heap t items) (hs : s.heap.IsSliceOf sl vl vu vt) (pl : IsPart vl lo) (pu : IsPart vu hi) (pt : IsPart vt st) (h0 : (st.getD 1 == 0) = false)
    (hz : pickT items (Builtin.Slice.sliceAdjust lo hi (st.getD 1) (items.size : Int)).1 (st.getD 1) (Builtin.Slice.slicePlaces (Builtin.Slice.sliceAdjust lo hi (st.getD 1) (items.size : Int)).1 (Builtin.Slice.sliceAdjust lo hi (st.getD 1) (items.size : Int)).2 (st.getD 1)) = zs)
    (hsz : zs.length ≤ sizeLine) (h1 : zs = items.toList → Q (.ref t) s) (h2 : Q (.ref s.heap.objs.size) { s with heap := s.heap.push { cls := .type "tuple", data := .seq zs.toArray } }) :
    wpAny (model prog w) A (getItem (.ref t) (.ref sl)) Q E s := by
  have hdrop : sizeOk (.seq zs.toArray) := by
    show zs.toArray.size ≤ sizeLine
    rw [List.size_toArray]; exact hsz
  obtain ⟨os, hos, hcs, hds⟩ := id hs
  have hTs : s.TypeIs (.ref sl) "slice" := ⟨os, hos, hcs⟩
  unfold getItem
  try with_reducible refine wpAny_holding ?_
  first | refine wpAny_bind (wpAny_pure ?_) | skip
  refine wpAny_bind (wpAny_sequenceKey ht.typeIs (by decide) ?_)
  refine wpAny_bind (wpAny_callSpecial?_slot (name := Str.ofString "__getitem__") ht.typeIs slot_tuple_getitem
    (wpAny_call_entry slot_tuple_getitem ht.typeIs entry_tuple_getitem ?_ (args_tuple_getitem _ _)))
  show wpAny _ _ (Builtin.Tuple.tupleItemsOf (.ref t) >>= _) _ _ s
  refine wpAny_bind (tupleItemsOf_ ht ?_)
  refine wpAny_bind (wpAny_typeOf hTs ?_)
  rw [if_pos (by decide)]
  refine wpAny_bind (applied_at hs pl pu pt h0 ?_)
  generalize (Builtin.Slice.sliceAdjust lo hi (st.getD 1) (items.size : Int)).1 = a at *
  generalize hb : Builtin.Slice.slicePlaces a (Builtin.Slice.sliceAdjust lo hi (st.getD 1) (items.size : Int)).2 (st.getD 1) = b at *
  show wpAny _ _ (if (a == 0 && st.getD 1 == 1 && b == items.size) = true then _ else _) _ _ s
  by_cases hc : (a == 0 && st.getD 1 == 1 && b == items.size) = true
  · rw [if_pos hc]
    simp only [Bool.and_eq_true, beq_iff_eq] at hc
    obtain ⟨⟨ha, hs1⟩, hn⟩ := hc
    have hw : zs = items.toList := by
      rw [← hz, ha, hs1, hn]
      have := pick_run items 0 items.size
      rw [List.filterMap_map] at this
      unfold pickT
      have e : (fun (k : Nat) => items[((0 : Int) + (k : Int) * 1).toNat]?) = ((fun x => items[x]?) ∘ fun x => 0 + x) := by
        funext k
        have : ((0 : Int) + (k : Int) * 1).toNat = 0 + k := by omega
        show items[((0 : Int) + (k : Int) * 1).toNat]? = items[0 + k]?
        rw [this]
      rw [e, this, List.drop_zero, List.take_of_length_le (by simp)]
    refine wpAny_bind ?_
    unfold Builtin.Tuple.tupleIsExact
    refine wpAny_bind (wpAny_typeOf ht.typeIs (wpAny_pure ?_))
    show wpAny _ _ (if (Value.type "tuple" == Value.type "tuple") = true then _ else _) _ _ s
    rw [if_pos (by decide)]
    exact wpAny_bind (wpAny_rule (wpAny_pure ⟨_, rfl, wpAny_pure (h1 hw)⟩))
  · rw [if_neg hc]
    have hz' : ((List.range b).filterMap fun (k : Nat) => items[(a + (k : Int) * st.getD 1).toNat]?) = zs := hz
    rw [hz']
    first
      | exact wpAny_bind (m := Builtin.Tuple.tupleExact _) (wpAny_newObj_type (wpAny_pure ⟨_, rfl, wpAny_pure h2⟩) hdrop)
      | exact wpAny_bind (m := Builtin.Tuple.tupleExact _) (wpAny_newObj_type (wpAny_bind (wpAny_pure (wpAny_pure ⟨_, rfl, wpAny_pure h2⟩))) hdrop)
      | exact wpAny_bind (wpAny_bind (m := Builtin.Tuple.tupleExact _) (wpAny_newObj_type (wpAny_pure (wpAny_pure ⟨_, rfl, wpAny_pure h2⟩)) hdrop))
      | exact wpAny_bind (wpAny_bind (m := Builtin.Tuple.tupleExact _) (wpAny_newObj_type (wpAny_pure ⟨_, rfl, wpAny_pure h2⟩) hdrop))
end

theorem adjust_one (lo hi : Option Int) (n : Nat) : Builtin.Slice.sliceAdjust lo hi 1 (n : Int) = (((PySem.W.kms_lo lo n : Nat) : Int), ((PySem.W.kms_hi hi n : Nat) : Int)) := by
  have h1 : ¬ ((1 : Int) < 0) := by decide
  have e1 : (Builtin.Slice.sliceAdjust lo hi 1 (n : Int)).1 = ((PySem.W.kms_lo lo n : Nat) : Int) := by
    cases lo with
    | none => rfl
    | some x =>
      simp only [Builtin.Slice.sliceAdjust, PySem.W.kms_lo, h1, if_false]
      split <;> omega
  have e2 : (Builtin.Slice.sliceAdjust lo hi 1 (n : Int)).2 = ((PySem.W.kms_hi hi n : Nat) : Int) := by
    cases hi with
    | none => rfl
    | some x =>
      simp only [Builtin.Slice.sliceAdjust, PySem.W.kms_hi, h1, if_false]
      split <;> omega
  exact Prod.ext e1 e2
theorem places_one (a b : Nat) : Builtin.Slice.slicePlaces (a : Int) (b : Int) 1 = b - a := by
  unfold Builtin.Slice.slicePlaces
  have h1 : (1 : Int) > 0 := by omega
  simp only [h1, if_true, Int.ediv_one]
  split <;> omega
theorem fm_congr {α β : Type} {f g : α → Option β} : ∀ {l : List α}, (∀ x ∈ l, f x = g x) → l.filterMap f = l.filterMap g
  | [], _ => rfl
  | a :: r, h => by
    rw [List.filterMap_cons, List.filterMap_cons, h a List.mem_cons_self, fm_congr fun x hx => h x (List.mem_cons_of_mem _ hx)]
theorem pick_one (xs : List Value) (lo hi : Option Int) :
    pickT xs.toArray (Builtin.Slice.sliceAdjust lo hi ((none : Option Int).getD 1) (xs.toArray.size : Int)).1 ((none : Option Int).getD 1) (Builtin.Slice.slicePlaces (Builtin.Slice.sliceAdjust lo hi ((none : Option Int).getD 1) (xs.toArray.size : Int)).1 (Builtin.Slice.sliceAdjust lo hi ((none : Option Int).getD 1) (xs.toArray.size : Int)).2 ((none : Option Int).getD 1)) = PySem.W.kms_pick xs lo hi := by
  show pickT xs.toArray (Builtin.Slice.sliceAdjust lo hi 1 (xs.length : Int)).1 1 (Builtin.Slice.slicePlaces (Builtin.Slice.sliceAdjust lo hi 1 (xs.length : Int)).1 (Builtin.Slice.sliceAdjust lo hi 1 (xs.length : Int)).2 1) = _
  rw [adjust_one]
  simp only
  rw [places_one]
  unfold PySem.W.kms_pick
  generalize PySem.W.kms_lo lo xs.length = a
  have := pick_run xs.toArray a (PySem.W.kms_hi hi xs.length - a)
  rw [List.filterMap_map] at this
  refine (fm_congr fun k _ => ?_).trans this
  have : ((a : Int) + (k : Int) * 1).toNat = a + k := by omega
  rw [this]; rfl
theorem pick_rev (xs : List Value) :
    pickT xs.toArray (Builtin.Slice.sliceAdjust none none ((some (-1) : Option Int).getD 1) (xs.toArray.size : Int)).1 ((some (-1) : Option Int).getD 1) (Builtin.Slice.slicePlaces (Builtin.Slice.sliceAdjust none none ((some (-1) : Option Int).getD 1) (xs.toArray.size : Int)).1 (Builtin.Slice.sliceAdjust none none ((some (-1) : Option Int).getD 1) (xs.toArray.size : Int)).2 ((some (-1) : Option Int).getD 1)) = xs.reverse := by
  have e1 : Builtin.Slice.sliceAdjust none none ((some (-1) : Option Int).getD 1) (xs.toArray.size : Int) = ((xs.length : Int) - 1, -1) := rfl
  rw [e1]
  have e2 : Builtin.Slice.slicePlaces ((xs.length : Int) - 1) (-1) ((some (-1) : Option Int).getD 1) = xs.length := by
    unfold Builtin.Slice.slicePlaces
    have h1 : ¬ ((-1 : Int) > 0) := by decide
    show (if (-1 : Int) > 0 then _ else _ : Int).toNat = _
    rw [if_neg h1]
    split
    · have : (- (-1) : Int) = 1 := by decide
      rw [show (-((some (-1) : Option Int).getD 1) : Int) = 1 from rfl, Int.ediv_one]; omega
    · omega
  simp only
  rw [e2]
  have h := PySem.W.krv_all xs.toArray
  have h2 := congrArg List.reverse h
  rw [← List.filterMap_reverse, List.size_toArray, ← PySem.W.krv_range, List.filterMap_map] at h2
  have e3 : xs.toArray.toList.reverse = xs.reverse := rfl
  rw [e3] at h2
  rw [← h2]
  unfold pickT
  refine fm_congr fun k hk => ?_
  have hk := List.mem_range.mp hk
  have : (((xs.length : Int) - 1) + (k : Int) * ((some (-1) : Option Int).getD 1)).toNat = xs.length - 1 - k := by
    show (((xs.length : Int) - 1) + (k : Int) * (-1)).toNat = _
    omega
  rw [this]; rfl

section
variable {D : Wd} {γ : List Addr} {H : Hp} {s : Shared} {A : Around} {E : Value → Shared → Prop}
theorem part_of {h : Heap} {v : Value} {W : V} {l : Option Int} (r : Rep D γ h v W) (e : optInt W = some l) : IsPart v l := by
  cases W with
  | none => simp only [Rep] at r; subst r; cases e; exact .none
  | int i => simp only [Rep] at r; obtain ⟨t, rfl⟩ := r; cases e; exact .int i t
  | _ => cases e
theorem slice_same {lo hi : Option Int} {vs : List Value} {xs : List V} {h : Heap} (r : Reps D γ h vs xs) : Reps D γ h (PySem.W.kms_pick vs lo hi) (sliceL xs lo hi) := by
  have hl := r.length
  have e1 : PySem.W.kms_lo lo vs.length = (match lo with | some k => clampI xs.length k | none => 0) := by
    rw [hl]
    cases lo with
    | none => rfl
    | some x => simp only [PySem.W.kms_lo, clampI]; split <;> split <;> omega
  have e2 : PySem.W.kms_hi hi vs.length = (match hi with | some k => clampI xs.length k | none => xs.length) := by
    rw [hl]
    cases hi with
    | none => rfl
    | some x => simp only [PySem.W.kms_hi, clampI]; split <;> split <;> omega
  unfold PySem.W.kms_pick sliceL
  rw [e1, e2]
  exact (r.drop _).take _
theorem Reps.reverse {h : Heap} {vs : List Value} {l : List V} (r : Reps D γ h vs l) : Reps D γ h vs.reverse l.reverse := by
  refine Reps.of_get (by simp [r.length]) fun k v V h1 h2 => ?_
  have hl := r.length
  have hk : k < vs.length := by have := (List.getElem?_eq_some_iff.mp h1).1; simpa using this
  rw [List.getElem?_reverse hk] at h1
  rw [List.getElem?_reverse (by omega)] at h2
  rw [hl] at h1
  obtain ⟨u, hu, ru⟩ := r.get h2
  rw [h1] at hu; cases hu; exact ru
/- a slice behind the slice object: a list or a tuple is made -/
theorem post_list {vl vu vt : Value} {zs : List Value} {l : List V} {Q : V → Hp → Prop} (R : HRel D γ H s.heap) (rs : Reps D γ s.heap zs l) (hz : l.length ≤ 2000000) (q : Q (.ref H.length) (H ++ [.list l])) :
    PostV D γ s Q (.ref (s.heap.objs.size + 1)) { s with heap := (s.heap.push { cls := .type "slice", data := .fields #[vl, vu, vt] }).push { cls := .type "list", data := .seq zs.toArray } } := by
  have e1 := Heap.get?_push_size (s.heap.push { cls := .type "slice", data := .fields #[vl, vu, vt] }) (o := { cls := .type "list", data := .seq zs.toArray }) rfl
  rw [Heap.size_push] at e1
  have hn1 : s.heap.get? (s.heap.objs.size + 1) = none := by
    cases q : s.heap.get? (s.heap.objs.size + 1) with
    | none => rfl
    | some o => exact absurd (Heap.lt_size q) (Nat.not_lt.mpr (Nat.le_succ _))
  exact PostV.addList (tk := s.toks) R rs hz (fun b o e => Heap.get?_push_of_some _ (Heap.get?_push_of_some _ e)) hn1 e1 q
theorem post_tup {vl vu vt : Value} {zs : List Value} {l : List V} {Q : V → Hp → Prop} (R : HRel D γ H s.heap) (rs : Reps D γ s.heap zs l) (hz : l.length ≤ 2000000) (q : Q (.tup l) H) :
    PostV D γ s Q (.ref (s.heap.objs.size + 1)) { s with heap := (s.heap.push { cls := .type "slice", data := .fields #[vl, vu, vt] }).push { cls := .type "tuple", data := .seq zs.toArray } } := by
  have e1 := Heap.get?_push_size (s.heap.push { cls := .type "slice", data := .fields #[vl, vu, vt] }) (o := { cls := .type "tuple", data := .seq zs.toArray }) rfl
  rw [Heap.size_push] at e1
  have hk : ∀ b o, s.heap.get? b = some o → ((s.heap.push { cls := .type "slice", data := .fields #[vl, vu, vt] }).push { cls := .type "tuple", data := .seq zs.toArray }).get? b = some o := fun b o e => Heap.get?_push_of_some _ (Heap.get?_push_of_some _ e)
  refine PostV.grown (tk := s.toks) R hk ?_ q
  simp only [Rep]
  exact ⟨_, zs, rfl, ⟨0, e1, by rw [rs.length]; exact hz⟩, Reps.mono ⟨[], by simp⟩ (fun _ _ => tupAt_grow hk) rs⟩
theorem part_val {v : Value} {W : V} {l : Option Int} (r : Rep D γ s.heap v W) (h : optInt W = some l) : ∃ p : Option (Int × Tok), v = partValue p ∧ p.map (·.1) = l := by
  cases W <;> first | cases h | skip
  · simp only [Rep] at r; subst r; exact ⟨none, rfl, rfl⟩
  · simp only [Rep] at r; obtain ⟨t, rfl⟩ := r; exact ⟨some (_, t), rfl, rfl⟩
theorem slice_ok {value : Expr} {lo hi : Option Expr} {p : Pos} {o vl vh : Value} {Vo Vl Vh : V} {Q : V → Hp → Prop} (R : HRel D γ H s.heap) (ro : Rep D γ s.heap o Vo) (rl : Rep D γ s.heap vl Vl) (rh : Rep D γ s.heap vh Vh) (h : pSlice Vo Vl Vh H Q) :
    wpAny D.M A (subscriptTail value (.Slice lo hi none p) o (.ref s.heap.objs.size)) (PostV D γ s Q) E { s with heap := s.heap.push { cls := .type "slice", data := .fields #[vl, vh, .none] } } := by
  cases Vo with
  | ref i =>
    obtain ⟨xs, h1, h⟩ := oK_elim h
    obtain ⟨l, h2, h⟩ := oK_elim h
    obtain ⟨h', h3, q⟩ := oK_elim h
    simp only [Rep] at ro
    obtain ⟨a, hi3, rfl⟩ := ro
    obtain ⟨vs, m, e, rs, z⟩ := R.list hi3 h1
    have hL : s.heap.IsList a vs.toArray := ⟨_, e, rfl, m, rfl⟩
    have hz : (sliceL xs l h').length ≤ 2000000 := by
      have := rs.length
      unfold sliceL
      simp only [List.length_take, List.length_drop]
      omega
    refine tail_any (ops := [.ref s.heap.objs.size, .ref a]) (s := { s with heap := s.heap.push { cls := .type "slice", data := .fields #[vl, vh, .none] } }) (hL.push _).typeIs slot_list_getitem.lookup (wpAny_getItem_list_slice (hL.push _) (Heap.IsSliceOf.new ..) (part_of rl h2) (part_of rh h3) .none (by simp) ?_ (by simp [sizeLine_eq]; omega)) rfl
    rw [Heap.size_push, PySem.W.kms_pick_eq]
    exact post_list R (slice_same rs) hz q
  | tup xs =>
    obtain ⟨l, h2, h⟩ := oK_elim h
    obtain ⟨h', h3, q⟩ := oK_elim h
    simp only [Rep] at ro
    obtain ⟨a, vs, rfl, ta, rs⟩ := ro
    have hz : (sliceL xs l h').length ≤ 2000000 := by
      have := rs.length
      have := ta.size
      unfold sliceL
      simp only [List.length_take, List.length_drop]
      omega
    have sm := slice_same (lo := l) (hi := h') rs
    have tp := tupAt_grow (h' := s.heap.push { cls := .type "slice", data := .fields #[vl, vh, .none] }) (fun _ _ e => Heap.get?_push_of_some _ e) ta
    refine tail_any (ops := [.ref s.heap.objs.size, .ref a]) (s := { s with heap := s.heap.push { cls := .type "slice", data := .fields #[vl, vh, .none] } }) tp.isTup.typeIs slot_tuple_getitem.lookup (getItem_tup tp.isTup (Heap.IsSliceOf.new ..) (part_of rl h2) (part_of rh h3) .none rfl (pick_one vs l h') (by rw [sm.length, sizeLine_eq]; omega) (fun hw => ?_) ?_) rfl
    · have hw : PySem.W.kms_pick vs l h' = vs := hw
      rw [hw] at sm
      exact PostV.grown (tk := s.toks) R (fun _ _ e => Heap.get?_push_of_some _ e) (by simp only [Rep]; exact ⟨a, vs, rfl, tp, Reps.mono ⟨[], by simp⟩ (fun _ _ => tupAt_grow fun _ _ e => Heap.get?_push_of_some _ e) sm⟩) q
    · rw [Heap.size_push]
      exact post_tup R sm hz q
  | str x =>
    obtain ⟨l, h2, h⟩ := oK_elim h
    obtain ⟨h', h3, q⟩ := oK_elim h
    simp only [Rep] at ro
    obtain ⟨t, rfl, f⟩ := ro
    obtain ⟨pl, rfl, rfl⟩ := part_val rl h2
    obtain ⟨ph, rfl, rfl⟩ := part_val rh h3
    refine tail_any (s := { s with heap := s.heap.push { cls := .type "slice", data := .fields #[partValue pl, partValue ph, .none] } }) (typeIs_str _ _ _) F.slot_str_getitem.lookup (wpAny_getItem_str_slice (l := pl) (u := ph) (st := none) ⟨_, Heap.get?_push_size _ rfl, rfl, rfl⟩ rfl
      (post_val_or_str ⟨Nat.le_trans (Txt.slice_le x _ _) (by have := f.1; rw [sizeLine_eq]; omega), fun t' k => ?_⟩)) rfl
    exact PostV.grown R (fun _ _ e => Heap.get?_push_of_some _ e) (by simp only [Rep]; exact ⟨_, rfl, fine_slice f _ _⟩) q
  | _ => exact h.elim
theorem rev_ok {value : Expr} {st : Expr} {p : Pos} {o vt : Value} {Vo : V} {Q : V → Hp → Prop} (R : HRel D γ H s.heap) (ro : Rep D γ s.heap o Vo) (rt : Rep D γ s.heap vt (.int (-1))) (h : pRev Vo H Q) :
    wpAny D.M A (subscriptTail value (.Slice none none (some st) p) o (.ref s.heap.objs.size)) (PostV D γ s Q) E { s with heap := s.heap.push { cls := .type "slice", data := .fields #[.none, .none, vt] } } := by
  have pt : IsPart vt (some (-1)) := part_of rt rfl
  cases Vo with
  | ref i =>
    obtain ⟨xs, h1, q⟩ := oK_elim h
    simp only [Rep] at ro
    obtain ⟨a, hi3, rfl⟩ := ro
    obtain ⟨vs, m, e, rs, z⟩ := R.list hi3 h1
    have hL : s.heap.IsList a vs.toArray := ⟨_, e, rfl, m, rfl⟩
    have := rs.length
    refine tail_any (ops := [.ref a, .ref s.heap.objs.size]) (s := { s with heap := s.heap.push { cls := .type "slice", data := .fields #[.none, .none, vt] } }) (hL.push _).typeIs slot_list_getitem.lookup (wpAny_getItem_list_slice (hL.push _) (Heap.IsSliceOf.new ..) .none .none pt (by decide) ?_ (by simp [sizeLine_eq]; omega)) rfl
    rw [Heap.size_push, PySem.W.krv_pick]
    exact post_list R rs.reverse (by simp; omega) q
  | tup xs =>
    simp only [Rep] at ro
    obtain ⟨a, vs, rfl, ta, rs⟩ := ro
    have := rs.length
    have := ta.size
    have sm := rs.reverse
    have tp := tupAt_grow (h' := s.heap.push { cls := .type "slice", data := .fields #[.none, .none, vt] }) (fun _ _ e => Heap.get?_push_of_some _ e) ta
    refine tail_any (ops := [.ref a, .ref s.heap.objs.size]) (s := { s with heap := s.heap.push { cls := .type "slice", data := .fields #[.none, .none, vt] } }) tp.isTup.typeIs slot_tuple_getitem.lookup (getItem_tup tp.isTup (Heap.IsSliceOf.new ..) .none .none pt rfl (pick_rev vs) (by rw [sm.length, sizeLine_eq]; simp; omega) (fun hw => ?_) ?_) rfl
    · have hw : vs.reverse = vs := hw
      rw [hw] at sm
      exact PostV.grown (tk := s.toks) R (fun _ _ e => Heap.get?_push_of_some _ e) (by simp only [Rep]; exact ⟨a, vs, rfl, tp, Reps.mono ⟨[], by simp⟩ (fun _ _ => tupAt_grow fun _ _ e => Heap.get?_push_of_some _ e) sm⟩) h
    · rw [Heap.size_push]
      exact post_tup R sm (by simp; omega) h
  | _ => exact h.elim
end
end Mine

set_option autoImplicit false
/- What is iterated over: the iterator's state, abstractly. -/
namespace Mine
open PySem PyProof.Rows

structure Itr (D : Wd) (A : Around) (I : Addr) (fp : List Addr) (l : List V) (st : Hp → Prop) (Inv : List Addr → Nat → Heap → Prop) : Prop where
  mem : I ∈ fp
  frame : ∀ γ γ' i h h', Inv γ i h → (∃ δ, γ' = γ ++ δ) → (∀ b ∈ fp, ∀ o, h.get? b = some o → h'.get? b = some o) → (∀ a ws, TupAt h a ws → TupAt h' a ws) → Inv γ' i h'
  notTup : ∀ γ i h ws, Inv γ i h → ¬ TupAt h I ws
  nd : ∀ γ i h, Inv γ i h → ∀ b ∈ fp, ∀ o, h.get? b = some o → NotD o
  next : ∀ γ H (s : Shared) (i : Nat) (W : V) (Q : Option Value → Shared → Prop) (E : Value → Shared → Prop), l[i]? = some W → HRel D γ H s.heap → I ∉ γ → st H → Inv γ i s.heap →
    (∀ v h' tk, (∃ o, h'.get? I = some o) → (∀ b o, b ≠ I → s.heap.get? b = some o → h'.get? b = some o) → Inv γ (i + 1) h' → Rep D γ h' v W → Q (some v) { s with heap := h', toks := tk }) → wpAny D.M A (pyNext (.ref I)) Q E s
  done : ∀ γ H (s : Shared) (Q : Option Value → Shared → Prop) (E : Value → Shared → Prop), HRel D γ H s.heap → st H → Inv γ l.length s.heap →
    (∀ h' tk, (∀ b o, b ≠ I → s.heap.get? b = some o → h'.get? b = some o) → Q none { s with heap := h', toks := tk }) → wpAny D.M A (pyNext (.ref I)) Q E s
  self : ∀ γ i (s : Shared) (Q : Value → Shared → Prop) (E : Value → Shared → Prop), Inv γ i s.heap → Q (.ref I) s → wpAny D.M A (pyIter (.ref I)) Q E s

section
variable {D : Wd} {A : Around} {k : Nat}

theorem tupAt_but {h h' : Heap} {I : Addr} (hk : ∀ b o, b ≠ I → h.get? b = some o → h'.get? b = some o) (hn : ∀ ws, ¬ TupAt h I ws) {a : Addr} {ws : List Value} (x : TupAt h a ws) : TupAt h' a ws := by
  obtain ⟨n, e, z⟩ := id x
  exact ⟨n, hk _ _ (by rintro rfl; exact hn _ x) e, z⟩

theorem HRel.but {γ : List Addr} {H : Hp} {h h' : Heap} {I : Addr} (R : HRel D γ H h) (hk : ∀ b o, b ≠ I → h.get? b = some o → h'.get? b = some o) (hI : I ∉ γ) (hB : D.hB.get? I = none) (hn : ∀ ws, ¬ TupAt h I ws) (hF : (∃ o, h.get? I = some o ∧ NotD o) ∨ (∃ o, h'.get? I = some o ∧ ¬ NotD o)) : HRel D γ H h' where
  len := R.len
  nodup := R.nodup
  objs := fun i a o e1 e2 => by
    have := R.objs i a o e1 e2
    have ha : a ≠ I := by rintro rfl; exact hI (List.mem_of_getElem? e1)
    cases o with
    | list xs =>
      obtain ⟨vs, n, e, r, z⟩ := this
      exact ⟨vs, n, hk _ _ ha e, Reps.mono ⟨[], by simp⟩ (fun _ _ => tupAt_but hk hn) r, z⟩
  fresh := R.fresh
  base := fun b o e => hk _ _ (by rintro rfl; rw [hB] at e; cases e) (R.base b o e)
  frs := R.frs.but hk hF

theorem HRel.butN {γ : List Addr} {H : Hp} {h h' : Heap} {I : Addr} (R : HRel D γ H h) (hk : ∀ b o, b ≠ I → h.get? b = some o → h'.get? b = some o) (hI : I ∉ γ) (hB : D.hB.get? I = none) (hn : ∀ ws, ¬ TupAt h I ws) (hF : ∀ e ∈ D.fr, e.frame ≠ some I) : HRel D γ H h' where
  len := R.len
  nodup := R.nodup
  objs := fun i a o e1 e2 => by
    have := R.objs i a o e1 e2
    have ha : a ≠ I := by rintro rfl; exact hI (List.mem_of_getElem? e1)
    cases o with
    | list xs =>
      obtain ⟨vs, n, e, r, z⟩ := this
      exact ⟨vs, n, hk _ _ ha e, Reps.mono ⟨[], by simp⟩ (fun _ _ => tupAt_but hk hn) r, z⟩
  fresh := R.fresh
  base := fun b o e => hk _ _ (by rintro rfl; rw [hB] at e; cases e) (R.base b o e)
  frs := R.frs.butN hk hF

noncomputable def rangeInv (I : Addr) (a : Int) (n : Nat) (_ : List Addr) (i : Nat) (h : Heap) : Prop := IsRangeIter h I (a + (i : Int)) ((n : Int) - (i : Int)) 1

theorem itr_range (hA : AOk D k A) (I : Addr) (a : Int) (n : Nat) : Itr D A I [I] ((List.range n).map fun (j : Nat) => V.int (a + (j : Int))) (fun _ => True) (rangeInv I a n) where
  mem := by simp
  frame := fun γ γ' i h h' iv _ hk _ => hk I (by simp) _ iv
  notTup := fun γ i h ws iv t => by
    obtain ⟨m, e, _⟩ := t
    have iv' : h.get? I = some _ := iv
    rw [iv'] at e; simp at e
  nd := fun γ i h iv b hb o e => by
    have iv' : h.get? I = some _ := iv
    rw [List.mem_singleton.mp hb, iv'] at e; cases e; exact notD_fields rfl
  next := fun γ H s i W Q E hl R hI _ iv hQ => by
    have hi : i < n := by
      have := (List.getElem?_eq_some_iff.mp hl).1; simpa using this
    rw [List.getElem?_map, List.getElem?_range hi] at hl
    simp at hl
    refine wpAny_pyNext_range_item iv (by omega) fun h' hit hs => hQ _ h' _ ⟨_, hit⟩ (fun b o hb e => hs.extBut b o hb e) ?_ ?_
    · show IsRangeIter h' I (a + ((i + 1 : Nat) : Int)) ((n : Int) - ((i + 1 : Nat) : Int)) 1
      have e1 : a + ((i + 1 : Nat) : Int) = a + (i : Int) + 1 := by omega
      have e2 : (n : Int) - ((i + 1 : Nat) : Int) = (n : Int) - (i : Int) - 1 := by omega
      rw [e1, e2]; exact hit
    · subst hl; simp only [Rep]; exact ⟨_, rfl⟩
  done := fun γ H s Q E R _ iv hQ => by
    have iv' : IsRangeIter s.heap I (a + (n : Int)) ((n : Int) - (n : Int)) 1 := by
      have : ((List.range n).map fun (j : Nat) => V.int (a + (j : Int))).length = n := by simp
      rw [this] at iv; exact iv
    exact wpAny_pyNext_range_end hA.handled iv' (by omega) fun h' he => hQ h' s.toks fun b o hb e => he b o hb e
  self := fun γ i s Q E iv q => (Walks.range (prog := D.prog) (w := D.w) (A := A) hA.handled I a 1 n).self i s Q E (by
    show IsRangeIter s.heap I (a + (i : Nat) * 1) ((n : Int) - (i : Nat)) 1
    rw [Int.mul_one]; exact iv) q

noncomputable def tupInv (mg : Wd) (I t : Addr) (vs : List Value) (l : List V) (γ : List Addr) (i : Nat) (h : Heap) : Prop :=
  h.IsTupleIter I t i ∧ TupAt h t vs ∧ Reps mg γ h vs l

theorem itr_tup (hA : AOk D k A) (I t : Addr) (hne : t ≠ I) (vs : List Value) (l : List V) : Itr D A I [I, t] l (fun _ => True) (tupInv D I t vs l) where
  mem := by simp
  frame := fun γ γ' i h h' iv hg hk ht => by
    obtain ⟨⟨o, e, c, d⟩, b, r⟩ := iv
    exact ⟨⟨o, hk I (by simp) o e, c, d⟩, ht _ _ b, Reps.mono hg ht r⟩
  notTup := fun γ i h ws iv x => by
    obtain ⟨⟨o, e, c, d⟩, _⟩ := iv
    obtain ⟨m, e', _⟩ := x
    rw [e] at e'; cases e'; simp at c
  nd := fun γ i h iv b hb o e => by
    obtain ⟨⟨o', e', c, d⟩, ⟨n, e2, _⟩, _⟩ := iv
    rcases List.mem_cons.mp hb with q | q
    · rw [q, e'] at e; cases e; exact notD_fields d
    · rw [List.mem_singleton.mp q, e2] at e; cases e; exact notD_seq rfl
  next := fun γ H s i W Q E hl R hI _ iv hQ => by
    obtain ⟨it, ta, rs⟩ := iv
    have hnt : ∀ ws, ¬ TupAt s.heap I ws := fun ws x => by
      obtain ⟨o, e, c, d⟩ := it
      obtain ⟨m, e', _⟩ := x
      rw [e] at e'; cases e'; simp at c
    obtain ⟨v, hv, rv⟩ := rs.get hl
    refine wpAny_pyNext_tuple_item it ta.isTuple (x := v) (by simpa using hv) fun h' hit hs => ?_
    have hk : ∀ b o, b ≠ I → s.heap.get? b = some o → h'.get? b = some o := fun b o hb e => hs.extBut b o hb e
    have ht : ∀ a ws, TupAt s.heap a ws → TupAt h' a ws := fun _ _ => tupAt_but hk hnt
    exact hQ v h' s.toks (let ⟨o, e, _⟩ := hit; ⟨o, e⟩) hk ⟨hit, ht _ _ ta, Reps.mono ⟨[], by simp⟩ ht rs⟩ (Rep.mono ⟨[], by simp⟩ ht rv)
  done := fun γ H s Q E R _ iv hQ => by
    obtain ⟨it, ta, rs⟩ := iv
    exact wpAny_pyNext_tuple_end hA.handled it ta.isTuple (by simp [rs.length]) fun h' he => hQ h' s.toks fun b o hb e => he b o hb e
  self := fun γ i s Q E iv q => (Walks.tuple (prog := D.prog) (w := D.w) (A := A) hA.handled I t hne vs.toArray).self i s Q E ⟨iv.1, iv.2.1.isTuple⟩ q

noncomputable def lstInv (I a : Addr) (j : Nat) (γ : List Addr) (i : Nat) (h : Heap) : Prop := h.IsListIter I a i ∧ γ[j]? = some a

theorem itr_list (hA : AOk D k A) (I a : Addr) (j : Nat) (l : List V) : Itr D A I [I] l (fun H => listAt H j = some l) (lstInv I a j) where
  mem := by simp
  frame := fun γ γ' i h h' iv hg hk ht => by
    obtain ⟨⟨o, e, c, d⟩, b⟩ := iv
    exact ⟨⟨o, hk I (by simp) o e, c, d⟩, getElem?_ext hg b⟩
  notTup := fun γ i h ws iv x => by
    obtain ⟨⟨o, e, c, d⟩, _⟩ := iv
    obtain ⟨m, e', _⟩ := x
    rw [e] at e'; cases e'; simp at c
  nd := fun γ i h iv b hb o e => by
    obtain ⟨⟨o', e', c, d⟩, _⟩ := iv
    rw [List.mem_singleton.mp hb, e'] at e; cases e; exact notD_fields d
  next := fun γ H s i W Q E hl R hI hst iv hQ => by
    obtain ⟨it, hj⟩ := iv
    have hnt : ∀ ws, ¬ TupAt s.heap I ws := fun ws x => by
      obtain ⟨o, e, c, d⟩ := it
      obtain ⟨m, e', _⟩ := x
      rw [e] at e'; cases e'; simp at c
    obtain ⟨vs, n, e, rs, z⟩ := R.list hj hst
    obtain ⟨v, hv, rv⟩ := rs.get hl
    refine wpAny_pyNext_list_item it (items := vs.toArray) ⟨_, e, rfl, n, rfl⟩ (x := v) (by simpa using hv) fun h' hit hs => ?_
    have hk : ∀ b o, b ≠ I → s.heap.get? b = some o → h'.get? b = some o := fun b o hb e => hs.extBut b o hb e
    have ht : ∀ a ws, TupAt s.heap a ws → TupAt h' a ws := fun _ _ => tupAt_but hk hnt
    exact hQ v h' s.toks (let ⟨o, e, _⟩ := hit; ⟨o, e⟩) hk ⟨hit, hj⟩ (Rep.mono ⟨[], by simp⟩ ht rv)
  done := fun γ H s Q E R hst iv hQ => by
    obtain ⟨it, hj⟩ := iv
    obtain ⟨vs, n, e, rs, z⟩ := R.list hj hst
    exact wpAny_pyNext_list_end hA.handled it (items := vs.toArray) ⟨_, e, rfl, n, rfl⟩ (by simp [rs.length]) fun h' he => hQ h' s.toks fun b o hb e => he b o hb e
  self := fun γ i s Q E iv q => wpAny_pyIter_listiter iv.1 q

noncomputable def revInv (I a : Addr) (j : Nat) (l : List V) (γ : List Addr) (i : Nat) (h : Heap) : Prop := h.IsRevIter I a ((l.length : Int) - 1 - (i : Int)) ∧ γ[j]? = some a

theorem itr_rev (hA : AOk D k A) (I a : Addr) (j : Nat) (l : List V) : Itr D A I [I] l.reverse (fun H => listAt H j = some l) (revInv I a j l) where
  mem := by simp
  frame := fun γ γ' i h h' iv hg hk ht => by
    obtain ⟨⟨o, e, c, d⟩, b⟩ := iv
    exact ⟨⟨o, hk I (by simp) o e, c, d⟩, getElem?_ext hg b⟩
  notTup := fun γ i h ws iv x => by
    obtain ⟨⟨o, e, c, d⟩, _⟩ := iv
    obtain ⟨m, e', _⟩ := x
    rw [e] at e'; cases e'; simp at c
  nd := fun γ i h iv b hb o e => by
    obtain ⟨⟨o', e', c, d⟩, _⟩ := iv
    rw [List.mem_singleton.mp hb, e'] at e; cases e; exact notD_fields d
  next := fun γ H s i W Q E hl R hI hst iv hQ => by
    obtain ⟨it, hj⟩ := iv
    have hnt : ∀ ws, ¬ TupAt s.heap I ws := fun ws x => by
      obtain ⟨o, e, c, d⟩ := it
      obtain ⟨m, e', _⟩ := x
      rw [e] at e'; cases e'; simp at c
    obtain ⟨vs, n, e, rs, z⟩ := R.list hj hst
    have hi : i < l.length := by have := (List.getElem?_eq_some_iff.mp hl).1; simpa using this
    rw [List.getElem?_reverse hi] at hl
    obtain ⟨v, hv, rv⟩ := rs.get hl
    have e1 : (l.length : Int) - 1 - (i : Int) = ((l.length - 1 - i : Nat) : Int) := by omega
    rw [e1] at it
    refine wpAny_pyNext_rev_item it (items := vs.toArray) ⟨_, e, rfl, n, rfl⟩ (x := v) (by simpa using hv) fun h' hit hs => ?_
    have hk : ∀ b o, b ≠ I → s.heap.get? b = some o → h'.get? b = some o := fun b o hb e => hs.extBut b o hb e
    have ht : ∀ a ws, TupAt s.heap a ws → TupAt h' a ws := fun _ _ => tupAt_but hk hnt
    refine hQ v h' s.toks (let ⟨o, e, _⟩ := hit; ⟨o, e⟩) hk ⟨?_, hj⟩ (Rep.mono ⟨[], by simp⟩ ht rv)
    have e2 : (l.length : Int) - 1 - ((i + 1 : Nat) : Int) = ((l.length - 1 - i : Nat) : Int) - 1 := by omega
    rw [e2]; exact hit
  done := fun γ H s Q E R hst iv hQ => by
    obtain ⟨it, hj⟩ := iv
    have e1 : (l.length : Int) - 1 - ((l.reverse.length : Nat) : Int) = -1 := by simp; omega
    rw [e1] at it
    exact wpAny_pyNext_rev_end hA.handled it fun h' he => hQ h' s.toks fun b o hb e => he b o hb e
  self := fun γ i s Q E iv q => wpAny_pyIter_revIter iv.1 q

/- what a source hands to a loop -/
noncomputable def SrcPost (D : Wd) (A : Around) (γ : List Addr) (s : Shared) (K : List V → (Hp → Prop) → Hp → Prop) (it : Value) (s2 : Shared) : Prop :=
  ∃ γ2 H2 I fp l st Inv, it = .ref I ∧ Stp [] γ γ2 s s2 ∧ HRel D γ2 H2 s2.heap ∧ Itr D A I fp l st Inv ∧ Inv γ2 0 s2.heap ∧ (∀ b ∈ fp, b ∉ γ2 ∧ (∃ o, s2.heap.get? b = some o) ∧ (b = I ∨ ∃ ws, TupAt s2.heap b ws)) ∧ s.heap.get? I = none ∧ st H2 ∧ l.length ≤ 2000000 ∧ K l st H2

theorem itr_str (hA : AOk D k A) (I : Addr) (x : Str) (t : Tok) (ha : x.cps.all (· < 128) = true) : Itr D A I [I] (x.cps.toList.map fun c => V.str ⟨#[c]⟩) (fun _ => True) (fun _ i h => h.IsStrIter I "str_ascii_iterator" x t i) where
  mem := by simp
  frame := fun γ γ' i h h' iv _ hk _ => by
    obtain ⟨o, e, c, d⟩ := iv
    exact ⟨o, hk I (by simp) o e, c, d⟩
  notTup := fun γ i h ws iv q => by
    obtain ⟨o, e, c, d⟩ := iv
    obtain ⟨m, e', _⟩ := q
    rw [e] at e'; cases e'; simp at c
  nd := fun γ i h iv b hb o e => by
    obtain ⟨o', e', c, d⟩ := iv
    rw [List.mem_singleton.mp hb, e'] at e; cases e; exact notD_fields d
  next := fun γ H s i W Q E hl R hI _ iv hQ => by
    rw [List.getElem?_map, Option.map_eq_some_iff] at hl
    obtain ⟨c, hc, rfl⟩ := hl
    have hc' : x.cps[i]? = some c := by simpa using hc
    refine wpAny_pyNext_ascii_item iv hc' fun h' hit hs => ?_
    refine hQ _ h' _ (let ⟨o, e, _⟩ := hit; ⟨o, e⟩) (fun b o hb e => hs.extBut b o hb e) hit ?_
    simp only [Rep]
    have hlt : c < 128 := by simpa using (Array.all_eq_true'.mp ha) c (Array.mem_of_getElem? hc')
    exact ⟨_, rfl, by show 1 ≤ 2000000; omega, strOk_iff.mpr fun d hd => by simp at hd; omega⟩
  done := fun γ H s Q E R _ iv hQ => wpAny_pyNext_ascii_end hA.handled iv (by simp) fun h' he => hQ h' s.toks fun b o hb e => he b o hb e
  self := fun γ i s Q E iv q => wpAny_pyIter_striter_ascii iv q
theorem val_src {γ : List Addr} {H : Hp} {s : Shared} {v : Value} {W : V} {K : List V → (Hp → Prop) → Hp → Prop} {E : Value → Shared → Prop} (hA : AOk D k A) (R : HRel D γ H s.heap) (r : Rep D γ s.heap v W)
    (h : pSrc .val [W] H (fun l st => K l st H)) : wpAny D.M A (pyIter v) (SrcPost D A γ s K) E s := by
  have grow : ∀ (o : Obj) b o', s.heap.get? b = some o' → (s.heap.push o).get? b = some o' := fun o b o' e => Heap.get?_push_of_some _ e
  have nin : s.heap.objs.size ∉ γ := fun hm => by
    obtain ⟨o, e, _⟩ := R.alive hm
    exact absurd (Heap.lt_size e) (Nat.lt_irrefl _)
  cases W <;> simp only [pSrc] at h
  case tup l =>
    simp only [Rep] at r; obtain ⟨t, vs, rfl, ta, rs⟩ := r
    have hlt : t < s.heap.objs.size := by obtain ⟨n, e, _⟩ := ta; exact Heap.lt_size e
    have htg : t ∉ γ := fun hm => by
      obtain ⟨o, e, nt, _⟩ := R.alive hm
      obtain ⟨n, e', _⟩ := ta
      rw [e'] at e; cases e; exact nt rfl
    refine wpAny_pyIter_tuple ta.isTuple ?_
    refine ⟨γ, H, s.heap.objs.size, [s.heap.objs.size, t], l, fun _ => True, tupInv D s.heap.objs.size t vs l, rfl, Stp.of ⟨_, s.toks, rfl⟩ (fun b o _ _ e => grow _ b o e) ⟨[], by simp, by simp⟩, R.grow (grow _), itr_tup hA _ t (Nat.ne_of_lt hlt) vs l, ?_, ?_, none_end _, trivial, by rw [← rs.length]; exact ta.size, h⟩
    · exact ⟨⟨_, Heap.get?_push_size _ rfl, rfl, rfl⟩, tupAt_grow (grow _) ta, Reps.mono ⟨[], by simp⟩ (fun _ _ => tupAt_grow (grow _)) rs⟩
    · intro b hb
      simp at hb
      rcases hb with rfl | rfl
      · exact ⟨nin, ⟨_, Heap.get?_push_size _ rfl⟩, .inl rfl⟩
      · have ta' := tupAt_grow (grow { cls := .type "tuple_iterator", data := .fields #[.ref b, .int 0 0] }) ta
        obtain ⟨n, e, _⟩ := id ta'
        exact ⟨htg, ⟨_, e⟩, .inr ⟨vs, ta'⟩⟩
  case str x =>
    obtain ⟨ha, h⟩ := h
    simp only [Rep] at r; obtain ⟨t, rfl, f⟩ := r
    refine wpAny_pyIter_strU ?_
    have ety : strIterType x = "str_ascii_iterator" := by unfold strIterType; rw [ha]; rfl
    rw [ety]
    refine ⟨γ, H, s.heap.objs.size, [s.heap.objs.size], _, fun _ => True, fun _ i h => h.IsStrIter s.heap.objs.size "str_ascii_iterator" x t i, rfl, Stp.of ⟨_, s.toks, rfl⟩ (fun b o _ _ e => grow _ b o e) ⟨[], by simp, by simp⟩, R.grow (grow _), itr_str hA _ x t ha, ?_, ?_, none_end _, trivial, by simpa using (show x.cps.size ≤ 2000000 from f.1), h⟩
    · exact ⟨_, Heap.get?_push_size _ rfl, rfl, rfl⟩
    · intro b hb
      simp at hb; subst hb
      exact ⟨nin, ⟨_, Heap.get?_push_size _ rfl⟩, .inl rfl⟩
  case ref j =>
    obtain ⟨l, hl, h⟩ := oK_elim h
    simp only [Rep] at r; obtain ⟨a, hj, rfl⟩ := r
    obtain ⟨vs, n, e, rs, z⟩ := R.list hj hl
    refine wpAny_pyIter_list (items := vs.toArray) ⟨_, e, rfl, n, rfl⟩ ?_
    refine ⟨γ, H, s.heap.objs.size, [s.heap.objs.size], l, fun H' => listAt H' j = some l, lstInv s.heap.objs.size a j, rfl, Stp.of ⟨_, s.toks, rfl⟩ (fun b o _ _ e => grow _ b o e) ⟨[], by simp, by simp⟩, R.grow (grow _), itr_list hA _ a j l, ?_, ?_, none_end _, hl, by rw [← rs.length]; exact z, h⟩
    · exact ⟨⟨_, Heap.get?_push_size _ rfl, rfl, rfl⟩, hj⟩
    · intro b hb
      simp at hb; subst hb
      exact ⟨nin, ⟨_, Heap.get?_push_size _ rfl⟩, .inl rfl⟩

theorem range_src {γ : List Addr} {H : Hp} {s s0 : Shared} {r : Addr} {a b : Int} {t u v : Tok} {K : List V → (Hp → Prop) → Hp → Prop} {E : Value → Shared → Prop} {γ0 : List Addr} (hA : AOk D k A) (st : Stp [] γ0 γ s0 s) (R : HRel D γ H s.heap)
    (hr : IsRange s.heap r a b 1 t u v) (ha : -(2 ^ 62) ≤ a) (ha' : a < 2 ^ 62) (hb : -(2 ^ 62) ≤ b) (hb' : b < 2 ^ 62) (hz : b - a ≤ 1000000) (h : K (rangeL a b) (fun _ => True) H) : wpAny D.M A (pyIter (.ref r)) (SrcPost D A γ0 s0 K) E s := by
  have grow : ∀ (o : Obj) b o', s.heap.get? b = some o' → (s.heap.push o).get? b = some o' := fun o b o' e => Heap.get?_push_of_some _ e
  have nin : s.heap.objs.size ∉ γ := fun hm => by
    obtain ⟨o, e, _⟩ := R.alive hm
    exact absurd (Heap.lt_size e) (Nat.lt_irrefl _)
  refine wpAny_pyIter_range hr (small_one ha ha' hb hb') ?_
  have hsz : Builtin.Range.rangeSize a b 1 = (((b - a).toNat : Nat) : Int) := by rw [rangeSize_one]; split <;> omega
  have hn0 : s0.heap.get? s.heap.objs.size = none := by
    cases q : s0.heap.get? s.heap.objs.size with
    | none => rfl
    | some o =>
      by_cases hg : s.heap.objs.size ∈ γ0
      · obtain ⟨δ, e, _⟩ := st.ext
        exact absurd (by rw [e]; exact List.mem_append_left _ hg) nin
      · exact absurd (Heap.lt_size (st.live hg (by simp) q).choose_spec) (Nat.lt_irrefl _)
  have st' : Stp [] γ γ s { s with heap := s.heap.push { cls := .type "range_iterator", data := .fields #[rawInt a, rawInt (Builtin.Range.rangeSize a b 1), rawInt 1] } } := Stp.of ⟨_, s.toks, rfl⟩ (fun b o _ _ e => grow _ b o e) ⟨[], by simp, by simp⟩
  refine ⟨γ, H, s.heap.objs.size, [s.heap.objs.size], rangeL a b, fun _ => True, rangeInv s.heap.objs.size a (b - a).toNat, rfl, st.trans0 R st', R.grow (grow _), itr_range hA _ a _, ?_, ?_, hn0, trivial, by simp [rangeL]; omega, h⟩
  · show (s.heap.push _).get? s.heap.objs.size = some _
    rw [Heap.get?_push_size _ rfl, hsz]
    simp
  · intro b hb
    simp at hb; subst hb
    exact ⟨nin, ⟨_, Heap.get?_push_size _ rfl⟩, .inl rfl⟩

theorem rev_src {γ : List Addr} {H : Hp} {s s0 : Shared} {ps : List Value} {Vs : List V} {K : List V → (Hp → Prop) → Hp → Prop} {E : Value → Shared → Prop} {γ0 : List Addr} (hA : AOk D k A) (st : Stp [] γ0 γ s0 s) (R : HRel D γ H s.heap)
    (rv : Reps D γ s.heap ps Vs) (q : pSrc .rev Vs H (fun l st => K l st H)) : wpAny D.M A (call (.type "reversed") ps) (fun x s1 => wpAny D.M A (pyIter x) (SrcPost D A γ0 s0 K) E s1) E s := by
  have hV : ∃ j l, Vs = [.ref j] ∧ listAt H j = some l ∧ K l.reverse (fun H' => listAt H' j = some l) H := by
    cases Vs with
    | nil => exact q.elim
    | cons W Vs =>
      cases Vs with
      | cons W2 Vs => cases W <;> exact q.elim
      | nil =>
        cases W with
        | ref j => obtain ⟨l, hl, h⟩ := oK_elim q; exact ⟨j, l, rfl, hl, h⟩
        | _ => exact q.elim
  obtain ⟨j, l, rfl, hl, h⟩ := hV
  simp only [Reps, Rep] at rv
  obtain ⟨x, r, rfl, ⟨a, hj, rfl⟩, rfl⟩ := rv
  obtain ⟨vs, n, e, rs, z⟩ := R.list hj hl
  have grow : ∀ (o : Obj) b o', s.heap.get? b = some o' → (s.heap.push o).get? b = some o' := fun o b o' e => Heap.get?_push_of_some _ e
  have nin : s.heap.objs.size ∉ γ := fun hm => by
    obtain ⟨o, e, _⟩ := R.alive hm
    exact absurd (Heap.lt_size e) (Nat.lt_irrefl _)
  have hn0 : s0.heap.get? s.heap.objs.size = none := by
    cases q : s0.heap.get? s.heap.objs.size with
    | none => rfl
    | some o =>
      by_cases hg : s.heap.objs.size ∈ γ0
      · obtain ⟨δ, e, _⟩ := st.ext
        exact absurd (by rw [e]; exact List.mem_append_left _ hg) nin
      · exact absurd (Heap.lt_size (st.live hg (by simp) q).choose_spec) (Nat.lt_irrefl _)
  refine call_reversed_list (items := vs.toArray) ⟨_, e, rfl, n, rfl⟩ ?_
  have hit : (s.heap.push (revObj a ((vs.toArray.size : Int) - 1))).IsRevIter s.heap.objs.size a ((l.length : Int) - 1 - ((0 : Nat) : Int)) := by
    refine ⟨_, Heap.get?_push_size _ rfl, rfl, ?_⟩
    simp [revObj, rs.length]
  refine wpAny_pyIter_revIter hit ?_
  have st' : Stp [] γ γ s { s with heap := s.heap.push (revObj a ((vs.toArray.size : Int) - 1)) } := Stp.of ⟨_, s.toks, rfl⟩ (fun b o _ _ e => grow _ b o e) ⟨[], by simp, by simp⟩
  refine ⟨γ, H, s.heap.objs.size, [s.heap.objs.size], l.reverse, fun H' => listAt H' j = some l, revInv s.heap.objs.size a j l, rfl, st.trans0 R st', R.grow (grow _), itr_rev hA _ a j l, ⟨hit, hj⟩, ?_, hn0, hl, by rw [List.length_reverse, ← rs.length]; exact z, h⟩
  intro b hb
  simp at hb; subst hb
  exact ⟨nin, ⟨_, Heap.get?_push_size _ rfl⟩, .inl rfl⟩

theorem SrcPost.back {γ γ1 : List Addr} {H1 : Hp} {s s1 s2 : Shared} {K : List V → (Hp → Prop) → Hp → Prop} {it : Value} (t : Stp [] γ γ1 s s1) (R : HRel D γ1 H1 s1.heap) (h : SrcPost D A γ1 s1 K it s2) : SrcPost D A γ s K it s2 := by
  obtain ⟨γ2, H2, I, fp, l, st, Inv, e, t2, R2, it, iv, hf, hn, hs, hK⟩ := h
  refine ⟨γ2, H2, I, fp, l, st, Inv, e, t.trans0 R t2, R2, it, iv, hf, ?_, hs, hK⟩
  cases q : s.heap.get? I with
  | none => rfl
  | some o =>
    by_cases hg : I ∈ γ
    · obtain ⟨δ, e1, _⟩ := (t.trans0 R t2).ext
      exact absurd (by rw [e1]; exact List.mem_append_left _ hg) (hf I it.mem).1
    · obtain ⟨_, this⟩ := t.live hg (by simp) q
      rw [hn] at this; cases this
end

section
variable {D : Wd} {Φ : Orc} {k : Nat} {c : CC}

theorem src_val {n : Nat} {iter : Expr} {ie : IE} {env : Env} {A : Around} {γ : List Addr} {H : Hp} {s : Shared} {L : Lc} {X : XL} {K : List V → (Hp → Prop) → Hp → Prop} (ih : SE D Φ k c iter ie) (hE : EnvOk c env) (hA : AOk D k A) (R : HRel D γ H s.heap)
    (lr : LRel D γ env c.slots s.heap L) (w : wpEs Φ [ie] L H (fun vs H1 => pSrc .val vs H1 (fun l st => K l st H1)) X) :
    wpAny D.M A (eval iter env) (fun x s1 => wpAny D.M A (pyIter x) (SrcPost D A γ s K) (PostX D γ s X) s1) (PostX D γ s X) s := by
  refine andThen (ih env A γ H s L _ X hE hA R lr w) ?_
  intro v s1 γ1 V H1 st R1 rv q
  exact wpAny_mono (val_src hA R1 rv q) (fun it s2 p => p.back st R1) fun _ _ x => x

theorem src_ok {n : Nat} {iter : Expr} {kk : SrcK} {ss : List IE} {env : Env} {A : Around} {γ : List Addr} {H : Hp} {s : Shared} {L : Lc} {X : XL} {K : List V → (Hp → Prop) → Hp → Prop} (g : GOk D c.G) (ih : ∀ e ie, compE n c e = some ie → SE D Φ k c e ie)
    (hc : compSrc (compE n c) c iter = some (kk, ss)) (hE : EnvOk c env) (hA : AOk D k A) (R : HRel D γ H s.heap)
    (lr : LRel D γ env c.slots s.heap L) (w : wpEs Φ ss L H (fun vs H1 => pSrc kk vs H1 (fun l st => K l st H1)) X) :
    wpAny D.M A (eval iter env) (fun x s1 => wpAny D.M A (pyIter x) (SrcPost D A γ s K) (PostX D γ s X) s1) (PostX D γ s X) s := by
  unfold compSrc at hc
  split at hc
  · rename_i f fp args pos
    split at hc
    · cases hc
    · rename_i hst
      have hs : args.any isStar = false := by
        cases h : args.any isStar <;> simp_all
      split at hc
      · rename_i k' as hk hm
        cases hc
        obtain ⟨W, hW, hk⟩ := Option.bind_eq_some_iff.mp hk
        unfold srcK at hk
        split at hk
        · cases hk
          refine wpAny_Call_ofName (andThen (name_ok (Φ := Φ) (Q := fun V H' => V = .ty .range ∧ H' = H) g hE R lr (globV_lit hW) ⟨rfl, rfl⟩) ?_)
          intro vf s1 γ1 Vf H1 st R1 rf q
          obtain ⟨rfl, rfl⟩ := q
          simp only [Rep] at rf; subst rf
          rw [starEach_of hs]
          refine PyProof.Rows.callWith_type (by simp) (wpAny_mono (evalArgs_ok ih hE hA hm R1 (lr.stp R st) w) (fun b s2 hb => ?_) fun _ _ x => x.back st R1)
          obtain ⟨ps, kw⟩ := b
          obtain ⟨hkw, γ2, Vs, H2, st2, R2, rv, q⟩ := hb
          simp only at hkw rv; subst hkw
          have st02 := st.trans0 R1 st2
          have grow : ∀ (o : Obj) b o', s2.heap.get? b = some o' → (s2.heap.push o).get? b = some o' := fun o b o' e => Heap.get?_push_of_some _ e
          unfold pSrc at q
          split at q
          · cases ‹SrcK.range = SrcK.val›
          · cases ‹SrcK.range = SrcK.val›
          · cases ‹SrcK.range = SrcK.val›
          · rename_i b0 _
            simp only [Reps, Rep] at rv
            obtain ⟨x, r, rfl, ⟨t, rfl⟩, rfl⟩ := rv
            refine call_range_1 ?_
            refine range_src (s0 := s) (γ0 := γ) (γ := γ2) (H := H2) hA ?_ (R2.grow (grow _)) (IsRange.new _ _ _ _ _ _ _) (by omega) (by omega) (by omega) (by omega) (by omega) q.2
            exact st02.trans0 R2 (Stp.of ⟨_, _, rfl⟩ (fun b o _ _ e => grow _ b o e) ⟨[], by simp, by simp⟩)
          · rename_i a0 b0 _
            simp only [Reps, Rep] at rv
            obtain ⟨x, r, rfl, ⟨t, rfl⟩, y, r', rfl, ⟨t', rfl⟩, rfl⟩ := rv
            refine call_range_2 ?_
            refine range_src (s0 := s) (γ0 := γ) (γ := γ2) (H := H2) hA ?_ (R2.grow (grow _)) (IsRange.new _ _ _ _ _ _ _) (by omega) (by omega) (by omega) (by omega) (by omega) q.2
            exact st02.trans0 R2 (Stp.of ⟨_, _, rfl⟩ (fun b o _ _ e => grow _ b o e) ⟨[], by simp, by simp⟩)
          · cases ‹SrcK.range = SrcK.rev›
          · cases ‹SrcK.range = SrcK.zip›
          · exact q.elim
        · cases hk
          refine wpAny_Call_ofName (andThen (name_ok (Φ := Φ) (Q := fun V H' => V = .ty .reversed ∧ H' = H) g hE R lr (globV_lit hW) ⟨rfl, rfl⟩) ?_)
          intro vf s1 γ1 Vf H1 st R1 rf q
          obtain ⟨rfl, rfl⟩ := q
          simp only [Rep] at rf; subst rf
          rw [starEach_of hs]
          refine PyProof.Rows.callWith_type (by simp) (wpAny_mono (evalArgs_ok ih hE hA hm R1 (lr.stp R st) w) (fun b s2 hb => ?_) fun _ _ x => x.back st R1)
          obtain ⟨ps, kw⟩ := b
          obtain ⟨hkw, γ2, Vs, H2, st2, R2, rv, q⟩ := hb
          simp only at hkw rv; subst hkw
          exact rev_src hA (st.trans0 R1 st2) R2 rv q
        · cases hk
      · rw [Option.map_eq_some_iff] at hc
        obtain ⟨v, hv, he⟩ := hc
        cases he
        exact src_val (n := n) (ih _ _ hv) hE hA R lr w
  · rw [Option.map_eq_some_iff] at hc
    obtain ⟨v, hv, he⟩ := hc
    cases he
    exact src_val (n := n) (ih _ _ hv) hE hA R lr w
end
end Mine

set_option autoImplicit false
/- Comprehensions. -/
namespace Mine
open PySem PyProof.Rows

noncomputable def closGo (env : Env) : List (Str × NameKind) → List (Str × Addr) → List (Str × Addr)
  | [], acc => acc
  | (n, k) :: r, acc => if k == .free then (match env.cells.lookup n with | some a => closGo env r ((n, a) :: acc) | none => closGo env r acc) else closGo env r acc

theorem closGo_eq {env : Env} : ∀ (names : List (Str × NameKind)) (acc : List (Str × Addr)), (∀ x ∈ names, x.2 = .free → ∃ a, env.cells.lookup x.1 = some a) →
    (forIn names acc (fun (x : Str × NameKind) (cs : List (Str × Addr)) => (if x.2 == .free then (do let c ← cellOf env x.1; pure (ForInStep.yield ((x.1, c) :: cs))) else pure (ForInStep.yield cs) : Sem (ForInStep (List (Str × Addr)))))) = pure (closGo env names acc)
  | [], acc, _ => rfl
  | (n, k) :: r, acc, h => by
    have hr : ∀ x ∈ r, x.2 = .free → ∃ a, env.cells.lookup x.1 = some a := fun x hx => h x (List.mem_cons_of_mem _ hx)
    rw [List.forIn_cons, closGo]
    cases hk : (k == NameKind.free) with
    | true =>
      have hk' : k = .free := by simpa using hk
      obtain ⟨a, ha⟩ := h (n, k) List.mem_cons_self hk'
      have : cellOf env n = pure a := by unfold cellOf; simp only at ha; rw [ha]
      simp only at ha
      simp only [if_true, this, ha, pure_bind]
      exact closGo_eq r _ hr
    | false =>
      simp only [Bool.false_eq_true, if_false, pure_bind]
      exact closGo_eq r _ hr

theorem closureFor_go {env : Env} {scope : Scope} (h : ∀ x ∈ scope.names, x.2 = .free → ∃ a, env.cells.lookup x.1 = some a) : closureFor scope env = pure (closGo env scope.names []) := by
  have := closGo_eq scope.names [] h
  unfold closureFor
  have e : (forIn scope.names ([] : List (Str × Addr)) fun x r => (do if (x.2 == NameKind.free) = true then (do let c ← cellOf env x.1; pure (ForInStep.yield ((x.1, c) :: r))) else pure (ForInStep.yield r) : Sem (ForInStep (List (Str × Addr))))) = pure (closGo env scope.names []) := this
  exact (congrArg (fun m : Sem (List (Str × Addr)) => m >>= fun cs => pure cs) e)

theorem closGo_mem {env : Env} : ∀ (names : List (Str × NameKind)) (acc : List (Str × Addr)), (∀ n a, (n, a) ∈ acc → env.cells.lookup n = some a) → ∀ n a, (n, a) ∈ closGo env names acc → env.cells.lookup n = some a
  | [], acc, h, n, a, hm => h n a hm
  | (m, k) :: r, acc, h, n, a, hm => by
    rw [closGo] at hm
    split at hm
    · split at hm
      · rename_i b hb
        refine closGo_mem r _ ?_ n a hm
        intro n' a' hm'
        rcases List.mem_cons.mp hm' with q | q
        · cases q; exact hb
        · exact h n' a' q
      · exact closGo_mem r _ h n a hm
    · exact closGo_mem r _ h n a hm
theorem closGo_keep {env : Env} : ∀ (names : List (Str × NameKind)) (acc : List (Str × Addr)) n a, (n, a) ∈ acc → (n, a) ∈ closGo env names acc
  | [], _, _, _, h => h
  | (m, k) :: r, acc, n, a, h => by
    rw [closGo]
    split
    · split
      · exact closGo_keep r _ n a (List.mem_cons_of_mem _ h)
      · exact closGo_keep r _ n a h
    · exact closGo_keep r _ n a h
theorem closGo_has {env : Env} : ∀ (names : List (Str × NameKind)) (acc : List (Str × Addr)) n a, (n, NameKind.free) ∈ names → env.cells.lookup n = some a → (n, a) ∈ closGo env names acc
  | (m, k) :: r, acc, n, a, h, hl => by
    rw [closGo]
    rcases List.mem_cons.mp h with q | q
    · cases q
      simp only [beq_self_eq_true, if_true, hl]
      exact closGo_keep r _ _ _ List.mem_cons_self
    · split
      · split
        · exact closGo_has r _ n a q hl
        · exact closGo_has r _ n a q hl
      · exact closGo_has r _ n a q hl

theorem lookup_of_mem {l : List (Str × Addr)} {n : Str} {a : Addr} (h : (n, a) ∈ l) : ∃ b, l.lookup n = some b := by
  cases e : l.lookup n with
  | some b => exact ⟨b, rfl⟩
  | none =>
    have := List.lookup_eq_none_iff.mp e (n, a) h
    simp at this

theorem closGo_lookup {env : Env} {names : List (Str × NameKind)} {n : Str} (h : (n, NameKind.free) ∈ names) {a : Addr} (hl : env.cells.lookup n = some a) : (closGo env names []).lookup n = some a := by
  obtain ⟨b, hb⟩ := lookup_of_mem (closGo_has names [] n a h hl)
  have := closGo_mem names [] (by simp) n b (mem_of_lookup hb)
  rw [hl] at this; cases this; exact hb

/- a name of the relabelled block that is a cell was free, and is one outside -/
theorem relab_cell {scope outer : Scope} {y : Str} (hno : ∀ x ∈ scope.names, x.2 ≠ .cell) (h : (relab scope outer).names.lookup y = some .cell) : (y, NameKind.free) ∈ scope.names ∧ outer.names.lookup y = some .cell := by
  unfold relab at h
  simp only at h
  revert h
  generalize scope.names = l at hno
  induction l with
  | nil => intro h; simp at h
  | cons p r ih =>
    obtain ⟨n, k⟩ := p
    intro h
    simp only [List.map_cons] at h
    have ih' := ih (fun x hx => hno x (List.mem_cons_of_mem _ hx))
    by_cases hc : (k == NameKind.free && outer.kind == .function && outer.names.lookup n == some .cell) = true
    · rw [if_pos hc] at h
      rw [List.lookup_cons] at h
      cases hy : y == n with
      | true =>
        have : y = n := by simpa using hy
        subst this
        simp only [Bool.and_eq_true, beq_iff_eq] at hc
        exact ⟨by rw [hc.1.1]; exact List.mem_cons_self, hc.2⟩
      | false =>
        rw [hy] at h
        obtain ⟨a, b⟩ := ih' h
        exact ⟨List.mem_cons_of_mem _ a, b⟩
    · rw [if_neg hc] at h
      rw [List.lookup_cons] at h
      cases hy : y == n with
      | true =>
        rw [hy] at h
        simp only at h
        cases h
        exact absurd rfl (hno (n, .cell) List.mem_cons_self)
      | false =>
        rw [hy] at h
        obtain ⟨a, b⟩ := ih' h
        exact ⟨List.mem_cons_of_mem _ a, b⟩
theorem relab_local {scope outer : Scope} {y : Str} (h : (relab scope outer).names.lookup y = some .local) : (y, NameKind.local) ∈ scope.names := by
  unfold relab at h
  simp only at h
  revert h
  generalize scope.names = l
  induction l with
  | nil => intro h; simp at h
  | cons p r ih =>
    obtain ⟨n, k⟩ := p
    intro h
    simp only [List.map_cons] at h
    by_cases hc : (k == NameKind.free && outer.kind == .function && outer.names.lookup n == some .cell) = true
    · rw [if_pos hc] at h
      rw [List.lookup_cons] at h
      cases hy : y == n with
      | true => rw [hy] at h; simp at h
      | false => rw [hy] at h; exact List.mem_cons_of_mem _ (ih h)
    · rw [if_neg hc] at h
      rw [List.lookup_cons] at h
      cases hy : y == n with
      | true =>
        rw [hy] at h
        have : y = n := by simpa using hy
        subst this
        simp only at h
        cases h
        exact List.mem_cons_self
      | false => rw [hy] at h; exact List.mem_cons_of_mem _ (ih h)

section
variable {D : Wd} {Φ : Orc} {k : Nat} {c : CC}

theorem tests_ok {n : Nat} (ih : ∀ e ie, compE n c e = some ie → ST D Φ k c e ie) {env : Env} {A : Around} {X : XL} (hE : EnvOk c env) (hA : AOk D k A) {L : Lc} : ∀ (ifs : List Expr) (ies : List IE) (γ : List Addr) (H : Hp) (s : Shared) (Q : Bool → Hp → Prop),
    mapO (compE n c) ifs = some ies → HRel D γ H s.heap → LRel D γ env c.slots s.heap L → wpIfs Φ ies L H Q X →
    wpAny D.M A (forIn ifs true fun e r => if r = true then do let ok ← isTrue e env (eval e env); pure (ForInStep.yield ok) else pure (ForInStep.yield r)) (PostB D γ s Q) (PostX D γ s X) s
  | [], ies, γ, H, s, Q, hm, R, _, h => by
    rw [mapO_nil hm] at h
    rw [List.forIn_nil]
    exact wpAny_pure (PostB.here R h)
  | e :: r, ies, γ, H, s, Q, hm, R, l, h => by
    obtain ⟨b, bs, rfl, h1, h2⟩ := mapO_cons hm
    rw [List.forIn_cons]
    simp only [if_true]
    refine wpAny_bind (wpAny_bind (andThenB (ih e b h1 env A γ H s L _ X hE hA R l h) ?_))
    intro v s1 γ1 H1 st R1 q
    refine wpAny_pure ?_
    cases v with
    | true => exact backB st R1 (tests_ok ih hE hA r bs γ1 H1 s1 Q h2 R1 (l.stp R st) (q))
    | false =>
      have skip : ∀ (r : List Expr), (forIn r false fun e r => if r = true then do let ok ← isTrue e env (eval e env); pure (ForInStep.yield ok) else pure (ForInStep.yield r) : Sem Bool) = pure false := by
        intro r
        induction r with
        | nil => rfl
        | cons a r ihr => rw [List.forIn_cons]; simpa using ihr
      show wpAny D.M A (forIn r false _) _ _ s1
      rw [skip]
      exact wpAny_pure ⟨γ1, H1, st, R1, q⟩
end
end Mine

set_option autoImplicit false
/- Comprehensions: the loop. -/
namespace Mine
open PySem PyProof.Rows

structure CInv (D : Wd) (γ : List Addr) (s : Shared) (Dd C : Addr) (fp : List Addr) (Inv : List Addr → Nat → Heap → Prop) (st : Hp → Prop) (i : Nat) (acc : List V) (γ' : List Addr) (H' : Hp) (s' : Shared) : Prop where
  stp : Stp [] γ γ' s s'
  rel : HRel D γ' H' s'.heap
  out : ∃ ys n, s'.heap.get? Dd = some { cls := .type "list", data := .seq ys.toArray n } ∧ Reps D γ' s'.heap ys acc
  dnin : Dd ∉ γ'
  loc : ∃ m, s'.heap.Ns C m
  cnin : C ∉ γ'
  inv : Inv γ' i s'.heap
  stb : st H'
  fps : ∀ b ∈ fp, b ∉ γ' ∧ ∃ o, s'.heap.get? b = some o

structure CFix (D : Wd) (s : Shared) (Dd C I : Addr) (fp : List Addr) : Prop where
  d0 : s.heap.get? Dd = none
  c0 : s.heap.get? C = none
  i0 : s.heap.get? I = none
  dc : Dd ≠ C
  df : Dd ∉ fp
  cf : C ∉ fp

theorem notTup_dict {h : Heap} {C : Addr} {m : Str → Option Value} (n : h.Ns C m) (ws : List Value) : ¬ TupAt h C ws := fun x => by
  obtain ⟨o, es, ep, e, d, _⟩ := n
  obtain ⟨k, e', _⟩ := x
  rw [e] at e'; cases e'; cases d
theorem notTup_list {h : Heap} {C : Addr} {vs : List Value} {n : Nat} (e : h.get? C = some { cls := .type "list", data := .seq vs.toArray n }) (ws : List Value) : ¬ TupAt h C ws := fun x => by
  obtain ⟨k, e', _⟩ := x
  rw [e] at e'; simp at e'

theorem Stp.change {γ γ' : List Addr} {s s' : Shared} {h' : Heap} {tk : Nat} {z : Addr} (t : Stp [] γ γ' s s') (hk : ∀ b o, b ≠ z → s'.heap.get? b = some o → h'.get? b = some o) (hz : s.heap.get? z = none) : Stp [] γ γ' s { s' with heap := h', toks := tk } := by
  refine ⟨?_, fun b o hb hw e => let ⟨sl, e', q⟩ := t.keepS b o hb hw e; ⟨sl, hk b _ (by rintro rfl; rw [hz] at e; cases e) e', q⟩, t.ext⟩
  obtain ⟨h1, t1, rfl⟩ := t.same
  exact ⟨_, _, rfl⟩

section
variable {D : Wd} {Φ : Orc} {k : Nat} {c : CC}

theorem base_none {γ : List Addr} {H : Hp} {s : Shared} (R : HRel D γ H s.heap) {z : Addr} (h : s.heap.get? z = none) : D.hB.get? z = none := by
  cases e : D.hB.get? z with
  | none => rfl
  | some o => have := R.base _ _ e; rw [h] at this; cases this

theorem comp_loop {n : Nat} {elt iter : Expr} {ifs : List Expr} {x : Str} {px pos : Pos} {scope : Scope} {ielt : IE} {iifs : List IE} {c' : CC} {env cenv : Env} {A : Around} {L : Lc} {γ : List Addr} {H : Hp} {s : Shared} {Dd C I : Addr} {fp : List Addr}
    {l : List V} {st : Hp → Prop} {Inv : List Addr → Nat → Heap → Prop} {K : List V → Hp → Prop} {Rr : Result → Shared → Prop} {slot : Nat}
    (hE' : EnvOk c' cenv) (hA : AOk D k A) (R0 : HRel D γ H s.heap) (lr : LRel D γ env c.slots s.heap L) (hloc : cenv.locals = C) (hx : cenv.kindOf x = some .local)
    (ihe : ∀ e ie, compE n c' e = some ie → Both D Φ k c' e ie) (hce : compE n c' elt = some ielt) (hci : mapO (compE n c') ifs = some iifs)
    (F : CFix D s Dd C I fp) (it : Itr D A I fp l st Inv)
    (mkL : ∀ γ' h m W v, h.Ns C m → m x = some v → Rep D γ' h v W → LRel D γ' env c.slots h L → C ∉ γ' → LRel D γ' cenv c'.slots h (L.set slot (some W)))
    (fin : ∀ γ' H' s' acc, CInv D γ s Dd C fp Inv st l.length acc γ' H' s' → K acc H' → ∀ h' tk, (∀ b o, b ≠ I → s'.heap.get? b = some o → h'.get? b = some o) → Rr (.ok .next) { s' with heap := h', toks := tk }) :
    ∀ (i : Nat) (acc : List V) (γ' : List Addr) (H' : Hp) (s' : Shared), i ≤ l.length → acc.length ≤ i → l.length ≤ 2000000 → CInv D γ s Dd C fp Inv st i acc γ' H' s' →
      compGo (fun L' H' K => wpIfs Φ iifs L' H' K noX) (fun L' H' K => (wp2 Φ ielt).E L' H' K noX) st [slot] L (l.drop i) acc H' K →
      codeAny D.M A (.compLoop (.ListComp elt [⟨.Name x px, iter, ifs, 0⟩] scope pos) 0 (.ref I) (.ref Dd) cenv) Rr s' := by
  intro i acc γ' H' s' hi hacc hlen ci cg
  have hkind : cenv.scope.kind = .function := by rw [hE'.scope]; exact hE'.kind
  refine codeAny_compLoop_tests (fun m s' => ∃ i acc γ' H', m = l.length - i ∧ i ≤ l.length ∧ acc.length ≤ i ∧ CInv D γ s Dd C fp Inv st i acc γ' H' s' ∧
    compGo (fun L' H' K => wpIfs Φ iifs L' H' K noX) (fun L' H' K => (wp2 Φ ielt).E L' H' K noX) st [slot] L (l.drop i) acc H' K) ?_ (l.length - i) ⟨i, acc, γ', H', rfl, hi, hacc, ci, cg⟩
  clear cg ci hacc hi i acc γ' H' s'
  rintro m s' ⟨i, acc, γ', H', rfl, hi, hacc, ci, cg⟩
  have hIg : I ∉ γ' := (ci.fps I it.mem).1
  have hIB := base_none R0 F.i0
  have hCB := base_none R0 F.c0
  have hDB := base_none R0 F.d0
  have hCI : C ≠ I := fun q => F.cf (q ▸ it.mem)
  have hDI : Dd ≠ I := fun q => F.df (q ▸ it.mem)
  by_cases hlt : i < l.length
  · have hW : l[i]? = some l[i] := by simp [hlt]
    have hdrop : l.drop i = l[i] :: l.drop (i + 1) := List.drop_eq_getElem_cons hlt
    rw [hdrop] at cg
    obtain ⟨L', hb, cg⟩ := oK_elim cg
    simp only [bindVars, Option.some.injEq] at hb
    subst hb
    refine it.next γ' H' s' i _ _ _ hW ci.rel hIg ci.stb ci.inv fun v h1 tk1 hI1 hk1 iv1 rv1 => ?_
    have nt1 := fun ws => it.notTup γ' i s'.heap ws ci.inv
    have ndI : ∃ o, s'.heap.get? I = some o ∧ NotD o := let ⟨o, e⟩ := (ci.fps I it.mem).2; ⟨o, e, it.nd γ' i s'.heap ci.inv I it.mem o e⟩
    have R1 : HRel D γ' H' h1 := ci.rel.but hk1 hIg hIB nt1 (.inl ndI)
    obtain ⟨m0, hm0⟩ := ci.loc
    have hm1 : h1.Ns C m0 := hm0.at' fun o e => hk1 _ o hCI e
    refine wpAny_assign_Name (wpAny_storeName_local hx (hloc ▸ hm1) (fun h2 hn2 hs2 => ?_) (by rw [hkind]; rfl))
    rw [hloc] at hn2 hs2
    dsimp only at hn2 hs2 ⊢
    have hk2 : ∀ b o, b ≠ C → h1.get? b = some o → h2.get? b = some o := fun b o hb e => hs2.extBut b o hb e
    have nt2 := notTup_dict hm1
    have R2 : HRel D γ' H' h2 := R1.but hk2 ci.cnin hCB nt2 (.inr (isD_ns hn2))
    have t2 : ∀ a ws, TupAt s'.heap a ws → TupAt h2 a ws := fun a ws q => tupAt_but hk2 nt2 (tupAt_but hk1 nt1 q)
    have stp2 : Stp [] γ γ' s { s' with heap := h2, toks := tk1 + 1 } := ((ci.stp.change (tk := tk1) hk1 F.i0).change (tk := tk1 + 1) hk2 F.c0)
    have lrs : LRel D γ' env c.slots h2 L := lr.stp R0 stp2
    have rv2 : Rep D γ' h2 v l[i] := Rep.mono ⟨[], by simp⟩ (fun a ws q => tupAt_but hk2 nt2 q) rv1
    have l2 := mkL γ' h2 _ l[i] v hn2 (by simp) rv2 lrs ci.cnin
    have iv2 : Inv γ' (i + 1) h2 := it.frame γ' γ' (i + 1) h1 h2 iv1 ⟨[], by simp⟩ (fun b hb o e => hk2 b o (fun q => F.cf (q ▸ hb)) e) (fun a ws q => tupAt_but hk2 nt2 q)
    have fp2 : ∀ b ∈ fp, b ∉ γ' ∧ ∃ o, h2.get? b = some o := fun b hb => by
      refine ⟨(ci.fps b hb).1, ?_⟩
      obtain ⟨o, e⟩ := (ci.fps b hb).2
      by_cases hbI : b = I
      · subst hbI; obtain ⟨o', e'⟩ := hI1; exact ⟨o', hk2 _ _ (Ne.symm hCI) e'⟩
      · exact ⟨o, hk2 _ _ (fun q => F.cf (q ▸ hb)) (hk1 _ _ hbI e)⟩
    obtain ⟨ys, ny, hy, ry⟩ := ci.out
    have hy2 : h2.get? Dd = some { cls := .type "list", data := .seq ys.toArray ny } := hk2 _ _ F.dc (hk1 _ _ hDI hy)
    have ry2 : Reps D γ' h2 ys acc := Reps.mono ⟨[], by simp⟩ t2 ry
    have ts := tests_ok (fun e ie h => (ihe e ie h).2) hE' hA ifs iifs γ' H' { s' with heap := h2, toks := tk1 + 1 } _ hci R2 l2 cg
    refine wpAny_mono ts (fun ok s3 p => ?_) (fun _ _ x => x.no.elim)
    obtain ⟨γ3, H3, st3, R3, q3⟩ := p
    have stp3 : Stp [] γ γ3 s s3 := stp2.trans0 R2 st3
    have dn3 : Dd ∉ γ3 := notin_ext st3 ci.dnin hy2
    have hC2 : ∃ o, h2.get? C = some o := by obtain ⟨o, es, ep, e, _⟩ := hn2; exact ⟨o, e⟩
    have cn3 : C ∉ γ3 := by obtain ⟨o, e⟩ := hC2; exact notin_ext st3 ci.cnin e
    have t3 : ∀ a ws, TupAt h2 a ws → TupAt s3.heap a ws := fun a ws q => q.stp (s := { s' with heap := h2, toks := tk1 + 1 }) R2 st3 (by simp)
    have ext3 : ∃ δ, γ3 = γ' ++ δ := let ⟨δ, e, _⟩ := st3.ext; ⟨δ, e⟩
    have iv3 : Inv γ3 (i + 1) s3.heap := it.frame γ' γ3 (i + 1) h2 s3.heap iv2 ext3 (fun b hb o e => st3.keep b o (fp2 b hb).1 (by simp) (it.nd γ' (i + 1) h2 iv2 b hb o e) e) t3
    have fp3 : ∀ b ∈ fp, b ∉ γ3 ∧ ∃ o, s3.heap.get? b = some o := fun b hb => by
      obtain ⟨a, o, e⟩ := fp2 b hb
      exact ⟨notin_ext st3 a e, o, st3.keep b o a (by simp) (it.nd γ' (i + 1) h2 iv2 b hb o e) e⟩
    have hy3 : s3.heap.get? Dd = some { cls := .type "list", data := .seq ys.toArray ny } := st3.keep _ _ ci.dnin (by simp) (notD_seq rfl) hy2
    have ry3 : Reps D γ3 s3.heap ys acc := Reps.mono ext3 t3 ry2
    have hC3 : ∃ m, s3.heap.Ns C m := ⟨_, st3.ns (s := { s' with heap := h2, toks := tk1 + 1 }) ci.cnin (by simp) hn2⟩
    cases ok with
    | false =>
      have q3 := q3
      show ∃ m, m < l.length - i ∧ _
      exact ⟨l.length - (i + 1), by omega, i + 1, acc, γ3, H3, rfl, hlt, by omega, ⟨stp3, R3, ⟨ys, ny, hy3, ry3⟩, dn3, hC3, cn3, iv3, q3.1, fp3⟩, q3.2⟩
    | true =>
      have q3 := q3
      show wpAny D.M A (eval elt cenv) _ _ s3
      have l3 : LRel D γ3 cenv c'.slots s3.heap (L.set slot (some l[i])) := l2.stp (s := { s' with heap := h2, toks := tk1 + 1 }) R2 st3
      refine wpAny_mono ((ihe elt ielt hce).1 cenv A γ3 H3 s3 _ _ noX hE' hA R3 l3 q3) (fun y s4 p => ?_) (fun _ _ x => x.no.elim)
      obtain ⟨γ4, Y, H4, st4, R4, ryv, q4⟩ := p
      have stp4 : Stp [] γ γ4 s s4 := stp3.trans0 R3 st4
      have dn4 : Dd ∉ γ4 := notin_ext st4 dn3 hy3
      have cn4 : C ∉ γ4 := by obtain ⟨m, o, es, ep, e, _⟩ := hC3; exact notin_ext st4 cn3 e
      have t4 : ∀ a ws, TupAt s3.heap a ws → TupAt s4.heap a ws := fun a ws q => q.stp R3 st4 (by simp)
      have ext4 : ∃ δ, γ4 = γ3 ++ δ := let ⟨δ, e, _⟩ := st4.ext; ⟨δ, e⟩
      have hy4 : s4.heap.get? Dd = some { cls := .type "list", data := .seq ys.toArray ny } := st4.keep _ _ dn3 (by simp) (notD_seq rfl) hy3
      have ry4 : Reps D γ4 s4.heap ys acc := Reps.mono ext4 t4 ry3
      have hyl := ry4.length
      refine wpAny_list_append_plain (items := ys.toArray) ⟨ny, hy4⟩ (fun h5 hp5 hs5 => ?_) (by simp [sizeLine_eq]; omega)
      have hk5 : ∀ b o, b ≠ Dd → s4.heap.get? b = some o → h5.get? b = some o := fun b o hb e => hs5.extBut b o hb e
      have nt5 := notTup_list hy4
      have t5 : ∀ a ws, TupAt s4.heap a ws → TupAt h5 a ws := fun a ws q => tupAt_but hk5 nt5 q
      obtain ⟨n5, e5⟩ := hp5
      have em : ys.toArray.push y = (ys ++ [y]).toArray := by simp
      rw [em] at e5
      refine ⟨l.length - (i + 1), by omega, i + 1, acc ++ [Y], γ4, H4, rfl, hlt, by simp; omega, ?_, q4.2⟩
      refine ⟨stp4.change (tk := s4.toks) hk5 F.d0, R4.but hk5 dn4 hDB nt5 (.inl ⟨_, hy4, notD_seq rfl⟩), ⟨ys ++ [y], n5, e5, Reps.mono ⟨[], by simp⟩ t5 (ry4.append (Reps.one ryv))⟩, dn4, ?_, cn4, ?_, q4.1, ?_⟩
      · obtain ⟨m, hm⟩ := hC3
        exact ⟨m, (st4.ns cn3 (by simp) hm).at' fun o e => hk5 _ o (Ne.symm F.dc) e⟩
      · exact it.frame γ3 γ4 (i + 1) s3.heap h5 iv3 ext4 (fun b hb o e => hk5 b o (fun q => F.df (q ▸ hb)) (st4.keep b o (fp3 b hb).1 (by simp) (it.nd γ3 (i + 1) s3.heap iv3 b hb o e) e)) (fun a ws q => t5 a ws (t4 a ws q))
      · intro b hb
        obtain ⟨a, o, e⟩ := fp3 b hb
        exact ⟨notin_ext st4 a e, o, hk5 b o (fun q => F.df (q ▸ hb)) (st4.keep b o a (by simp) (it.nd γ3 (i + 1) s3.heap iv3 b hb o e) e)⟩
  · have hin : i = l.length := by omega
    subst hin
    rw [List.drop_length] at cg
    exact it.done γ' H' s' _ _ ci.rel ci.stb ci.inv fun h1 tk1 hk1 => fin γ' H' s' acc ci cg h1 tk1 hk1
end
end Mine

set_option autoImplicit false
/- Comprehensions: the whole. -/
namespace Mine
open PySem PyProof.Rows

section
variable {D : Wd} {Φ : Orc} {k : Nat} {c : CC}

theorem HRel.adopt {γ : List Addr} {H : Hp} {vs : List Value} {l : List V} {h : Heap} {a : Addr} {n : Nat} (R : HRel D γ H h) (r : Reps D γ h vs l) (hz : l.length ≤ 2000000)
    (hn : a ∉ γ) (hB : D.hB.get? a = none) (ha : h.get? a = some { cls := .type "list", data := .seq vs.toArray n }) : HRel D (γ ++ [a]) (H ++ [.list l]) h where
  len := by simp [R.len]
  nodup := by
    refine List.nodup_append.mpr ⟨R.nodup, by simp, ?_⟩
    intro b hb c hc
    simp at hc; subst hc
    intro e; subst e
    exact hn hb
  objs := fun i b o e1 e2 => by
    rcases Nat.lt_trichotomy i γ.length with hi | hi | hi
    · rw [List.getElem?_append_left hi] at e1
      rw [List.getElem?_append_left (R.len ▸ hi)] at e2
      have := R.objs i b o e1 e2
      cases o with
      | list xs =>
        obtain ⟨ws, n, e, q, z⟩ := this
        exact ⟨ws, n, e, Reps.mono ⟨_, rfl⟩ (fun _ _ x => x) q, z⟩
    · subst hi
      rw [List.getElem?_append_right (Nat.le_refl _)] at e1
      rw [R.len, List.getElem?_append_right (Nat.le_refl _)] at e2
      simp at e1 e2; subst e1; subst e2
      exact ⟨vs, n, ha, Reps.mono ⟨_, rfl⟩ (fun _ _ x => x) r, by rw [r.length]; exact hz⟩
    · exfalso
      have : (γ ++ [a]).length ≤ i := by simp; omega
      rw [List.getElem?_eq_none this] at e1; cases e1
  fresh := by
    intro b hb
    rcases List.mem_append.mp hb with q | q
    · exact R.fresh b q
    · simp at q; subst q; exact hB
  base := R.base
  frs := R.frs

theorem PostV.adopt {γ γ' : List Addr} {H' : Hp} {s s' : Shared} {Q : V → Hp → Prop} {vs : List Value} {l : List V} {h' : Heap} {a : Addr} {n tk : Nat} (st : Stp [] γ γ' s { s' with heap := h', toks := tk }) (R : HRel D γ' H' h') (r : Reps D γ' h' vs l) (hz : l.length ≤ 2000000)
    (hn : a ∉ γ') (h0 : s.heap.get? a = none) (hB : D.hB.get? a = none) (ha : h'.get? a = some { cls := .type "list", data := .seq vs.toArray n }) (h : Q (.ref H'.length) (H' ++ [.list l])) :
    PostV D γ s Q (.ref a) { s' with heap := h', toks := tk } := by
  refine ⟨γ' ++ [a], .ref H'.length, H' ++ [.list l], ⟨st.same, st.keepS, ?_⟩, R.adopt r hz hn hB ha, ?_, h⟩
  · obtain ⟨δ, e, f⟩ := st.ext
    refine ⟨δ ++ [a], by rw [e]; simp, fun b hb => ?_⟩
    rcases List.mem_append.mp hb with q | q
    · exact f b q
    · simp at q; subst q; exact h0
  · simp only [Rep]; exact ⟨_, by rw [List.getElem?_append_right (by rw [R.len]; exact Nat.le_refl _)]; simp [R.len], rfl⟩

structure CompOk (c : CC) (scope : Scope) (x : Str) : Prop where
  kind : scope.kind = .function
  nocell : ∀ y ∈ scope.names, y.2 ≠ .cell
  locs : ∀ y ∈ scope.names, y.2 = .local → scope.names.lookup y.1 = some .local
  frees : ∀ y ∈ scope.names, y.2 = .free → c.scope.names.lookup y.1 = some .cell
  var : scope.names.lookup x = some .local
  own : ∀ y, (y, NameKind.local) ∈ scope.names → y = x ∨ c.slots.lookup y = none
  low : ∀ y i, c.slots.lookup y = some i → i < c.nxt

noncomputable abbrev inner (c : CC) (scope : Scope) (x : Str) : CC := innerC c scope x

theorem relabel_eq {scope : Scope} {env : Env} (he : EnvOk c env) : relabel scope env = relab scope c.scope := by
  rw [← he.scope]; rfl

theorem env_inner {scope : Scope} {x : Str} {env : Env} (he : EnvOk c env) (ok : CompOk c scope x) (cl : List (Str × Addr)) (C : Addr) : EnvOk (inner c scope x) (compEnvC scope cl C env) :=
  ⟨relabel_eq he, ok.kind, he.globals, he.builtins⟩

theorem lrel_inner {scope : Scope} {x : Str} {env : Env} {L : Lc} {C : Addr} (he : EnvOk c env) (ok : CompOk c scope x) :
    ∀ γ' h m W v, h.Ns C m → m x = some v → Rep D γ' h v W → LRel D γ' env c.slots h L → C ∉ γ' → LRel D γ' (compEnvC scope (closGo env scope.names []) C env) (inner c scope x).slots h (L.set c.nxt (some W)) := by
  intro γ' h m W v hn hm rv lr hC
  have hrl : ∀ y, (compEnvC scope (closGo env scope.names []) C env).kindOf y = (relab scope c.scope).names.lookup y := fun y => by
    show (relabel scope env).names.lookup y = _
    rw [relabel_eq he]
  refine ⟨⟨m, hn, ?_⟩, ?_, hC⟩
  · intro y i V hy hs hL
    rw [hrl] at hy
    have hm' := relab_local hy
    have hs' : ((x, c.nxt) :: c.slots).lookup y = some i := hs
    rw [List.lookup_cons] at hs'
    cases hxy : y == x with
    | true =>
      rw [hxy] at hs'
      have : y = x := by simpa using hxy
      subst this
      cases hs'
      rw [List.getElem?_set] at hL
      simp only [if_true] at hL
      split at hL
      · cases hL; exact ⟨v, hm, rv⟩
      · cases hL
    | false =>
      rw [hxy] at hs'
      rcases ok.own y hm' with q | q
      · subst q; simp at hxy
      · rw [q] at hs'; cases hs'
  · intro y hy
    rw [hrl] at hy
    obtain ⟨hf, ho⟩ := relab_cell ok.nocell hy
    have hk : env.kindOf y = some .cell := by unfold Env.kindOf; rw [he.scope]; exact ho
    obtain ⟨ca, u, e1, e2, e3, e4⟩ := lr.cel y hk
    refine ⟨ca, u, closGo_lookup hf e1, e2, e3, fun i V hs hL => ?_⟩
    have hs' : ((x, c.nxt) :: c.slots).lookup y = some i := hs
    rw [List.lookup_cons] at hs'
    cases hxy : y == x with
    | true =>
      exfalso
      have : y = x := by simpa using hxy
      subst this
      have := lookup_relabel_local (env := env) ok.var
      have h2 : (relabel scope env).names.lookup y = some .local := this
      rw [relabel_eq he] at h2
      rw [h2] at hy; cases hy
    | false =>
      rw [hxy] at hs'
      have hlt := ok.low y i hs'
      rw [List.getElem?_set_ne (by omega)] at hL
      exact e4 i V hs' hL

theorem comp_run {n : Nat} {elt iter : Expr} {ifs : List Expr} {x : Str} {px pos cp : Pos} {scope : Scope} {ielt : IE} {iifs : List IE} {kk : SrcK} {ss : List IE} {env : Env} {A : Around} {X : XL} {L : Lc} {γ : List Addr} {H : Hp} {s : Shared}
    {Kf : List V → Hp → Prop} {use : Option (Value → Sem Unit)} {Qf : Value → Shared → Prop} (g : GOk D c.G) (ih : ∀ c e ie, GOk D c.G → compE n c e = some ie → Both D Φ k c e ie) (ok : CompOk c scope x)
    (hsrc : compSrc (compE n c) c iter = some (kk, ss)) (hce : compE n (inner c scope x) elt = some ielt) (hci : mapO (compE n (inner c scope x)) ifs = some iifs) (hE : EnvOk c env) (hA : AOk D k A) (R : HRel D γ H s.heap)
    (lr : LRel D γ env c.slots s.heap L) (hset : ∀ x, foldedSetIterable iter env x = pure x)
    (w : wpEs Φ ss L H (fun vs H1 => pSrc kk vs H1 fun items st => compGo (fun L' H' K => wpIfs Φ iifs L' H' K noX) (fun L' H' K => (wp2 Φ ielt).E L' H' K noX) st [c.nxt] L items [] H1 Kf) X)
    (fin : ∀ γ' H' s' Dd C acc, Stp [] γ γ' s s' → HRel D γ' H' s'.heap → (∃ ys n, s'.heap.get? Dd = some { cls := .type "list", data := .seq ys.toArray n } ∧ Reps D γ' s'.heap ys acc) → Dd ∉ γ' → s.heap.get? Dd = none → (∃ m, s'.heap.Ns C m) → C ∉ γ' → s.heap.get? C = none → Dd ≠ C → Kf acc H' →
      compPost D.M A (PostX D γ s X) use Qf (.ref Dd) C (.ok .next) s') :
    wpAny D.M A (comprehension (.ListComp elt [⟨.Name x px, iter, ifs, 0⟩] scope pos) scope env cp (newList []) false (eval iter env) use) Qf (PostX D γ s X) s := by
  have hclos : closureFor scope env = pure (closGo env scope.names []) := closureFor_go fun y hy hf => by
    have hk : env.kindOf y.1 = some .cell := by unfold Env.kindOf; rw [hE.scope]; exact ok.frees y hy hf
    obtain ⟨ca, u, e1, _⟩ := lr.cel y.1 hk
    exact ⟨ca, e1⟩
  refine wpAny_comprehension_free (use := use) rfl hset hclos ok.kind ok.locs (wpAny_mono (src_ok (K := fun l st H1 => compGo (fun L' H' K => wpIfs Φ iifs L' H' K noX) (fun L' H' K => (wp2 Φ ielt).E L' H' K noX) st [c.nxt] L l [] H1 Kf) g (fun e ie h => (ih c e ie g h).1) hsrc hE hA R lr w)
    (fun xv s1 h1 => wpAny_mono h1 (fun it s2 h2 => ?_) fun _ _ e => e) fun _ _ e => e)
  obtain ⟨γ2, H2, I, fp, l, st, Inv, rfl, stp2, R2, itr, iv, fps, hI0, hst, hlen, cg⟩ := h2
  refine wpAny_newObj_type (hd := by size_fits) (wpAny_newFunctionEnv ok.nocell (by intro y hy; simp at hy) (fun h₁ hns₁ hsb₁ => ?_) ok.kind)
  dsimp only at hns₁ hsb₁ ⊢
  generalize hH2 : s2.heap.push { cls := .type "list", dict := none, data := .seq ([] : List Value).toArray } = G2 at hns₁ hsb₁ ⊢
  have hC : G2.objs.size = s2.heap.objs.size + 1 := by rw [← hH2, Heap.size_push]
  have hDC : s2.heap.objs.size ≠ G2.objs.size := by rw [hC]; exact Nat.ne_of_lt (Nat.lt_succ_self _)
  have fresh : ∀ a, s2.heap.objs.size ≤ a → s2.heap.get? a = none := fun a ha => by
    cases e : s2.heap.get? a with
    | none => rfl
    | some o' => exact absurd (Heap.lt_size e) (Nat.not_lt.mpr ha)
  have fresh0 : ∀ a, s2.heap.objs.size ≤ a → s.heap.get? a = none := fun a ha => by
    cases e : s.heap.get? a with
    | none => rfl
    | some o' =>
      by_cases hg : a ∈ γ
      · obtain ⟨δ, e1, _⟩ := stp2.ext
        obtain ⟨o2, e2, _⟩ := R2.alive (a := a) (by rw [e1]; exact List.mem_append_left _ hg)
        rw [fresh a ha] at e2; cases e2
      · obtain ⟨_, this⟩ := stp2.live hg (by simp) e
        rw [fresh a ha] at this; cases this
  have nin2 : ∀ a, s2.heap.objs.size ≤ a → a ∉ γ2 := fun a ha hm => by
    obtain ⟨o2, e2, _⟩ := R2.alive hm
    rw [fresh a ha] at e2; cases e2
  have below : ∀ b o, s2.heap.get? b = some o → b ≠ G2.objs.size ∧ b ≠ s2.heap.objs.size := fun b o hb => ⟨Nat.ne_of_lt (Nat.lt_trans (Heap.lt_size hb) (by rw [hC]; exact Nat.lt_succ_self _)), Nat.ne_of_lt (Heap.lt_size hb)⟩
  have old : ∀ b o, s2.heap.get? b = some o → h₁.get? b = some o := fun b o e => hsb₁.extBut b o (below b o e).1 (Heap.get?_push_of_some _ (hH2 ▸ Heap.get?_push_of_some _ e))
  have hacc : h₁.get? s2.heap.objs.size = some { cls := .type "list", data := .seq ([] : List Value).toArray } := hsb₁.extBut _ _ hDC (Heap.get?_push_of_some _ (hH2 ▸ Heap.get?_push_size _ rfl))
  have F : CFix D s s2.heap.objs.size G2.objs.size I fp := by
    refine ⟨fresh0 _ (Nat.le_refl _), fresh0 _ (by rw [hC]; exact Nat.le_succ _), hI0, hDC, fun hm => ?_, fun hm => ?_⟩
    · obtain ⟨_, ⟨o, e⟩, _⟩ := fps _ hm; exact absurd (Heap.lt_size e) (Nat.lt_irrefl _)
    · obtain ⟨_, ⟨o, e⟩, _⟩ := fps _ hm; exact absurd (Heap.lt_size e) (by rw [hC]; exact Nat.not_lt.mpr (Nat.le_succ _))
  have loop : ∀ s3 : Shared, s3 = { s2 with heap := h₁, toks := s2.toks + ([] : List (Str × Value)).length } →
      codeAny D.M A (.compLoop (.ListComp elt [⟨.Name x px, iter, ifs, 0⟩] scope pos) 0 (.ref I) (.ref s2.heap.objs.size) (compEnvC scope (closGo env scope.names []) G2.objs.size env))
        (compPost D.M A (PostX D γ s X) use Qf (.ref s2.heap.objs.size) G2.objs.size) s3 := by
    rintro s3 rfl
    have st3 : Stp [] γ2 γ2 s2 { s2 with heap := h₁, toks := s2.toks + ([] : List (Str × Value)).length } := stp_grow old
    refine comp_loop (env := env) (c := c) (c' := inner c scope x) (st := st) (Inv := Inv) (l := l) (K := Kf) (fp := fp) (L := L) (slot := c.nxt) (γ := γ) (H := H) (s := s) (C := G2.objs.size)
      (env_inner hE ok _ _) hA R lr rfl ?_ (fun e ie h => ih (inner c scope x) e ie g h) hce hci F itr (lrel_inner hE ok) ?_ 0 [] γ2 H2 _ (Nat.zero_le _) (by simp) hlen ?_ cg
    · exact lookup_relabel_local ok.var
    · intro γ' H' s' acc ci hK h' tk hk
      obtain ⟨ys, ny, hy, ry⟩ := ci.out
      have hIg : I ∉ γ' := (ci.fps I itr.mem).1
      have nt := fun ws => itr.notTup γ' l.length s'.heap ws ci.inv
      refine fin γ' H' _ _ _ acc (ci.stp.change (tk := tk) hk F.i0) (ci.rel.but hk hIg (base_none R F.i0) nt (.inl (let ⟨o, e⟩ := (ci.fps I itr.mem).2; ⟨o, e, itr.nd γ' l.length s'.heap ci.inv I itr.mem o e⟩))) ⟨ys, ny, hk _ _ (fun q => F.df (q ▸ itr.mem)) hy, Reps.mono ⟨[], by simp⟩ (fun _ _ q => tupAt_but hk nt q) ry⟩ ci.dnin F.d0 ?_ ci.cnin F.c0 hDC hK
      obtain ⟨m, hm⟩ := ci.loc
      exact ⟨m, hm.at' fun o e => hk _ o (fun q => F.cf (q ▸ itr.mem)) e⟩
    · refine ⟨stp2.trans0 R2 st3, R2.grow old, ⟨[], 0, hacc, by simp only [Reps]⟩, nin2 _ (Nat.le_refl _), ⟨_, hns₁⟩, nin2 _ (by rw [hC]; exact Nat.le_succ _), ?_, hst, ?_⟩
      · exact itr.frame γ2 γ2 0 s2.heap h₁ iv ⟨[], by simp⟩ (fun b hb o e => old b o e) (fun _ _ q => tupAt_grow old q)
      · intro b hb
        obtain ⟨a, ⟨o, e⟩, _⟩ := fps b hb
        exact ⟨a, o, old b o e⟩
  have iv1 : Inv γ2 0 h₁ := itr.frame γ2 γ2 0 s2.heap h₁ iv ⟨[], by simp⟩ (fun b hb o e => old b o e) (fun _ _ q => tupAt_grow old q)
  exact codeAny_compStart_list (loop _ rfl) (itr.self γ2 0 _ _ _ iv1 (loop _ rfl))

theorem e_comp {n : Nat} {elt iter : Expr} {ifs : List Expr} {x : Str} {px pos : Pos} {scope : Scope} {ielt : IE} {iifs : List IE} {kk : SrcK} {ss : List IE} (g : GOk D c.G) (ih : ∀ c e ie, GOk D c.G → compE n c e = some ie → Both D Φ k c e ie) (ok : CompOk c scope x)
    (hsrc : compSrc (compE n c) c iter = some (kk, ss)) (hce : compE n (inner c scope x) elt = some ielt) (hci : mapO (compE n (inner c scope x)) ifs = some iifs) (hset : ∀ env x, foldedSetIterable iter env x = pure x) :
    Both D Φ k c (.ListComp elt [⟨.Name x px, iter, ifs, 0⟩] scope pos) (.comp ielt [c.nxt] kk ss iifs) := by
  refine both_plain (fun env A γ H s L Q X hE hA R lr w => ?_) rfl (fun _ _ => rfl)
  rw [eval_ListComp]
  refine comp_run (use := none) (cp := _) g ih ok hsrc hce hci hE hA R lr (hset env) w ?_
  intro γ' H' s' Dd C acc stp R' ho dn d0 hc cn c0 hdc hK
  obtain ⟨m, hm⟩ := hc
  refine ⟨m, hm, fun h' hs => ?_⟩
  have hk : ∀ b o, b ≠ C → s'.heap.get? b = some o → h'.get? b = some o := fun b o hb e => hs.extBut b o hb e
  have nt := notTup_dict hm
  obtain ⟨ys, ny, hy, ry⟩ := ho
  have R'' : HRel D γ' H' h' := R'.butN hk cn (base_none R c0) nt (R.frs.ne c0)
  have hy' := hk _ _ hdc hy
  have ry' : Reps D γ' h' ys acc := Reps.mono ⟨[], by simp⟩ (fun _ _ q => tupAt_but hk nt q) ry
  exact PostV.adopt (h' := h') (tk := s'.toks) (stp.change hk c0) R'' ry' (by have := hK.1; omega) dn d0 (base_none R d0) hy' hK.2
end
end Mine

set_option autoImplicit false
/- Every expression that is taken over means what its small tree says. -/
namespace Mine
open PySem PyProof.Rows

section
variable {D : Wd} {Φ : Orc} {k : Nat}

theorem noSetIter {iter : Expr} {n : Nat} {c : CC} {p : SrcK × List IE} (h : compSrc (compE n c) c iter = some p) : ∀ env x, foldedSetIterable iter env x = pure x := by
  intro env x
  cases iter <;> first | rfl | (cases n <;> exact nomatch (show (none : Option (SrcK × List IE)) = some p from h))

theorem opt_part {lo : Option Expr} {il : Option IE} {n : Nat} {c : CC} {env : Env} {A : Around} {γ : List Addr} {H : Hp} {s : Shared} {L : Lc} {Q : V → Hp → Prop} {X : XL} (ih : ∀ e ie, compE n c e = some ie → SE D Φ k c e ie) (h : optE (compE n c) lo = some il)
    (hE : EnvOk c env) (hA : AOk D k A) (R : HRel D γ H s.heap) (lr : LRel D γ env c.slots s.heap L) (w : wpO Φ il L H Q X) : wpAny D.M A (evalPart lo env) (PostV D γ s Q) (PostX D γ s X) s := by
  cases lo with
  | none => cases (show some none = some il from h); exact wpAny_evalPart_none (PostV.here (V := .none) R (by simp only [Rep]) w)
  | some e =>
    obtain ⟨a, ha, rfl⟩ := Option.map_eq_some_iff.mp h
    exact wpAny_evalPart_some (ih _ _ ha env A γ H s L Q X hE hA R lr w)
theorem e_slice {o : Expr} {p pos : Pos} {lo hi : Option Expr} {n : Nat} {c : CC} {io : IE} {il ih' : Option IE} (ih : ∀ e ie, compE n c e = some ie → SE D Φ k c e ie) (ho : compE n c o = some io) (hl : optE (compE n c) lo = some il) (hh : optE (compE n c) hi = some ih') :
    Both D Φ k c (.Subscript o (.Slice lo hi none p) pos) (.slice io il ih') := by
  refine both_plain (fun env A γ H s L Q X hE hA R lr w => ?_) rfl (fun _ _ => rfl)
  refine Subscript_ (andThen (ih _ _ ho env A γ H s L _ X hE hA R lr w) ?_)
  intro vo s1 γ1 Vo H1 st1 R1 ro q1
  refine wpAny_Slice (thenV st1 R1 (opt_part ih hl hE hA R1 (lr.stp R st1) q1) ?_)
  intro vl s2 γ2 Vl H2 st2 R2 rl q2
  have st02 := st1.trans0 R1 st2
  refine thenV st02 R2 (opt_part ih hh hE hA R2 (lr.stp R st02) q2) ?_
  intro vh s3 γ3 Vh H3 st3 R3 rh q3
  rw [evalPart_none]
  refine wpAny_pure ?_
  exact wpAny_mono (slice_ok R3 ((ro.stp0 R1 st2).stp0 R2 st3) (rl.stp0 R2 st3) rh q3) (fun _ _ x => x.back (st02.trans0 R2 st3) R3) (fun _ _ x => x)
theorem e_rev {o : Expr} {p pos p1 p2 : Pos} {kk : Nat} {n : Nat} {c : CC} {io : IE} (ih : ∀ e ie, compE n c e = some ie → SE D Φ k c e ie) (ho : compE n c o = some io) :
    Both D Φ k c (.Subscript o (.Slice none none (some (.UnaryOp .USub (.Constant (.int 1) kk p1) p2)) p) pos) (.rev io) := by
  refine both_plain (fun env A γ H s L Q X hE hA R lr w => ?_) rfl (fun _ _ => rfl)
  refine Subscript_ (andThen (ih _ _ ho env A γ H s L _ X hE hA R lr w) ?_)
  intro vo s1 γ1 Vo H1 st1 R1 ro q1
  refine wpAny_Slice ?_
  rw [evalPart_none]
  refine wpAny_pure (wpAny_pure ?_)
  rw [evalPart_some]
  have hm : SE D Φ k c (.UnaryOp .USub (.Constant (.int 1) kk p1) p2) (.neg (.lit (.int 1))) := (e_neg (e_const rfl).1).1
  refine thenV st1 R1 (hm env A γ1 H1 s1 L (fun V H' => V = .int (-1) ∧ H' = H1) X hE hA R1 (lr.stp R st1) ⟨rfl, rfl⟩) ?_
  intro vt s2 γ2 Vt H2 st2 R2 rt q2
  obtain ⟨rfl, rfl⟩ := q2
  exact wpAny_mono (rev_ok R2 (ro.stp0 R1 st2) rt q1) (fun _ _ x => x.back (st1.trans0 R1 st2) R2) (fun _ _ x => x)

theorem compOk_of {c : CC} {scope : Scope} {x : Str} {a : Int} (hs : (a == 0 && okComp scope c.scope && scope.names.lookup x == some .local && (scope.names.all fun y => y.2 != .local || y.1 == x || (c.slots.lookup y.1).isNone) && (c.slots.all fun p => p.2 < c.nxt)) = true) : a = 0 ∧ CompOk c scope x := by
  simp only [Bool.and_eq_true] at hs
  obtain ⟨⟨⟨⟨ha, hok⟩, hvar⟩, hown⟩, hlow⟩ := hs
  refine ⟨by simpa using ha, ?_⟩
  unfold okComp at hok
  simp only [Bool.and_eq_true, beq_iff_eq, List.all_eq_true, Bool.or_eq_true, bne_iff_ne, ne_eq] at hok
  simp only [List.all_eq_true, Bool.or_eq_true, bne_iff_ne, ne_eq, beq_iff_eq, Option.isNone_iff_eq_none] at hown
  simp only [List.all_eq_true, decide_eq_true_eq] at hlow
  refine ⟨hok.1, fun y hy => (hok.2 y hy).1.1, fun y hy hl => ?_, fun y hy hf => ?_, by simpa using hvar, fun y hy => ?_, fun y i hl => hlow (y, i) (mem_of_lookup hl)⟩
  · rcases (hok.2 y hy).1.2 with q | q
    · exact absurd hl q
    · exact q
  · rcases (hok.2 y hy).2 with q | q
    · exact absurd hf q
    · exact q.2
  · rcases hown (y, .local) hy with (q | q) | q
    · exact absurd rfl q
    · exact .inl q
    · exact .inr q

theorem comp_inv {n : Nat} {c : CC} {elt : Expr} {gens : List Comprehension} {scope : Scope} {pos : Pos} {ie : IE} (h : compE (n + 1) c (.ListComp elt gens scope pos) = some ie) :
    (∃ x px iter ifs kk ss ielt iifs, gens = [⟨.Name x px, iter, ifs, 0⟩] ∧ CompOk c scope x ∧ compSrc (compE n c) c iter = some (kk, ss) ∧ compE n (inner c scope x) elt = some ielt ∧ mapO (compE n (inner c scope x)) ifs = some iifs ∧ ie = .comp ielt [c.nxt] kk ss iifs) ∨
    zipE (compE n c) c elt gens scope = some ie := by
  cases gens with
  | nil => exact .inr h
  | cons gen gens =>
    obtain ⟨tgt, iter, ifs, a⟩ := gen
    cases gens with
    | cons g2 gens => cases tgt <;> exact .inr h
    | nil =>
      cases tgt with
      | Name x px =>
        obtain ⟨hs, h'⟩ := onlyIf_some h
        obtain ⟨ha, ok⟩ := compOk_of (c := c) (scope := scope) (x := x) (a := a) hs
        clear h; subst ha
        obtain ⟨ks, e, fs, h1, h2, h3, rfl⟩ := oThree_some h'
        exact .inl ⟨x, px, iter, ifs, ks.1, ks.2, e, fs, rfl, ok, h1, h2, h3, rfl⟩
      | _ => exact .inr h



theorem soundE (hO : OrcOk D k Φ) : ∀ (n : Nat) (c : CC) (e : Expr) (ie : IE), GOk D c.G → compE n c e = some ie → Both D Φ k c e ie := by
  intro n
  induction n with
  | zero => intro c e ie g h; cases h
  | succ n ih =>
    intro c e ie g h
    have ihB : ∀ e ie, compE n c e = some ie → Both D Φ k c e ie := fun e ie h => ih c e ie g h
    have ihE : ∀ e ie, compE n c e = some ie → SE D Φ k c e ie := fun e ie h => (ihB e ie h).1
    cases e with
    | Constant kk a b =>
      obtain ⟨W, hW, rfl⟩ := Option.map_eq_some_iff.mp h; exact e_const hW
    | Name x p => exact e_name g h
    | BinOp l op r p => obtain ⟨a, b, h1, h2, rfl⟩ := oTwo_some h; exact e_bin (ihE _ _ h1) (ihE _ _ h2)
    | UnaryOp op x p =>
      cases op with
      | USub => obtain ⟨a, ha, rfl⟩ := Option.map_eq_some_iff.mp h; exact e_neg (ihE _ _ ha)
      | Not => obtain ⟨a, ha, rfl⟩ := Option.map_eq_some_iff.mp h; exact e_not (ihB _ _ ha)
      | _ => exact nomatch (show (none : Option IE) = some ie from h)
    | BoolOp op vs p =>
      cases op with
      | And => obtain ⟨ies, h1, h2⟩ := Option.bind_eq_some_iff.mp h; exact e_and ihB h1 h2
      | Or => obtain ⟨ies, h1, h2⟩ := Option.bind_eq_some_iff.mp h; exact e_or ihB h1 h2
    | IfExp t a b p => obtain ⟨a, b, d, h1, h2, h3, rfl⟩ := oThree_some h; exact e_ite (ihB _ _ h1) (ihB _ _ h2) (ihB _ _ h3)
    | Compare l ops rs p =>
      cases ops with
      | nil => exact nomatch (show (none : Option IE) = some ie from h)
      | cons op ops =>
        cases rs with
        | nil => cases ops with
          | nil => exact nomatch (show (none : Option IE) = some ie from h)
          | cons o2 ops => cases ops <;> exact nomatch (show (none : Option IE) = some ie from h)
        | cons r rs =>
          cases ops with
          | nil => cases rs with
            | nil => obtain ⟨a, b, h1, h2, rfl⟩ := oTwo_some h; exact e_cmp (ihE _ _ h1) (ihE _ _ h2) (noMarks h2)
            | cons r2 rs => exact nomatch (show (none : Option IE) = some ie from h)
          | cons op2 ops => cases ops with
            | cons op3 ops => exact nomatch (show (none : Option IE) = some ie from h)
            | nil => cases rs with
              | nil => exact nomatch (show (none : Option IE) = some ie from h)
              | cons r2 rs => cases rs with
                | cons r3 rs => exact nomatch (show (none : Option IE) = some ie from h)
                | nil => obtain ⟨a, b, d, h1, h2, h3, rfl⟩ := oThree_some h; exact e_cmp2 (ihE _ _ h1) (ihE _ _ h2) (ihE _ _ h3) (noMarks h3)
    | Tuple es a p =>
      obtain ⟨hs, h⟩ := onlyIf_some h
      obtain ⟨a, ha, rfl⟩ := Option.map_eq_some_iff.mp h
      exact e_tup ihE (by simpa using hs) ha
    | List es p =>
      obtain ⟨hs, h⟩ := onlyIf_some h
      obtain ⟨a, ha, rfl⟩ := Option.map_eq_some_iff.mp h
      exact e_lst ihE (by simpa using hs) ha
    | Call f args kw p =>
      cases kw with
      | cons k1 kw => cases f <;> exact nomatch (show (none : Option IE) = some ie from h)
      | nil =>
        cases f with
        | Name x px =>
          obtain ⟨hs, h⟩ := onlyIf_some h
          simp only [Bool.and_eq_true, Bool.not_eq_true'] at hs
          obtain ⟨a, b, h1, h2, rfl⟩ := oTwo_some h
          exact e_call g hO ihE hs.1 h1 h2
        | Attribute o name apos =>
          obtain ⟨hs, h⟩ := onlyIf_some h
          simp only [Bool.and_eq_true, Bool.not_eq_true'] at hs
          cases hsm : smOf name with
          | some j =>
            rw [hsm] at h
            have h' : strmE (compE n c) j args (compE n c o) = some ie := h
            match args, h', hs with
            | [], h', hs => cases h'
            | [a], h', hs =>
              obtain ⟨v, ia, ho, hia, rfl⟩ := oTwo_some h'
              exact e_strm hsm (ihE _ _ ho) (ihE _ _ hia) hs.1.2 (Nat.eq_of_beq_eq_true hs.2) (by simpa using hs.1.1.1)
            | _ :: _ :: _, h', hs => cases h'
          | none =>
          rw [hsm] at h
          have h : methE (compE n c) (mtOf name) args (compE n c o) = some ie := h
          have hm : ∃ m, mtOf name = some m := by
            cases hq : mtOf name with
            | none => rw [hq] at h; cases h
            | some m => exact ⟨m, rfl⟩
          obtain ⟨m, hm⟩ := hm
          rw [hm] at h
          have h' : onlyIf (args.length.beq (methN m)) (oTwo (fun v as => .meth v m as) (compE n c o) (methA (compE n c) args)) = some ie := h
          have hname := mtOf_some hm
          obtain ⟨hn, h3⟩ := onlyIf_some h'
          obtain ⟨v, ias, ho, ha, rfl⟩ := oTwo_some h3
          clear h3 h' h
          have hn := Nat.eq_of_beq_eq_true hn
          have hl := Nat.eq_of_beq_eq_true hs.2
          rw [hname]
          match args, hn, ha, hs with
          | [], hn, ha, hs =>
            cases ha
            cases m with
            | clear => exact e_clear (ihE _ _ ho) hs.1.2 hl
            | pop => exact e_pop (ihE _ _ ho) hs.1.2 hl
            | append => cases hn
            | index => cases hn
          | [a], hn, ha, hs =>
            obtain ⟨ia, hia, rfl⟩ := Option.map_eq_some_iff.mp ha
            cases m with
            | clear => cases hn
            | pop => cases hn
            | append => exact e_append (ihE _ _ ho) (ihE _ _ hia) hs.1.2 hl (by simpa using hs.1.1.1)
            | index => exact e_index (ihE _ _ ho) (ihE _ _ hia) hs.1.2 hl (by simpa using hs.1.1.1)
          | _ :: _ :: _, hn, ha, hs => cases ha
        | _ => exact nomatch (show (none : Option IE) = some ie from h)
    | Subscript o i p =>
      change subE (compE n c) o i = some ie at h
      unfold subE at h
      cases hp : sliceKind i with
      | none =>
        rw [hp] at h
        obtain ⟨a, b, h1, h2, rfl⟩ := oTwo_some h
        exact e_sub (ihE _ _ h1) (ihE _ _ h2) (noSlice h2)
      | some q =>
        rw [hp] at h
        obtain ⟨lo, hi, b⟩ := q
        cases b with
        | false =>
          obtain ⟨sp, rfl⟩ := sliceKind_f hp
          obtain ⟨a, b, d, h1, h2, h3, rfl⟩ := oThree_some h
          exact e_slice ihE h1 h2 h3
        | true =>
          obtain ⟨kk, p1, p2, sp, rfl⟩ := sliceKind_t hp
          obtain ⟨a, ha, rfl⟩ := Option.map_eq_some_iff.mp h
          exact e_rev ihE ha
    | ListComp elt gens scope pos =>
      rcases comp_inv h with ⟨x, px, iter, ifs, kk, ss, ielt, iifs, rfl, ok, h1, h2, h3, rfl⟩ | hz
      · exact e_comp g ih ok h1 h2 h3 (noSetIter h1)
      · cases hz
    | _ => exact nomatch (show (none : Option IE) = some ie from h)
end
end Mine

set_option autoImplicit false
/- Statements (nothing is raised). -/
namespace Mine
open PySem PyProof.Rows

noncomputable def ownA (env : Env) : List Addr := env.locals :: env.cells.map (·.2)

structure FRel (D : Wd) (γ : List Addr) (env : Env) (slots : List (Str × Nat)) (h : Heap) (L : Lc) : Prop where
  l : LRel D γ env slots h L
  own : ∀ a ∈ ownA env, a ∉ γ ∧ D.hB.get? a = none ∧ (∃ o, h.get? a = some o) ∧ ∀ ws, ¬ TupAt h a ws
  apart : env.cells.Pairwise fun x y => x.2 ≠ y.2
  above : ∀ p ∈ env.cells, p.2 ≠ env.locals
  top : ∃ outer, D.fr = env :: outer ∧ env.frame = some env.locals

noncomputable def FlRep (mg : Wd) (γ : List Addr) (h : Heap) : Flow → Fl → Prop
  | .next, .next => True
  | .brk, .brk => True
  | .cont, .cont => True
  | .ret v, .ret V => Rep mg γ h v V
  | _, _ => False

noncomputable def PostF (D : Wd) (γ : List Addr) (s : Shared) (env : Env) (slots : List (Str × Nat)) (Q : QS) (fl : Flow) (s' : Shared) : Prop :=
  ∃ γ' H' L' F, Stp (ownA env) γ γ' s s' ∧ HRel D γ' H' s'.heap ∧ FRel D γ' env slots s'.heap L' ∧ FlRep D γ' s'.heap fl F ∧ Q F L' H'

noncomputable def PostE (D : Wd) (γ : List Addr) (s : Shared) (env : Env) (slots : List (Str × Nat)) (X : XS) (e : Value) (s' : Shared) : Prop :=
  ∃ γ' H' L' x, Stp (ownA env) γ γ' s s' ∧ HRel D γ' H' s'.heap ∧ FRel D γ' env slots s'.heap L' ∧ ((XNew D s s'.heap e x ∨ XFly D s s'.heap e x) ∧ (x.cls, x.ups) ∈ D.ex) ∧ X x L' H'
theorem PostE.no {D : Wd} {γ : List Addr} {s : Shared} {env : Env} {slots : List (Str × Nat)} {e : Value} {s' : Shared} (h : PostE D γ s env slots noXS e s') : False := by
  obtain ⟨_, _, _, _, _, _, _, _, x⟩ := h; exact x

structure SlotsOk (c : CC) : Prop where
  inj : ∀ (x y : Str) (i : Nat), c.slots.lookup x = some i → c.slots.lookup y = some i → x = y

section
variable {D : Wd} {Φ : Orc} {k : Nat} {γ γ1 : List Addr} {H H1 : Hp} {s s1 : Shared} {env : Env} {slots : List (Str × Nat)} {L : Lc}

theorem FRel.stp (f : FRel D γ env slots s.heap L) (R : HRel D γ H s.heap) (t : Stp [] γ γ1 s s1) : FRel D γ1 env slots s1.heap L where
  l := f.l.stp R t
  own := fun a ha => by
    obtain ⟨h1, h2, ⟨o, e⟩, h3⟩ := f.own a ha
    obtain ⟨sl, e', hs⟩ := t.keepS _ _ h1 (by simp) e
    refine ⟨notin_ext t h1 e, h2, ⟨_, e'⟩, fun ws q => h3 ws ?_⟩
    obtain ⟨n, q1, q2⟩ := q
    rw [e'] at q1
    have hd : o.data = .seq ws.toArray n := by
      have := Option.some.inj q1
      exact congrArg Obj.data this
    rw [hs (notD_seq hd)] at q1
    exact ⟨n, e.trans q1, q2⟩
  apart := f.apart
  above := f.above
  top := f.top

theorem Stp.transF {wr γ2 : List Addr} {s2 : Shared} (R1 : HRel D γ1 H1 s1.heap) (a : Stp wr γ γ1 s s1) (b : Stp wr γ1 γ2 s1 s2) (hw : ∀ x ∈ wr, ∃ o', s1.heap.get? x = some o') : Stp wr γ γ2 s s2 :=
  a.trans R1 b (fun x hx _ _ => hw x hx)

theorem FRel.alive (f : FRel D γ env slots s.heap L) : ∀ x ∈ ownA env, ∃ o', s.heap.get? x = some o' := fun x hx => by
  obtain ⟨_, _, e, _⟩ := f.own x hx; exact e

theorem PostF.back {Q : QS} {fl : Flow} {s' : Shared} {L1 : Lc} (t : Stp (ownA env) γ γ1 s s1) (R : HRel D γ1 H1 s1.heap) (f : FRel D γ1 env slots s1.heap L1) (h : PostF D γ1 s1 env slots Q fl s') : PostF D γ s env slots Q fl s' := by
  obtain ⟨γ', H', L', F, a, b, c, d, e⟩ := h
  exact ⟨γ', H', L', F, t.transF R a f.alive, b, c, d, e⟩

theorem fresh_backF {wr : List Addr} (t : Stp wr γ γ1 s s1) (R : HRel D γ1 H1 s1.heap) (hw : ∀ x ∈ wr, ∃ o', s1.heap.get? x = some o') {a : Addr} (h : s1.heap.get? a = none) : s.heap.get? a = none := by
  cases e : s.heap.get? a with
  | none => rfl
  | some o =>
    by_cases hg : a ∈ γ
    · obtain ⟨δ, rfl, _⟩ := t.ext
      obtain ⟨o', e', _⟩ := R.alive (List.mem_append_left _ hg)
      rw [h] at e'; cases e'
    · by_cases hx : a ∈ wr
      · obtain ⟨o', e'⟩ := hw a hx
        rw [h] at e'; cases e'
      · obtain ⟨o', e'⟩ := t.live hg hx e
        rw [h] at e'; cases e'
theorem PostE.back {X : XS} {e : Value} {s' : Shared} {L1 : Lc} (t : Stp (ownA env) γ γ1 s s1) (R : HRel D γ1 H1 s1.heap) (f : FRel D γ1 env slots s1.heap L1) (h : PostE D γ1 s1 env slots X e s') : PostE D γ s env slots X e s' := by
  obtain ⟨γ', H', L', x, a, b, c, ⟨d, m⟩, q⟩ := h
  have fb : ∀ a, s1.heap.get? a = none → s.heap.get? a = none := fun a => fresh_backF t R f.alive
  exact ⟨γ', H', L', x, t.transF R a f.alive, b, c, ⟨d.imp (·.from fb) (·.from fb), m⟩, q⟩
theorem PostX.toE {X : XS} {e : Value} {s' : Shared} (f : FRel D γ env slots s.heap L) (R : HRel D γ H s.heap) (h : PostX D γ s (fun x => X x L) e s') : PostE D γ s env slots X e s' := by
  obtain ⟨γ', H', x, a, b, ⟨c, m⟩, q⟩ := h
  exact ⟨γ', H', L, x, a.weak, b, f.stp R a, ⟨.inr c, m⟩, q⟩

theorem lookup_cell_mem {x : Str} {c : Addr} (h : env.cells.lookup x = some c) : c ∈ ownA env := List.mem_cons_of_mem _ (List.mem_map.mpr ⟨(x, c), mem_of_lookup h, rfl⟩)

theorem notTup_cell {h : Heap} {c : Addr} {u : Option Value} (x : h.IsCell c u) (ws : List Value) : ¬ TupAt h c ws := fun q => by
  obtain ⟨o, e, d⟩ := x
  obtain ⟨n, e', _⟩ := q
  rw [e] at e'; cases e'; cases d

theorem notTup_same {h h' : Heap} {a : Addr} {o : Obj} (e : h.get? a = some o) (e' : h'.get? a = some o) (q : ∀ ws, ¬ TupAt h a ws) (ws : List Value) : ¬ TupAt h' a ws := fun x => by
  obtain ⟨n, q1, q2⟩ := x
  rw [e'] at q1; cases q1
  exact q ws ⟨n, e, q2⟩

theorem store_ok {c : CC} {A : Around} {E : Value → Shared → Prop} {x : Str} {i : Nat} {v : Value} {W : V} (hE : EnvOk c env) (so : SlotsOk c) (R : HRel D γ H s.heap) (f : FRel D γ env c.slots s.heap L) (hs : slotV c x = some i) (rv : Rep D γ s.heap v W) :
    wpAny D.M A (storeName env x v) (fun _ s' => Stp (ownA env) γ γ s s' ∧ HRel D γ H s'.heap ∧ FRel D γ env c.slots s'.heap (L.set i (some W))) E s := by
  have hkf : env.scope.kind = .function := by rw [hE.scope]; exact hE.kind
  have hkind : ∀ y, env.kindOf y = c.scope.names.lookup y := fun y => by unfold Env.kindOf; rw [hE.scope]
  unfold slotV at hs
  split at hs
  · rename_i hk
    have hk' : env.kindOf x = some .local := (hkind x).trans hk
    obtain ⟨m, hn, fm⟩ := f.l.ns
    obtain ⟨lg, lB, _, cL⟩ := f.own env.locals List.mem_cons_self
    refine wpAny_storeName_local hk' hn (fun h' hn' hs' => ?_) (by rw [hkf]; rfl)
    have hkk : ∀ b o, b ≠ env.locals → s.heap.get? b = some o → h'.get? b = some o := fun b o hb e => hs'.extBut b o hb e
    have tt : ∀ a ws, TupAt s.heap a ws → TupAt h' a ws := fun a ws q => tupAt_but hkk cL q
    refine ⟨Stp.of ⟨_, _, rfl⟩ (fun b o _ hb e => hkk b o (fun q => hb (q ▸ List.mem_cons_self)) e) ⟨[], by simp, by simp⟩, R.but hkk lg lB cL (.inr (isD_ns hn')), ⟨⟨⟨_, hn', ?_⟩, ?_, lg⟩, ?_, f.apart, f.above, f.top⟩⟩
    · intro y j V hy hj hL
      by_cases hxy : y = x
      · subst hxy
        rw [hs] at hj; cases hj
        rw [List.getElem?_set] at hL
        simp only [if_true] at hL
        split at hL
        · cases hL; exact ⟨v, by simp, Rep.mono ⟨[], by simp⟩ tt rv⟩
        · cases hL
      · have hij : i ≠ j := fun q => hxy (so.inj y x i (q ▸ hj) hs)
        rw [List.getElem?_set_ne hij] at hL
        obtain ⟨u, hu, ru⟩ := fm y j V hy hj hL
        exact ⟨u, by simp [hxy, hu], Rep.mono ⟨[], by simp⟩ tt ru⟩
    · intro y hy
      obtain ⟨ca, u, e1, e2, e3, e4⟩ := f.l.cel y hy
      refine ⟨ca, u, e1, e2.sameBut hs' (f.above (y, ca) (mem_of_lookup e1)), e3, fun j V hj hL => ?_⟩
      have hij : i ≠ j := fun q => by
        have := so.inj y x i (q ▸ hj) hs
        subst this; rw [hy] at hk'; cases hk'
      rw [List.getElem?_set_ne hij] at hL
      obtain ⟨w, hw, rw_⟩ := e4 j V hj hL
      exact ⟨w, hw, Rep.mono ⟨[], by simp⟩ tt rw_⟩
    · intro a ha
      obtain ⟨a1, a2, ⟨o, e⟩, a3⟩ := f.own a ha
      by_cases hal : a = env.locals
      · subst hal
        exact ⟨a1, a2, (let ⟨o', _, _, eo, _⟩ := hn'; ⟨o', eo⟩), notTup_dict hn'⟩
      · exact ⟨a1, a2, ⟨o, hkk _ _ hal e⟩, notTup_same e (hkk _ _ hal e) a3⟩
  · rename_i hk
    have hk' : env.kindOf x = some .cell := (hkind x).trans hk
    obtain ⟨ca, u, e1, e2, e3, e4⟩ := f.l.cel x hk'
    obtain ⟨lg, lB, _, cL⟩ := f.own ca (lookup_cell_mem e1)
    have hcl : ca ≠ env.locals := f.above (x, ca) (mem_of_lookup e1)
    refine wpAny_storeName_cell hkf hk' e1 e2 (fun h' hc' hs' => ?_)
    have hkk : ∀ b o, b ≠ ca → s.heap.get? b = some o → h'.get? b = some o := fun b o hb e => hs'.extBut b o hb e
    have tt : ∀ a ws, TupAt s.heap a ws → TupAt h' a ws := fun a ws q => tupAt_but hkk cL q
    obtain ⟨m, hn, fm⟩ := f.l.ns
    refine ⟨Stp.of ⟨_, s.toks, rfl⟩ (fun b o _ hb e => hkk b o (fun q => hb (q ▸ lookup_cell_mem e1)) e) ⟨[], by simp, by simp⟩, R.but hkk lg lB cL (.inl (let ⟨o, e, d⟩ := e2; ⟨o, e, fun es n q => by rw [d] at q; cases q⟩)), ⟨⟨⟨m, hn.sameBut hs' (Ne.symm hcl), ?_⟩, ?_, f.l.nin⟩, ?_, f.apart, f.above, f.top⟩⟩
    · intro y j V hy hj hL
      have hij : i ≠ j := fun q => by
        have := so.inj y x i (q ▸ hj) hs
        subst this; rw [hy] at hk'; cases hk'
      rw [List.getElem?_set_ne hij] at hL
      obtain ⟨w, hw, rw_⟩ := fm y j V hy hj hL
      exact ⟨w, hw, Rep.mono ⟨[], by simp⟩ tt rw_⟩
    · intro y hy
      by_cases hxy : y = x
      · subst hxy
        refine ⟨ca, some v, e1, hc', e3, fun j V hj hL => ?_⟩
        rw [hs] at hj; cases hj
        rw [List.getElem?_set] at hL
        simp only [if_true] at hL
        split at hL
        · cases hL; exact ⟨v, rfl, Rep.mono ⟨[], by simp⟩ tt rv⟩
        · cases hL
      · obtain ⟨cb, u', f1, f2, f3, f4⟩ := f.l.cel y hy
        have hne : cb ≠ ca := fun q => hxy (name_of_addr f.apart (mem_of_lookup f1) (q ▸ mem_of_lookup e1))
        refine ⟨cb, u', f1, f2.sameBut hs' hne, f3, fun j V hj hL => ?_⟩
        have hij : i ≠ j := fun q => hxy (so.inj y x i (q ▸ hj) hs)
        rw [List.getElem?_set_ne hij] at hL
        obtain ⟨w, hw, rw_⟩ := f4 j V hj hL
        exact ⟨w, hw, Rep.mono ⟨[], by simp⟩ tt rw_⟩
    · intro a ha
      obtain ⟨a1, a2, ⟨o, e⟩, a3⟩ := f.own a ha
      by_cases hal : a = ca
      · subst hal
        exact ⟨a1, a2, (let ⟨o', eo, _⟩ := hc'; ⟨o', eo⟩), notTup_cell hc'⟩
      · exact ⟨a1, a2, ⟨o, hkk _ _ hal e⟩, notTup_same e (hkk _ _ hal e) a3⟩
  · cases hs
end
end Mine

set_option autoImplicit false
/- Statements, one at a time. -/
namespace Mine
open PySem PyProof.Rows

noncomputable def SS (D : Wd) (Φ : Orc) (k : Nat) (c : CC) (st : Stmt) (is : IS) : Prop := ∀ env A γ H s L Q X, EnvOk c env → AOk D k A → HRel D γ H s.heap → FRel D γ env c.slots s.heap L →
  wpS Φ is L H Q X → wpAny D.M A (exec st env) (PostF D γ s env c.slots Q) (PostE D γ s env c.slots X) s
noncomputable def SSs (D : Wd) (Φ : Orc) (k : Nat) (c : CC) (sts : List Stmt) (iss : List IS) : Prop := ∀ env A γ H s L Q X, EnvOk c env → AOk D k A → HRel D γ H s.heap → FRel D γ env c.slots s.heap L →
  wpSs Φ iss L H Q X → wpAny D.M A (execs sts env) (PostF D γ s env c.slots Q) (PostE D γ s env c.slots X) s

section
variable {D : Wd} {Φ : Orc} {k : Nat} {c : CC}

theorem sss_of {f : Stmt → Option IS} (ih : ∀ st is, f st = some is → SS D Φ k c st is) : ∀ (sts : List Stmt) (iss : List IS), mapO f sts = some iss → SSs D Φ k c sts iss
  | [], iss, hm => by
    rw [mapO_nil hm]
    intro env A γ H s L Q X hE hA R fr w
    exact wpAny_execs_nil ⟨γ, H, L, .next, Stp.refl, R, fr, trivial, w⟩
  | st :: r, iss, hm => by
    obtain ⟨b, bs, rfl, h1, h2⟩ := mapO_cons hm
    intro env A γ H s L Q X hE hA R fr w
    refine wpAny_execs_cons (wpAny_mono (ih st b h1 env A γ H s L _ X hE hA R fr w) (fun fl s1 p => ?_) fun _ _ x => x)
    obtain ⟨γ1, H1, L1, F, st1, R1, fr1, hf, q⟩ := p
    cases fl with
    | next =>
      cases F <;> simp only [FlRep] at hf
      refine wpAny_mono (sss_of ih r bs h2 env A γ1 H1 s1 L1 Q X hE hA R1 fr1 q) (fun _ _ x => x.back st1 R1 fr1) fun _ _ x => x.back st1 R1 fr1
    | brk => cases F <;> simp only [FlRep] at hf; exact ⟨γ1, H1, L1, .brk, st1, R1, fr1, trivial, q⟩
    | cont => cases F <;> simp only [FlRep] at hf; exact ⟨γ1, H1, L1, .cont, st1, R1, fr1, trivial, q⟩
    | ret v => cases F <;> simp only [FlRep] at hf; exact ⟨γ1, H1, L1, .ret _, st1, R1, fr1, hf, q⟩

theorem kindF {env : Env} (hE : EnvOk c env) : env.scope.kind = .function := by rw [hE.scope]; exact hE.kind

theorem s_expr {e : Expr} {pos : Pos} {ie : IE} (h : SE D Φ k c e ie) (hc : isComp e = false) : SS D Φ k c (.Expr e pos) (.expr ie) := by
  intro env A γ H s L Q X hE hA R fr w
  have hk := kindF hE
  refine wpAny_Expr_any (wpAny_mono (h env A γ H s L _ _ hE hA R fr.l w) (fun v s1 p => ?_) fun _ _ x => x.toE fr R) (by unfold interactive; rw [hk]; rfl) (by cases e <;> first | rfl | (simp [isComp] at hc))
  obtain ⟨γ1, V, H1, st, R1, rv, q⟩ := p
  exact ⟨γ1, H1, L, .next, st.weak, R1, fr.stp R st, trivial, q⟩

theorem s_ret {e : Expr} {pos : Pos} {ie : IE} (h : SE D Φ k c e ie) : SS D Φ k c (.Return (some e) pos) (.ret ie) := by
  intro env A γ H s L Q X hE hA R fr w
  refine wpAny_Return_some (wpAny_mono (h env A γ H s L _ _ hE hA R fr.l w) (fun v s1 p => ?_) fun _ _ x => x.toE fr R)
  obtain ⟨γ1, V, H1, st, R1, rv, q⟩ := p
  exact ⟨γ1, H1, L, .ret V, st.weak, R1, fr.stp R st, rv, q⟩

theorem s_assign {e : Expr} {x : Str} {px pos : Pos} {ie : IE} {i : Nat} (so : SlotsOk c) (h : SE D Φ k c e ie) (hs : slotV c x = some i) (hw : ∀ env, EnvOk c env → swapsWith e (some (.Name x px)) pos.line env = pure false) :
    SS D Φ k c (.Assign [.Name x px] e pos) (.assign i ie) := by
  intro env A γ H s L Q X hE hA R fr w
  refine wpAny_Assign_Name (wpAny_mono (h env A γ H s L _ _ hE hA R fr.l w) (fun v s1 p => ?_) fun _ _ x => x.toE fr R) (hw env hE)
  obtain ⟨γ1, V, H1, st, R1, rv, q⟩ := p
  refine wpAny_mono (store_ok hE so R1 (fr.stp R st) hs rv) (fun _ s2 p => ?_) fun _ _ x => x
  obtain ⟨st2, R2, fr2⟩ := p
  exact ⟨γ1, H1, _, .next, st.weak.transF R1 st2 (fr.stp R st).alive, R2, fr2, trivial, q⟩

theorem s_set {o i value : Expr} {pos' pos : Pos} {io ii iv : IE} (hv : SE D Φ k c value iv) (ho : SE D Φ k c o io) (hi : SE D Φ k c i ii) (hw : ∀ env, swapsWith value (some (.Subscript o i pos')) pos.line env = pure false) :
    SS D Φ k c (.Assign [.Subscript o i pos'] value pos) (.setItem io ii iv) := by
  intro env A γ H s L Q X hE hA R fr w
  refine wpAny_Assign_Subscript (wpAny_mono (hv env A γ H s L _ _ hE hA R fr.l w) (fun v s1 p => ?_) fun _ _ x => x.toE fr R) (hw env)
  obtain ⟨γ1, V, H1, st, R1, rv, q⟩ := p
  have fr1 := fr.stp R st
  refine wpAny_mono (ho env A γ1 H1 s1 L _ _ hE hA R1 fr1.l q) (fun ov s2 p => ?_) fun _ _ x => (x.toE fr1 R1).back st.weak R1 fr1
  obtain ⟨γ2, Vo, H2, st2, R2, ro, q2⟩ := p
  have fr2 := fr1.stp R1 st2
  refine wpAny_mono (hi env A γ2 H2 s2 L _ _ hE hA R2 fr2.l q2) (fun iv s3 p => ?_) fun _ _ x => (x.toE fr2 R2).back (st.trans0 R1 st2).weak R2 fr2
  obtain ⟨γ3, Vi, H3, st3, R3, ri, q3⟩ := p
  have fr3 := fr2.stp R2 st3
  have st03 := (st.trans0 R1 st2).trans0 R2 st3
  have rv3 := (rv.stp0 R1 st2).stp0 R2 st3
  have ro3 := ro.stp0 R2 st3
  cases Vo with
  | ref j =>
    cases Vi with
    | int m =>
      obtain ⟨l, hl, hb, q4⟩ := oK_elim q3
      simp only [Rep] at ro3 ri
      obtain ⟨a, ha, rfl⟩ := ro3
      obtain ⟨u, rfl⟩ := ri
      obtain ⟨vs, n, e, rs, z⟩ := R3.list ha hl
      have hlen := rs.length
      refine PySem.W.ki_setAt (items := vs.toArray) (n := n) e hb.1 (by omega) (by simp; omega) ?_
      have e' := IsL.update e fun xs => xs.setIfInBounds m.toNat v
      have em : vs.toArray.setIfInBounds m.toNat v = (vs.set m.toNat v).toArray := by apply Array.toList_inj.mp; simp
      simp only [em] at e'
      have rs' : Reps D γ3 s3.heap (vs.set m.toNat v) (l.set m.toNat V) := by
        refine Reps.of_get (by simp [hlen]) fun y w W h1 h2 => ?_
        by_cases hy : m.toNat = y
        · subst hy
          rw [List.getElem?_set_self (by omega)] at h1 h2
          cases h1; cases h2; exact rv3
        · rw [List.getElem?_set_ne hy] at h1 h2
          obtain ⟨w', hw', rw'⟩ := rs.get h2
          rw [h1] at hw'; cases hw'; exact rw'
      have hk : ∀ b o', b ≠ a → s3.heap.get? b = some o' → (s3.heap.update a (Obj.mapSeq fun xs => xs.setIfInBounds m.toNat v)).get? b = some o' := fun b o' hb q => (Heap.SameBut.update ..).extBut b o' hb q
      obtain ⟨γ4, V4, H4, st4, R4, _, rfl⟩ := PostV.setList (tk := s3.toks) (vs := vs.set m.toNat v) (l := l.set m.toNat V) (v := .none) (V := .none) (Q := fun _ H' => H' = H3.set j (.list (l.set m.toNat V))) R3 ha rs' (by simp; omega) hk e' (by simp only [Rep]) rfl
      exact ⟨γ4, _, L, .next, (st03.trans0 R3 st4).weak, R4, fr3.stp R3 st4, trivial, q4⟩
    | _ => exact q3.elim
  | _ => exact q3.elim

theorem s_assign_comp {n : Nat} {elt iter : Expr} {ifs : List Expr} {x y : Str} {px py pos spos : Pos} {scope : Scope} {ielt : IE} {iifs : List IE} {kk : SrcK} {ss : List IE} {i : Nat} (g : GOk D c.G) (so : SlotsOk c)
    (ih : ∀ c e ie, GOk D c.G → compE n c e = some ie → Both D Φ k c e ie) (ok : CompOk c scope x)
    (hsrc : compSrc (compE n c) c iter = some (kk, ss)) (hce : compE n (inner c scope x) elt = some ielt) (hci : mapO (compE n (inner c scope x)) ifs = some iifs) (hset : ∀ env x, foldedSetIterable iter env x = pure x) (hs : slotV c y = some i) :
    SS D Φ k c (.Assign [.Name y py] (.ListComp elt [⟨.Name x px, iter, ifs, 0⟩] scope pos) spos) (.assign i (.comp ielt [c.nxt] kk ss iifs)) := by
  intro env A γ H s L Q X hE hA R fr w
  have hsw : ∃ b, swapsWith (.ListComp elt [⟨.Name x px, iter, ifs, 0⟩] scope pos) (some (.Name y py)) spos.line env = pure b := ⟨_, rfl⟩
  obtain ⟨b, hb⟩ := hsw
  cases b with
  | false =>
    refine wpAny_Assign_Name (wpAny_mono ((e_comp g ih ok hsrc hce hci hset).1 env A γ H s L _ _ hE hA R fr.l w) (fun v s1 p => ?_) fun _ _ x => x.toE fr R) hb
    obtain ⟨γ1, V, H1, st, R1, rv, q⟩ := p
    refine wpAny_mono (store_ok hE so R1 (fr.stp R st) hs rv) (fun _ s2 p => ?_) fun _ _ x => x
    obtain ⟨st2, R2, fr2⟩ := p
    exact ⟨γ1, H1, _, .next, st.weak.transF R1 st2 (fr.stp R st).alive, R2, fr2, trivial, q⟩
  | true =>
    rw [exec_Assign_Name_used _ _ _ _ hb]
    refine wpAny_bind (wpAny_standAt (wpAny_bind ?_))
    show wpAny _ A (do let _ ← comprehension (.ListComp elt [⟨.Name x px, iter, ifs, 0⟩] scope pos) scope env _ (newList []) false (eval iter env) (some (assign (.Name y py) env))) _ _ s
    refine wpAny_bind (wpAny_mono (comp_run (use := some (assign (.Name y py) env)) (Qf := fun _ s' => PostF D γ s env c.slots Q .next s') g ih ok hsrc hce hci hE hA R fr.l (hset env) w ?_) (fun _ s' hq => wpAny_pure (wpAny_pure hq)) fun _ _ x => x.toE fr R)
    intro γ' H' s' Dd C acc stp R' ho dn d0 hc cn c0 hdc hK
    obtain ⟨ys, ny, hy, ry⟩ := ho
    obtain ⟨m, hm⟩ := hc
    have dB := base_none R d0
    have R2 := R'.adopt ry (by have := hK.1; omega) dn dB hy
    have fr' := fr.stp R stp
    have stp2 : Stp [] γ (γ' ++ [Dd]) s s' := by
      refine ⟨stp.same, stp.keepS, ?_⟩
      obtain ⟨δ, e, f⟩ := stp.ext
      refine ⟨δ ++ [Dd], by rw [e]; simp, fun b hb => ?_⟩
      rcases List.mem_append.mp hb with q | q
      · exact f b q
      · simp at q; subst q; exact d0
    have fr2 : FRel D (γ' ++ [Dd]) env c.slots s'.heap L := fr.stp R stp2
    show wpAny D.M A (assign (.Name y py) env (.ref Dd)) _ _ s'
    refine wpAny_assign_Name (wpAny_mono (store_ok (W := .ref H'.length) hE so R2 fr2 hs (by simp only [Rep]; exact ⟨_, by rw [List.getElem?_append_right (by rw [R'.len]; exact Nat.le_refl _)]; simp [R'.len], rfl⟩)) (fun _ s2 p => ?_) fun _ _ x => x)
    obtain ⟨st3, R3, fr3⟩ := p
    have hCown : C ∉ ownA env := fun hm' => by
      obtain ⟨o, e⟩ := fr.alive C hm'
      rw [c0] at e; cases e
    have hm3 : s2.heap.Ns C m := st3.ns (by
      intro q
      rcases List.mem_append.mp q with q | q
      · exact cn q
      · simp at q; exact hdc q.symm) hCown hm
    refine ⟨m, hm3, fun h' hs' => ?_⟩
    have hk : ∀ b o, b ≠ C → s2.heap.get? b = some o → h'.get? b = some o := fun b o hb e => hs'.extBut b o hb e
    have cn2 : C ∉ γ' ++ [Dd] := by
      intro q
      rcases List.mem_append.mp q with q | q
      · exact cn q
      · simp at q; exact hdc q.symm
    have nt := notTup_dict hm3
    have fr4 : FRel D (γ' ++ [Dd]) env c.slots h' (L.set i (some (.ref H'.length))) := by
      have tt : ∀ a ws, TupAt s2.heap a ws → TupAt h' a ws := fun a ws q => tupAt_but hk nt q
      have hLC : env.locals ≠ C := fun q => hCown (q ▸ List.mem_cons_self)
      refine ⟨⟨?_, ?_, fr3.l.nin⟩, ?_, fr3.apart, fr3.above, fr3.top⟩
      · obtain ⟨m2, hn2, f2⟩ := fr3.l.ns
        refine ⟨m2, hn2.at' fun o e => hk _ o hLC e, fun z j V h1 h2 h3 => ?_⟩
        obtain ⟨v, e1, e2⟩ := f2 z j V h1 h2 h3
        exact ⟨v, e1, Rep.mono ⟨[], by simp⟩ tt e2⟩
      · intro z hz
        obtain ⟨ca, u, e1, e2, e3, e4⟩ := fr3.l.cel z hz
        refine ⟨ca, u, e1, e2.sameBut hs' (fun q => hCown (q ▸ lookup_cell_mem e1)), e3, fun j V h1 h2 => ?_⟩
        obtain ⟨v, e5, e6⟩ := e4 j V h1 h2
        exact ⟨v, e5, Rep.mono ⟨[], by simp⟩ tt e6⟩
      · intro a ha
        obtain ⟨a1, a2, ⟨o, e⟩, a3⟩ := fr3.own a ha
        have e' := hk a o (fun q => hCown (q ▸ ha)) e
        exact ⟨a1, a2, ⟨o, e'⟩, notTup_same e e' a3⟩
    refine ⟨γ' ++ [Dd], _, _, .next, ?_, R3.butN hk cn2 (base_none R c0) nt (R.frs.ne c0), fr4, trivial, hK.2⟩
    have st4 := stp2.weak.transF R2 st3 fr2.alive
    refine ⟨?_, fun b o hb hw e => let ⟨sl, e', q⟩ := st4.keepS b o hb hw e; ⟨sl, hk b _ (by rintro rfl; rw [c0] at e; cases e) e', q⟩, st4.ext⟩
    obtain ⟨h4, t4, e4⟩ := st4.same
    rw [e4]; exact ⟨_, _, rfl⟩

theorem s_if {t : Expr} {a b : List Stmt} {pos : Pos} {it : IE} {ia ib : List IS} (ht : ST D Φ k c t it) (ha : SSs D Φ k c a ia) (hb : SSs D Φ k c b ib) : SS D Φ k c (.If t a b pos) (.ite it ia ib) := by
  intro env A γ H s L Q X hE hA R fr w
  refine wpAny_If (wpAny_mono (ht env A γ H s L _ _ hE hA R fr.l w) (fun v s1 p => ?_) fun _ _ x => x.toE fr R)
  obtain ⟨γ1, H1, st, R1, q⟩ := p
  cases v with
  | true => exact wpAny_mono (ha env A γ1 H1 s1 L Q X hE hA R1 (fr.stp R st) q) (fun _ _ x => x.back st.weak R1 (fr.stp R st)) fun _ _ x => x.back st.weak R1 (fr.stp R st)
  | false => exact wpAny_mono (hb env A γ1 H1 s1 L Q X hE hA R1 (fr.stp R st) q) (fun _ _ x => x.back st.weak R1 (fr.stp R st)) fun _ _ x => x.back st.weak R1 (fr.stp R st)

theorem s_while {t : Expr} {b : List Stmt} {pos : Pos} {it : IE} {ib : List IS} (ht : ST D Φ k c t it) (hb : SSs D Φ k c b ib) : SS D Φ k c (.While t b [] pos) (.while it ib) := by
  intro env A γ H s L Q X hE hA R fr w
  obtain ⟨n, w⟩ := w
  refine wpAny_While (codeAny_whileLoop (fun m s' => ∃ γ' H' L', Stp (ownA env) γ γ' s s' ∧ HRel D γ' H' s'.heap ∧ FRel D γ' env c.slots s'.heap L' ∧
    whileGo (fun L' H' K => (wp2 Φ it).T L' H' K noX) (fun L' H' K => wpSs Φ ib L' H' K noXS) m L' H' Q) ?_ n ⟨γ, H, L, Stp.refl, R, fr, w⟩)
  rintro m s' ⟨γ', H', L', st, R', fr', w⟩
  cases m with
  | zero => exact w.elim
  | succ m =>
    refine wpAny_mono (ht env A γ' H' s' L' _ _ hE hA R' fr'.l w) (fun v s1 p => ?_) fun _ _ x => x.no.elim
    obtain ⟨γ1, H1, st1, R1, q⟩ := p
    have st01 : Stp (ownA env) γ γ1 s s1 := st.transF R' st1.weak fr'.alive
    have fr1 := fr'.stp R' st1
    cases v with
    | true =>
      refine wpAny_mono (hb env A γ1 H1 s1 L' _ noXS hE hA R1 fr1 q) (fun fl s2 p => ?_) fun _ _ x => x.no.elim
      obtain ⟨γ2, H2, L2, F, st2, R2, fr2, hf, q2⟩ := p
      have st02 := st01.transF R1 st2 fr1.alive
      cases fl <;> cases F <;> simp only [FlRep] at hf
      · exact ⟨m, Nat.lt_succ_self _, γ2, H2, L2, st02, R2, fr2, q2⟩
      · exact ⟨γ2, H2, L2, .next, st02, R2, fr2, trivial, q2⟩
      · exact ⟨m, Nat.lt_succ_self _, γ2, H2, L2, st02, R2, fr2, q2⟩
      · exact ⟨γ2, H2, L2, .ret _, st02, R2, fr2, hf, q2⟩
    | false => exact wpAny_execs_nil ⟨γ1, H1, L', .next, st01, R1, fr1, trivial, q⟩

theorem s_for {n : Nat} {x : Str} {px pos : Pos} {iter : Expr} {b : List Stmt} {kk : SrcK} {ss : List IE} {ib : List IS} {i : Nat} (g : GOk D c.G) (so : SlotsOk c) (ih : ∀ e ie, compE n c e = some ie → SE D Φ k c e ie) (hs : slotV c x = some i)
    (hsrc : compSrc (compE n c) c iter = some (kk, ss)) (hb : SSs D Φ k c b ib) : SS D Φ k c (.For (.Name x px) iter b [] pos) (.for [i] kk ss ib) := by
  intro env A γ H s L Q X hE hA R fr w
  refine wpAny_For (wpAny_mono (src_ok (K := fun l st H1 => forGo (fun L' H' K => wpSs Φ ib L' H' K noXS) st [i] l L H1 Q) g ih hsrc hE hA R fr.l w) (fun xv s1 h1 => wpAny_mono h1 (fun it s2 h2 => ?_) fun _ _ x => x.toE fr R) fun _ _ x => x.toE fr R) (noSetIter hsrc env)
  obtain ⟨γ2, H2, I, fp, l, st, Inv, rfl, stp2, R2, itr, iv, fps, hI0, hst, hlen, w2⟩ := h2
  have fr2 := fr.stp R stp2
  have IB := base_none R hI0
  have fpo : ∀ b ∈ fp, b ∉ ownA env := fun b hb hm => by
    rcases (fps b hb).2.2 with q | ⟨ws, q⟩
    · subst q; obtain ⟨o, e⟩ := fr.alive _ hm; rw [hI0] at e; cases e
    · exact (fr2.own b hm).2.2.2 ws q
  refine codeAny_forLoop (fun m s' => ∃ j γ' H' L', m = l.length - j ∧ j ≤ l.length ∧ Stp (ownA env) γ γ' s s' ∧ HRel D γ' H' s'.heap ∧ FRel D γ' env c.slots s'.heap L' ∧ Inv γ' j s'.heap ∧ st H' ∧ (∀ b ∈ fp, b ∉ γ' ∧ ∃ o, s'.heap.get? b = some o) ∧
    forGo (fun L' H' K => wpSs Φ ib L' H' K noXS) st [i] (l.drop j) L' H' Q) ?_ l.length ⟨0, γ2, H2, L, rfl, Nat.zero_le _, stp2.weak, R2, fr2, iv, hst, fun b hb => ⟨(fps b hb).1, (fps b hb).2.1⟩, w2⟩
  rintro m s' ⟨j, γ', H', L', rfl, hj, st', R', fr', iv', hst', fp', w'⟩
  have hIg : I ∉ γ' := (fp' I itr.mem).1
  have nt := fun ws => itr.notTup γ' j s'.heap ws iv'
  have hIo : I ∉ ownA env := fpo I itr.mem
  have change : ∀ {h1 : Heap} {tk : Nat}, (∀ b o, b ≠ I → s'.heap.get? b = some o → h1.get? b = some o) → Stp (ownA env) γ γ' s { s' with heap := h1, toks := tk } ∧ HRel D γ' H' h1 ∧ FRel D γ' env c.slots h1 L' := by
    intro h1 tk hk
    have tt : ∀ a ws, TupAt s'.heap a ws → TupAt h1 a ws := fun a ws q => tupAt_but hk nt q
    refine ⟨⟨?_, fun b o hb hw e => let ⟨sl, e', q⟩ := st'.keepS b o hb hw e; ⟨sl, hk b _ (by rintro rfl; rw [hI0] at e; cases e) e', q⟩, st'.ext⟩, R'.butN hk hIg IB nt (R.frs.ne hI0), ⟨⟨?_, ?_, fr'.l.nin⟩, ?_, fr'.apart, fr'.above, fr'.top⟩⟩
    · obtain ⟨h4, t4, e4⟩ := st'.same
      rw [e4]; exact ⟨_, _, rfl⟩
    · obtain ⟨m2, hn2, f2⟩ := fr'.l.ns
      refine ⟨m2, hn2.at' fun o e => hk _ o (fun q => hIo (q ▸ List.mem_cons_self)) e, fun z j V h1 h2 h3 => ?_⟩
      obtain ⟨v, e1, e2⟩ := f2 z j V h1 h2 h3
      exact ⟨v, e1, Rep.mono ⟨[], by simp⟩ tt e2⟩
    · intro z hz
      obtain ⟨ca, u, e1, ⟨o, eo, ed⟩, e3, e4⟩ := fr'.l.cel z hz
      refine ⟨ca, u, e1, ⟨o, hk _ _ (fun q => hIo (q ▸ lookup_cell_mem e1)) eo, ed⟩, e3, fun j V h1 h2 => ?_⟩
      obtain ⟨v, e5, e6⟩ := e4 j V h1 h2
      exact ⟨v, e5, Rep.mono ⟨[], by simp⟩ tt e6⟩
    · intro a ha
      obtain ⟨a1, a2, ⟨o, e⟩, a3⟩ := fr'.own a ha
      have e' := hk a o (fun q => hIo (q ▸ ha)) e
      exact ⟨a1, a2, ⟨o, e'⟩, notTup_same e e' a3⟩
  by_cases hlt : j < l.length
  · have hW : l[j]? = some l[j] := by simp [hlt]
    rw [List.drop_eq_getElem_cons hlt] at w'
    obtain ⟨L1, hb1, w'⟩ := oK_elim w'
    simp only [bindVars, Option.some.injEq] at hb1
    subst hb1
    refine itr.next γ' H' s' j _ _ _ hW R' hIg hst' iv' fun v h1 tk1 hI1 hk1 iv1 rv1 => ?_
    obtain ⟨stc, Rc, frc⟩ := change (tk := tk1) hk1
    show wpAny D.M A (assign (.Name x px) env v) _ _ _
    refine wpAny_assign_Name (wpAny_mono (store_ok (s := { s' with heap := h1, toks := tk1 }) hE so Rc frc hs rv1) (fun _ s3 p => ?_) fun _ _ x => x)
    obtain ⟨st3, R3, fr3⟩ := p
    have stc3 : Stp (ownA env) γ γ' s s3 := stc.transF (s1 := { s' with heap := h1, toks := tk1 }) Rc st3 (FRel.alive (s := { s' with heap := h1, toks := tk1 }) frc)
    have tt3 : ∀ a ws, TupAt h1 a ws → TupAt s3.heap a ws := fun a ws q => TupAt.stp (s := { s' with heap := h1, toks := tk1 }) Rc st3 (fun x hx => (frc.own x hx).2.2.2) q
    have fp1 : ∀ b ∈ fp, b ∉ γ' ∧ ∃ o, h1.get? b = some o := fun b hb => by
      refine ⟨(fp' b hb).1, ?_⟩
      by_cases hbI : b = I
      · subst hbI; exact hI1
      · obtain ⟨o, e⟩ := (fp' b hb).2; exact ⟨o, hk1 _ _ hbI e⟩
    have fp3 : ∀ b ∈ fp, b ∉ γ' ∧ ∃ o, s3.heap.get? b = some o := fun b hb => by
      obtain ⟨a, o, e⟩ := fp1 b hb
      exact ⟨a, o, st3.keep b o a (fpo b hb) (itr.nd γ' (j + 1) h1 iv1 b hb o e) e⟩
    have iv3 : Inv γ' (j + 1) s3.heap := itr.frame γ' γ' (j + 1) h1 s3.heap iv1 ⟨[], by simp⟩ (fun b hb o e => st3.keep b o (fp1 b hb).1 (fpo b hb) (itr.nd γ' (j + 1) h1 iv1 b hb o e) e) tt3
    refine wpAny_mono (hb env A γ' H' s3 _ _ noXS hE hA R3 fr3 w') (fun fl s4 p => ?_) fun _ _ x => x.no.elim
    obtain ⟨γ4, H4, L4, F, st4, R4, fr4, hf, q4⟩ := p
    have stc4 := stc3.transF R3 st4 fr3.alive
    have ext4 : ∃ δ, γ4 = γ' ++ δ := let ⟨δ, e, _⟩ := st4.ext; ⟨δ, e⟩
    have tt4 : ∀ a ws, TupAt s3.heap a ws → TupAt s4.heap a ws := fun a ws q => TupAt.stp R3 st4 (fun x hx => (fr3.own x hx).2.2.2) q
    have go : st H4 ∧ forGo (fun L' H' K => wpSs Φ ib L' H' K noXS) st [i] (l.drop (j + 1)) L4 H4 Q → ∃ m, m < l.length - j ∧ ∃ j γ' H' L', m = l.length - j ∧ j ≤ l.length ∧ Stp (ownA env) γ γ' s s4 ∧ HRel D γ' H' s4.heap ∧ FRel D γ' env c.slots s4.heap L' ∧ Inv γ' j s4.heap ∧ st H' ∧ (∀ b ∈ fp, b ∉ γ' ∧ ∃ o, s4.heap.get? b = some o) ∧
        forGo (fun L' H' K => wpSs Φ ib L' H' K noXS) st [i] (l.drop j) L' H' Q := fun q => by
      refine ⟨l.length - (j + 1), by omega, j + 1, γ4, H4, L4, rfl, hlt, stc4, R4, fr4, ?_, q.1, ?_, q.2⟩
      · exact itr.frame γ' γ4 (j + 1) s3.heap s4.heap iv3 ext4 (fun b hb o e => st4.keep b o (fp3 b hb).1 (fpo b hb) (itr.nd γ' (j + 1) s3.heap iv3 b hb o e) e) tt4
      · intro b hb
        obtain ⟨a, o, e⟩ := fp3 b hb
        have e' := st4.keep b o a (fpo b hb) (itr.nd γ' (j + 1) s3.heap iv3 b hb o e) e
        refine ⟨?_, o, e'⟩
        obtain ⟨δ, ed, fd⟩ := st4.ext
        subst ed
        intro q
        rcases List.mem_append.mp q with q | q
        · exact a q
        · rw [fd b q] at e; cases e
    cases fl <;> cases F <;> simp only [FlRep] at hf
    · exact go q4
    · exact ⟨γ4, H4, L4, .next, stc4, R4, fr4, trivial, q4⟩
    · exact go q4
    · exact ⟨γ4, H4, L4, .ret _, stc4, R4, fr4, hf, q4⟩
  · have hin : j = l.length := by omega
    subst hin
    rw [List.drop_length] at w'
    refine itr.done γ' H' s' _ _ R' hst' iv' fun h1 tk1 hk1 => ?_
    obtain ⟨stc, Rc, frc⟩ := change (tk := tk1) hk1
    exact wpAny_execs_nil ⟨γ', H', L', .next, stc, Rc, frc, trivial, w'⟩
end
end Mine

set_option autoImplicit false
/- What is raised: it is noted in a frame, lands, or leaves. -/
namespace Mine
open PySem PyProof.Rows

noncomputable def frA (D : Wd) : List Addr := D.fr.filterMap (·.frame)
theorem FrsOk.at {D : Wd} {h : Heap} (f : FrsOk D h) {b : Addr} (hb : b ∈ frA D) : D.hB.get? b = none ∧ ∃ o, h.get? b = some o ∧ ¬ NotD o := by
  obtain ⟨e, he, hf⟩ := List.mem_filterMap.mp hb
  obtain ⟨k, L, o, a, b', c, d⟩ := f e he
  rw [hf] at a; cases a
  exact ⟨b', o, c, d⟩
theorem frsFun {h base : Heap} : ∀ {l : List Env}, (∀ e ∈ l, e.scope.kind = .function ∧ ∃ (L : Addr) (o : Obj), e.frame = some L ∧ base.get? L = none ∧ h.get? L = some o ∧ ¬ NotD o) → h.FunFrames base l
  | [], _ => trivial
  | e :: r, f => by
    obtain ⟨k, L, o, a, b, c, d⟩ := f e List.mem_cons_self
    exact ⟨(by rw [k]; intro q; cases q), ⟨L, o, a, b, c, fun vs q => d (notD_fields q)⟩, frsFun fun e he => f e (List.mem_cons_of_mem _ he)⟩

structure Land (ex : List Addr) (h h' : Heap) : Prop where
  stays : ∀ b o, b ∉ ex → h.get? b = some o → h'.get? b = some o
  up : h.UpToSlots h'
structure ExF (D : Wd) (s : Shared) (h : Heap) (ex : List Addr) : Prop where
  each : ∀ b ∈ ex, b ∈ frA D ∨ (s.heap.get? b = none ∧ D.hB.get? b = none ∧ ∃ o vs, h.get? b = some o ∧ o.data = .fields vs)
  frs : ∀ b ∈ frA D, b ∈ ex

theorem Land.of {ex : List Addr} {h h' : Heap} (st : (PySem.W.hideAll h ex).StaysIn h') (up : h.UpToSlots h') : Land ex h h' := ⟨fun b o hb e => st b o (PySem.W.hideAll_get _ e hb), up⟩

section
variable {D : Wd} {γ γ1 γ0 : List Addr} {H H1 H0 : Hp} {s s1 : Shared} {env : Env} {slots : List (Str × Nat)} {L : Lc} {ex : List Addr} {h h' : Heap}

theorem Land.same (l : Land ex h h') (F : FrsOk D h) (X : ExF D s h ex) {b : Addr} {o : Obj} (nd : NotD o) (nf : ∀ vs, o.data ≠ .fields vs) (e : h.get? b = some o) : h'.get? b = some o :=
  l.stays b o (fun hb => by
    rcases X.each b hb with q | ⟨_, _, o', vs, e', d⟩
    · obtain ⟨_, o', e', d⟩ := F.at q
      rw [e] at e'; cases e'; exact d nd
    · rw [e] at e'; cases e'; exact nf vs d) e
theorem Land.tup (l : Land ex h h') (F : FrsOk D h) (X : ExF D s h ex) {a : Addr} {vs : List Value} (t : TupAt h a vs) : TupAt h' a vs := by
  obtain ⟨n, e, z⟩ := t
  exact ⟨n, l.same F X (notD_seq rfl) (fun vs q => by cases q) e, z⟩
theorem Land.frs (l : Land ex h h') (F : FrsOk D h) : FrsOk D h' := fun e he => by
  obtain ⟨k, L, o, a, b, c, d⟩ := F e he
  obtain ⟨sl, e'⟩ := l.up L o c fun vs q => d (notD_fields q)
  exact ⟨k, L, _, a, b, e', fun q => d q⟩
theorem Land.base (l : Land ex h h') (R : HRel D γ H h) (X : ExF D s h ex) : ∀ b o, D.hB.get? b = some o → h'.get? b = some o := fun b o e => l.stays b o (fun hb => by
    rcases X.each b hb with q | ⟨_, q, _⟩
    · obtain ⟨q, _⟩ := R.frs.at q; rw [e] at q; cases q
    · rw [e] at q; cases q) (R.base b o e)
theorem Land.rep (l : Land ex h h') (F : FrsOk D h) (X : ExF D s h ex) {v : Value} {V : V} (r : Rep D γ h v V) : Rep D γ h' v V := Rep.mono ⟨[], by simp⟩ (fun _ _ => l.tup F X) r
theorem Land.rel (l : Land ex h h') (R : HRel D γ H h) (X : ExF D s h ex) : HRel D γ H h' where
  len := R.len
  nodup := R.nodup
  objs := fun i a o e1 e2 => by
    have := R.objs i a o e1 e2
    cases o with
    | list xs =>
      obtain ⟨vs, n, e, r, z⟩ := this
      exact ⟨vs, n, l.same R.frs X (notD_seq rfl) (fun vs q => by cases q) e, Reps.mono ⟨[], by simp⟩ (fun _ _ => l.tup R.frs X) r, z⟩
  fresh := R.fresh
  base := l.base R X
  frs := l.frs R.frs
theorem Land.stp {wr : List Addr} (l : Land ex s1.heap h') (F : FrsOk D s1.heap) (X : ExF D s s1.heap ex) (st : Stp wr γ γ1 s s1) : Stp wr γ γ1 s { s1 with heap := h' } where
  same := by
    obtain ⟨h1, t1, e⟩ := st.same
    exact ⟨h', t1, by rw [e]⟩
  keepS := fun b o hb hw e => by
    obtain ⟨sl, e1, q⟩ := st.keepS b o hb hw e
    by_cases nd : NotD o
    · refine ⟨sl, l.stays b _ (fun hx => ?_) e1, q⟩
      rcases X.each b hx with q' | ⟨q', _⟩
      · obtain ⟨_, o', e', d⟩ := F.at q'
        rw [e1] at e'; cases e'; exact d nd
      · rw [e] at q'; cases q'
    · obtain ⟨sl2, e2⟩ := l.up b _ e1 fun vs q => nd (notD_fields q)
      exact ⟨sl2, e2, fun q => absurd q nd⟩
  ext := st.ext
theorem Land.frel (l : Land ex h h') (R : HRel D γ H h) (X : ExF D s h ex) (alive : ∀ a ∈ ownA env, ∃ o, s.heap.get? a = some o) (f : FRel D γ env slots h L) : FRel D γ env slots h' L where
  l := {
    ns := by
      obtain ⟨m, n, r⟩ := f.l.ns
      refine ⟨m, l.up.ns n, fun x i V a b c => ?_⟩
      obtain ⟨v, e, q⟩ := r x i V a b c
      exact ⟨v, e, l.rep R.frs X q⟩
    cel := fun x hx => by
      obtain ⟨c, u, a, ⟨o, ho, hd⟩, hc, r⟩ := f.l.cel x hx
      refine ⟨c, u, a, ⟨o, l.same R.frs X (fun es n q => by rw [hd] at q; cases q) (fun vs q => by rw [hd] at q; cases q) ho, hd⟩, hc, fun i V b d => ?_⟩
      obtain ⟨v, e, q⟩ := r i V b d
      exact ⟨v, e, l.rep R.frs X q⟩
    nin := f.l.nin }
  own := fun a ha => by
    obtain ⟨a1, a2, ⟨o, e⟩, a3⟩ := f.own a ha
    by_cases hx : a ∈ ex
    · rcases X.each a hx with q | ⟨q, _⟩
      · obtain ⟨_, o', e', d⟩ := R.frs.at q
        rw [e] at e'; cases e'
        obtain ⟨sl, e2⟩ := l.up a o e fun vs q => d (notD_fields q)
        refine ⟨a1, a2, ⟨_, e2⟩, fun ws t => d ?_⟩
        obtain ⟨n, t1, _⟩ := t
        rw [e2] at t1
        have hd : o.data = .seq ws.toArray n := congrArg Obj.data (Option.some.inj t1)
        exact notD_seq hd
      · obtain ⟨o', e'⟩ := alive a ha
        rw [e'] at q; cases q
    · have e2 := l.stays a o hx e
      exact ⟨a1, a2, ⟨o, e2⟩, notTup_same e e2 a3⟩
  apart := f.apart
  above := f.above
  top := f.top
end

section
variable {D : Wd} {γ γ0 : List Addr} {H H0 : Hp} {s s1 : Shared} {env : Env} {outer : List Env} {A : Around} {E : Value → Shared → Prop} {v : Value} {x : Exc} {La : Addr} {Q : Unit → Shared → Prop}

/- what is known of the raised thing, whether new or noted -/
theorem ex_of (R0 : HRel D γ0 H0 s.heap) (R : HRel D γ H s1.heap) (hx : XNew D s s1.heap v x ∨ XFly D s s1.heap v x) :
    ∃ a oe vs C a0 ex, v = .ref a ∧ D.mg x.cls = some (.ref C) ∧ s.heap.get? a = none ∧ a ∈ ex ∧ ExF D s s1.heap ex ∧ s1.heap.get? a = some oe ∧ oe.cls = .ref C ∧ oe.data = .fields vs ∧ vs[0]? = some a0 ∧
      (vs[1]? = some .none ∨ s1.heap.TracedW (PySem.W.hideAll s1.heap ex) a (.ref C) a0) := by
  rcases hx with ⟨a, oe, vs, C, a0, e1, e2, e3, e4, e5, e6, e7, e8⟩ | ⟨a, oe, vs, C, a0, T, oT, ts, e1, e2, e3, e4, e5, e6, e7, e8, e9, e10, e11, e12, e13⟩
  · refine ⟨a, oe, vs, C, a0, frA D ++ [a], e1, e5, e2, by simp, ⟨fun b hb => ?_, fun b hb => List.mem_append_left _ hb⟩, e3, e4, e6, e7, .inl e8⟩
    rcases List.mem_append.mp hb with q | q
    · exact .inl q
    · simp at q; subst q; exact .inr ⟨e2, base_none R0 e2, oe, vs, e3, e6⟩
  · refine ⟨a, oe, vs, C, a0, frA D ++ [a, T], e1, e5, e2, by simp, ⟨fun b hb => ?_, fun b hb => List.mem_append_left _ hb⟩, e3, e4, e6, e7, .inr ⟨oe, vs, T, oT, ts, e3, ⟨e4, e7⟩, e6, e8, PySem.W.hideAll_none _ (by simp), e10, e11, e12, e13⟩⟩
    rcases List.mem_append.mp hb with q | q
    · exact .inl q
    · simp at q
      rcases q with q | q
      · subst q; exact .inr ⟨e2, base_none R0 e2, oe, vs, e3, e6⟩
      · subst q; exact .inr ⟨e9, base_none R0 e9, oT, ts, e11, e12⟩

theorem base_stays {h : Heap} {ex : List Addr} : (PySem.W.hideAll h ex).StaysIn h := fun _ _ e => PySem.W.of_hideAll _ e
theorem frs_fun {h : Heap} {ex : List Addr} (F : FrsOk D h) (X : ExF D s h ex) : h.FunFrames (PySem.W.hideAll h ex) D.fr := frsFun fun e he => by
  obtain ⟨k, L, o, a, b, c, d⟩ := F e he
  exact ⟨k, L, o, a, PySem.W.hideAll_none _ (X.frs L (List.mem_filterMap.mpr ⟨e, he, a⟩)), c, d⟩

theorem note_any (hfr : A.frames = some D.fr) (R0 : HRel D γ0 H0 s.heap) (R : HRel D γ H s1.heap) (htop : D.fr = env :: outer) (hf : env.frame = some La) (hx : XNew D s s1.heap v x ∨ XFly D s s1.heap v x)
    (h : ∀ a C a0 ex h', v = .ref a → D.mg x.cls = some (.ref C) → s.heap.get? a = none → a ∈ ex → ExF D s s1.heap ex → s1.heap.UpToSlots h' → Heap.HeldW (PySem.W.hideAll s1.heap ex) D.fr a (.ref C) a0 La h' → Q () { s1 with heap := h' }) :
    wpAny D.M A (noteFrame v env) Q E s1 := by
  obtain ⟨a, oe, vs, C, a0, ex, rfl, hm, hn, hax, X, he, hc, hd, h0, h1⟩ := ex_of R0 R hx
  have F := frs_fun R.frs X
  have hen : (PySem.W.hideAll s1.heap ex).get? a = none := PySem.W.hideAll_none _ hax
  have fin : ∀ h', Heap.NotedW (PySem.W.hideAll s1.heap ex) D.fr a (.ref C) a0 (rawInt La) s1.heap h' → Q () { s1 with heap := h' } := fun h' ⟨k1, k2, k3, k4⟩ => h a C a0 ex h' rfl hm hn hax X k4 ⟨k1, hen, k2, k3⟩
  rw [htop] at F fin hfr
  rcases h1 with h1 | h1
  · unfold noteFrame
    simp only [hf]
    refine wpAny_bind (wpAny_field he hd h1 ?_)
    rw [if_neg (by decide)]
    exact wpAny_entryW hfr F hf he base_stays hen hd (Array.getElem?_eq_some_iff.mp h1).1 h0 (by rw [hc]; exact fin)
  · exact wpAny_noteFrame_onW hfr F hf h1 base_stays hen fin

theorem leave_any (hfr : A.frames = some D.fr) (R0 : HRel D γ0 H0 s.heap) (R : HRel D γ H s1.heap) (htop : D.fr = env :: outer) (hf : env.frame = some La) (hx : XNew D s s1.heap v x ∨ XFly D s s1.heap v x)
    (h : ∀ a C a0 ex h', v = .ref a → D.mg x.cls = some (.ref C) → s.heap.get? a = none → a ∈ ex → ExF D s s1.heap ex → Land ex s1.heap h' → h'.TracedW (PySem.W.hideAll s1.heap ex) a (.ref C) a0 → Q () { s1 with heap := h' }) :
    wpAny D.M A (leaving env v) Q E s1 := by
  obtain ⟨a, oe, vs, C, a0, ex, rfl, hm, hn, hax, X, he, hc, hd, h0, h1⟩ := ex_of R0 R hx
  have F := frs_fun R.frs X
  have hen : (PySem.W.hideAll s1.heap ex).get? a = none := PySem.W.hideAll_none _ hax
  have fin : ∀ h', Heap.LeftW (PySem.W.hideAll s1.heap ex) D.fr a (.ref C) a0 s1.heap h' → Q () { s1 with heap := h' } := fun h' ⟨k1, k2, k3, k4⟩ => h a C a0 ex h' rfl hm hn hax X (Land.of k1 k4) k3
  rw [htop] at F fin hfr
  rcases h1 with h1 | h1
  · exact wpAny_leaving_firstW hfr F hf he base_stays hen hd h1 h0 (by rw [hc]; exact fin)
  · exact wpAny_leaving_nextW hfr F hf h1 base_stays hen fin

theorem fly_of {ex : List Addr} {h' : Heap} {a C : Addr} {a0 : Value} (back : ∀ b, s1.heap.get? b = none → s.heap.get? b = none) (F : FrsOk D s1.heap) (X : ExF D s s1.heap ex) (l : Land ex s1.heap h') (hm : D.mg x.cls = some (.ref C)) (hn : s.heap.get? a = none)
    (t : h'.TracedW (PySem.W.hideAll s1.heap ex) a (.ref C) a0) : XFly D s h' (.ref a) x := by
  obtain ⟨oe, vs, T, oT, ts, e1, ⟨e2, e3⟩, e4, e5, e6, e7, e8, e9, e10⟩ := t
  refine ⟨a, oe, vs, C, a0, T, oT, ts, rfl, hn, e1, e2, hm, e4, e3, e5, ?_, e7, e8, e9, e10⟩
  by_cases hT : T ∈ ex
  · rcases X.each T hT with q | ⟨q, _⟩
    · obtain ⟨_, o, e, d⟩ := F.at q
      obtain ⟨sl, e'⟩ := l.up T o e fun vs q => d (notD_fields q)
      rw [e8] at e'
      have hd : oT.data = o.data := by rw [Option.some.inj e']
      exact absurd (notD_fields (hd ▸ e9)) d
    · exact q
  · refine back T ?_
    cases e : s1.heap.get? T with
    | none => rfl
    | some o => rw [PySem.W.hideAll_get _ e hT] at e6; cases e6
end
end Mine

set_option autoImplicit false
/- Statements together; a call of a def. -/
namespace Mine
open PySem PyProof.Rows

section
variable {D : Wd} {Φ : Orc} {k : Nat}

theorem noSwap {e : Expr} {n : Nat} {c : CC} {ie : IE} (h : compE n c e = some ie) (hl : ∀ a b d f, e ≠ .ListComp a b d f) (t : Option Expr) (l : Nat) (env : Env) : swapsWith e t l env = pure false := by
  cases e <;> first | rfl | exact absurd rfl (hl _ _ _ _) | (cases n <;> exact nomatch (show (none : Option IE) = some ie from h))

theorem s_assign_any (hO : OrcOk D k Φ) {n : Nat} {c : CC} (g : GOk D c.G) (so : SlotsOk c) {x : Str} {px pos : Pos} {e : Expr} {i : Nat} {ie : IE} (hz : isZipC e = false) (h1 : slotV c x = some i) (h2 : compE n c e = some ie) : SS D Φ k c (.Assign [.Name x px] e pos) (.assign i ie) := by
  by_cases hl : ∃ a b d f, e = .ListComp a b d f
  · obtain ⟨elt, gens, scope, pos', rfl⟩ := hl
    cases n with
    | zero => cases h2
    | succ n =>
      rcases comp_inv h2 with ⟨y, py, iter, ifs, kk, ss, ielt, iifs, rfl, ok, e1, e2, e3, rfl⟩ | hzz
      · exact s_assign_comp g so (fun c e ie g h => soundE hO n c e ie g h) ok e1 e2 e3 (noSetIter e1) h1
      · cases hzz
  · exact s_assign so (soundE hO n c e ie g h2).1 h1 (fun env _ => noSwap h2 (fun a b d f q => hl ⟨a, b, d, f, q⟩) _ _ env)

theorem soundS (hO : OrcOk D k Φ) : ∀ (n : Nat) (c : CC) (st : Stmt) (is : IS), GOk D c.G → SlotsOk c → compS n c st = some is → SS D Φ k c st is := by
  intro n
  induction n with
  | zero => intro c st is g so h; cases h
  | succ n ih =>
    intro c st is g so h
    have ihE : ∀ e ie, compE n c e = some ie → Both D Φ k c e ie := fun e ie h => soundE hO n c e ie g h
    have ihS := sss_of (f := compS n c) (fun st is h => ih c st is g so h)
    cases st with
    | Expr e p =>
      obtain ⟨hc, h⟩ := onlyIf_some h
      obtain ⟨a, ha, rfl⟩ := Option.map_eq_some_iff.mp h
      exact s_expr (ihE _ _ ha).1 (by simpa using hc)
    | Assign ts e p =>
      cases ts with
      | nil => exact nomatch (show (none : Option IS) = some is from h)
      | cons t ts =>
        cases ts with
        | cons t2 ts => cases t <;> exact nomatch (show (none : Option IS) = some is from h)
        | nil =>
          cases t with
          | Name x px =>
            obtain ⟨hz, h⟩ := onlyIf_some (b := !isZipC e) (x := oTwo IS.assign (slotV c x) (compE n c e)) h
            obtain ⟨a, b, h1, h2, rfl⟩ := oTwo_some h; exact s_assign_any hO g so (by simpa using hz) h1 h2
          | Subscript o i p' =>
            obtain ⟨hc, h⟩ := onlyIf_some h
            obtain ⟨a, b, d, h1, h2, h3, rfl⟩ := oThree_some h
            exact s_set (ihE _ _ h1).1 (ihE _ _ h2).1 (ihE _ _ h3).1 (fun env => noSwap h1 (fun a b d f q => by subst q; simp [isComp] at hc) _ _ env)
          | _ => exact nomatch (show (none : Option IS) = some is from h)
    | Return e p =>
      cases e with
      | none =>
        cases (show some IS.retNone = some is from h)
        intro env A γ H s L Q X hE hA R fr w
        exact wpAny_Return_none ⟨γ, H, L, .ret .none, Stp.refl, R, fr, by simp only [FlRep, Rep], w⟩
      | some e => obtain ⟨a, ha, rfl⟩ := Option.map_eq_some_iff.mp h; exact s_ret (ihE _ _ ha).1
    | If t a b p => obtain ⟨t, a, b, h1, h2, h3, rfl⟩ := oThree_some h; exact s_if (ihE _ _ h1).2 (ihS _ _ h2) (ihS _ _ h3)
    | While t b e p =>
      cases e with
      | nil => obtain ⟨t, b, h1, h2, rfl⟩ := oTwo_some h; exact s_while (ihE _ _ h1).2 (ihS _ _ h2)
      | cons e es => exact nomatch (show (none : Option IS) = some is from h)
    | For t iter b e p =>
      cases e with
      | cons e es => cases t <;> exact nomatch (show (none : Option IS) = some is from h)
      | nil =>
        cases t with
        | Name x px => obtain ⟨i, ks, b, h1, h2, h3, rfl⟩ := oThree_some h; exact s_for g so (fun e ie h => (ihE e ie h).1) h1 h2 (ihS _ _ h3)
        | _ => exact nomatch (show (none : Option IS) = some is from h)
    | Raise e d p =>
      cases (show some (IS.raise "" []) = some is from h)
      intro env A γ H s L Q X hE hA R fr w
      exact w.elim
    | Pass p =>
      cases (show some IS.pass = some is from h)
      intro env A γ H s L Q X hE hA R fr w
      exact wpAny_Pass ⟨γ, H, L, .next, Stp.refl, R, fr, trivial, w⟩
    | Break p =>
      cases (show some IS.brk = some is from h)
      intro env A γ H s L Q X hE hA R fr w
      exact wpAny_Break ⟨γ, H, L, .brk, Stp.refl, R, fr, trivial, w⟩
    | Continue p =>
      cases (show some IS.cont = some is from h)
      intro env A γ H s L Q X hE hA R fr w
      exact wpAny_Continue ⟨γ, H, L, .cont, Stp.refl, R, fr, trivial, w⟩
    | _ => exact nomatch (show (none : Option IS) = some is from h)

theorem slotsGo_lookup : ∀ (names : List Str) (k : Nat) (x : Str) (i : Nat), (slotsGo names k).lookup x = some i → ∃ j, i = k + j ∧ names[j]? = some x
  | [], _, _, _, h => by simp [slotsGo] at h
  | y :: r, k, x, i, h => by
    simp only [slotsGo, List.lookup_cons] at h
    cases hxy : x == y with
    | true =>
      rw [hxy] at h
      simp only [Option.some.injEq] at h
      exact ⟨0, by omega, by simp; exact (by simpa using hxy : x = y).symm⟩
    | false =>
      rw [hxy] at h
      obtain ⟨j, e1, e2⟩ := slotsGo_lookup r (k + 1) x i h
      exact ⟨j + 1, by omega, by simpa using e2⟩

theorem bindL_spec {kindOf : Str → Option NameKind} : ∀ (binds : List (Str × Value)) (m : Str → Option Value) (x : Str), kindOf x = some .local → (binds.map (·.1)).Nodup → bindL kindOf binds m x = (binds.lookup x).or (m x)
  | [], m, x, _, _ => by simp [bindL]
  | (n, v) :: r, m, x, hx, hn => by
    simp only [List.map_cons, List.nodup_cons] at hn
    rw [bindL, bindL_spec r _ x hx hn.2, List.lookup_cons]
    cases hxn : x == n with
    | true =>
      have : x = n := by simpa using hxn
      subst this
      have hr : r.lookup x = none := by
        rw [List.lookup_eq_none_iff]
        intro p hp
        have : x ≠ p.1 := fun q => hn.1 (q ▸ List.mem_map_of_mem hp)
        simpa using this
      simp [hr, hx]
    | false =>
      have hne : x ≠ n := by simpa using hxn
      congr 1
      split
      · simp [hne]
      · rfl
theorem bindC_spec {kindOf : Str → Option NameKind} : ∀ (binds : List (Str × Value)) (m : Str → Option Value) (x : Str), kindOf x ≠ some .local → (binds.map (·.1)).Nodup → bindC kindOf binds m x = (binds.lookup x).or (m x)
  | [], m, x, _, _ => by simp [bindC]
  | (n, v) :: r, m, x, hx, hn => by
    simp only [List.map_cons, List.nodup_cons] at hn
    rw [bindC, bindC_spec r _ x hx hn.2, List.lookup_cons]
    cases hxn : x == n with
    | true =>
      have : x = n := by simpa using hxn
      subst this
      have hr : r.lookup x = none := by
        rw [List.lookup_eq_none_iff]
        intro p hp
        have : x ≠ p.1 := fun q => hn.1 (q ▸ List.mem_map_of_mem hp)
        simpa using this
      simp [hr, hx]
    | false =>
      have hne : x ≠ n := by simpa using hxn
      congr 1
      split
      · rfl
      · simp [hne]

theorem zip_lookup : ∀ (ps : List Str) (vals : List Value) (i : Nat) (x : Str) (v : Value), ps.Nodup → ps[i]? = some x → vals[i]? = some v → (ps.zip vals).lookup x = some v
  | p :: ps, [], i, x, v, _, _, h => by simp at h
  | p :: ps, w :: vals, 0, x, v, hn, h1, h2 => by
    simp at h1 h2; subst h1; subst h2; simp [List.lookup_cons]
  | p :: ps, w :: vals, i + 1, x, v, hn, h1, h2 => by
    simp only [List.nodup_cons] at hn
    simp at h1 h2
    have hne : (x == p) = false := by
      have : x ≠ p := fun q => hn.1 (q ▸ List.mem_of_getElem? h1)
      simpa using this
    rw [List.zip_cons_cons, List.lookup_cons, hne]
    exact zip_lookup ps vals i x v hn.2 h1 h2
  | [], _, _, _, _, _, h, _ => by simp at h

theorem cellsFrom_names : ∀ (names : List (Str × NameKind)) (n : Nat) (acc : List (Str × Addr)) (x : Str), x ∈ (cellsFrom n names acc).map (·.1) → x ∈ acc.map (·.1) ∨ (x, NameKind.cell) ∈ names
  | [], _, _, _, h => .inl h
  | (y, kd) :: r, n, acc, x, h => by
    unfold cellsFrom at h
    split at h
    · rename_i hk
      rcases cellsFrom_names r _ _ x h with q | q
      · simp only [List.map_cons, List.mem_cons] at q
        rcases q with q | q
        · subst q
          have : kd = .cell := by simpa using hk
          subst this
          exact .inr List.mem_cons_self
        · exact .inl q
      · exact .inr (List.mem_cons_of_mem _ q)
    · rcases cellsFrom_names r _ _ x h with q | q
      · exact .inl q
      · exact .inr (List.mem_cons_of_mem _ q)
theorem cellsFrom_nodup : ∀ (names : List (Str × NameKind)) (n : Nat) (acc : List (Str × Addr)), (names.map (·.1)).Nodup → (acc.map (·.1)).Nodup → (∀ x ∈ acc.map (·.1), x ∉ names.map (·.1)) → ((cellsFrom n names acc).map (·.1)).Nodup
  | [], _, _, _, h, _ => h
  | (y, kd) :: r, n, acc, hn, ha, hd => by
    simp only [List.map_cons, List.nodup_cons] at hn
    unfold cellsFrom
    split
    · refine cellsFrom_nodup r _ _ hn.2 ?_ ?_
      · simp only [List.map_cons, List.nodup_cons]
        exact ⟨fun q => hd y q (by simp), ha⟩
      · intro x hx
        simp only [List.map_cons, List.mem_cons] at hx
        rcases hx with q | q
        · subst q; exact hn.1
        · exact fun q' => hd x q (by simp at q' ⊢; exact .inr q')
    · exact cellsFrom_nodup r _ _ hn.2 ha (fun x hx q' => hd x hx (by simp at q' ⊢; exact .inr q'))
theorem lookup_of_nodup : ∀ {l : List (Str × Addr)} {n : Str} {a : Addr}, (l.map (·.1)).Nodup → (n, a) ∈ l → l.lookup n = some a
  | (m, b) :: r, n, a, hn, h => by
    simp only [List.map_cons, List.nodup_cons] at hn
    rw [List.lookup_cons]
    rcases List.mem_cons.mp h with q | q
    · cases q; simp
    · have : (n == m) = false := by
        have : n ≠ m := fun e => hn.1 (e ▸ List.mem_map_of_mem q)
        simpa using this
      rw [this]
      exact lookup_of_nodup hn.2 q

/- what is known of a def of the text -/
structure FnOk (D : Wd) (G : List (Str × V)) (x : Str) (f : Fn) : Prop where
  at' : ∃ a o name params body scope pm cd doc ps, D.mg x = some (.ref a) ∧ D.hB.get? a = some o ∧ o.data = .func (Calls.docDef name params body scope pm cd doc) ∧ D.hB.CodeRec cd name ∧
    compFn G ps body scope = some f ∧ (∀ vals : List Value, vals.length = ps.length → bindArgs (Calls.docDef name params body scope pm cd doc) ⟨vals, []⟩ = pure (ps.zip vals)) ∧
    ps.Nodup ∧ (scope.names.map (·.1)).Nodup ∧ (∀ p ∈ ps, scope.names.lookup p = some .local ∨ scope.names.lookup p = some .cell) ∧ scope.isCoroutine = false ∧ scope.isGenerator = false ∧ scope.kind = .function

mutual
theorem Rep.wd {D D' : Wd} (hm : D'.mg = D.mg) (hB : D'.hB = D.hB) {γ : List Addr} {h : Heap} {v : Value} : ∀ {V : V}, Rep D γ h v V → Rep D' γ h v V
  | .none, x => by simpa only [Rep] using x
  | .bool _, x => by simpa only [Rep] using x
  | .int _, x => by simpa only [Rep] using x
  | .str _, x => by simpa only [Rep] using x
  | .opq _, x => by simpa only [Rep] using x
  | .tup l, x => by
    simp only [Rep] at x ⊢
    obtain ⟨a, vs, e, t, r⟩ := x
    exact ⟨a, vs, e, t, Reps.wd hm hB r⟩
  | .ref _, x => by simpa only [Rep] using x
  | .fn _, x => by simp only [Rep] at x ⊢; rw [hm]; exact x
  | .ty _, x => by simpa only [Rep] using x
  | .bi _, x => by simpa only [Rep] using x
  | .scr _, x => by simp only [Rep] at x ⊢; rw [hB]; exact x
  | .cls _ _, x => by simp only [Rep] at x ⊢; rw [hm]; exact x
theorem Reps.wd {D D' : Wd} (hm : D'.mg = D.mg) (hB : D'.hB = D.hB) {γ : List Addr} {h : Heap} {vs : List Value} : ∀ {l : List V}, Reps D γ h vs l → Reps D' γ h vs l
  | [], x => by simpa only [Reps] using x
  | V :: l, x => by
    simp only [Reps] at x ⊢
    obtain ⟨v, r, e, a, b⟩ := x
    exact ⟨v, r, e, Rep.wd hm hB a, Reps.wd hm hB b⟩
end
noncomputable abbrev Wd.on (D : Wd) (fr : List Env) : Wd := { D with fr := fr }
theorem HRel.on {D : Wd} {fr fr' : List Env} {γ : List Addr} {H : Hp} {h : Heap} (R : HRel (D.on fr) γ H h) (F : FrsOk (D.on fr') h) : HRel (D.on fr') γ H h where
  len := R.len
  nodup := R.nodup
  objs := fun i a o e1 e2 => by
    have := R.objs i a o e1 e2
    cases o with
    | list xs =>
      obtain ⟨vs, n, e, r, z⟩ := this
      exact ⟨vs, n, e, Reps.wd (D := D.on fr) (D' := D.on fr') rfl rfl r, z⟩
  fresh := R.fresh
  base := R.base
  frs := F
theorem GOk.on {D : Wd} {G : List (Str × V)} (g : GOk D G) (fr : List Env) : GOk (D.on fr) G where
  gns := g.gns
  bns := g.bns
  val := fun x V h => by
    obtain ⟨v, hv, r⟩ := g.val x V h
    exact ⟨v, hv, fun γ => Rep.wd (D := D) (D' := D.on fr) rfl rfl (r γ)⟩
  lim := g.lim
  cls := g.cls
  exs := g.exs

theorem fn_ok {G : List (Str × V)} (g0 : GOk D G) (hO : OrcOk D k Φ) {x : Str} {f : Fn} (fo : FnOk D G x f) : ∀ fr vs H Q X, wpFn Φ f vs H Q X → ∀ A γ s vals a, AOk (D.on fr) (k + 1) A → HRel (D.on fr) γ H s.heap → Reps (D.on fr) γ s.heap vals vs → D.mg x = some (.ref a) →
    (∃ o fd, D.hB.get? a = some o ∧ o.data = .func fd) ∧ wpAny D.M A (call (.ref a) vals) (PostV (D.on fr) γ s Q) (PostX (D.on fr) γ s X) s := by
  intro fr
  intro vs H Q X w A γ s vals a hA R rv hxa
  obtain ⟨a', o, name, params, body, scope, pm, cd, doc, ps, hx, ho, hd, hcd, hf, hb, hps, hnn, hk, hco, hgen, hkind⟩ := fo.at'
  rw [hxa] at hx; cases hx
  refine ⟨⟨o, _, ho, hd⟩, ?_⟩
  unfold compFn at hf
  simp only [Option.map_eq_some_iff] at hf
  obtain ⟨ib, hib, rfl⟩ := hf
  obtain ⟨hlen, w⟩ := w
  simp only at hlen
  have hvl : vals.length = ps.length := by rw [rv.length, hlen]
  have hz : (ps.zip vals).map (·.1) = ps := by rw [List.map_fst_zip]; omega
  have hzn : ((ps.zip vals).map (·.1)).Nodup := by rw [hz]; exact hps
  have kinds : ∀ y ∈ ps.zip vals, scope.names.lookup y.1 = some .local ∨ (scope.names.lookup y.1 = some .cell ∧ ((cellsFrom (s.heap.objs.size + 1) scope.names []).lookup y.1).isSome = true) := fun y hy => by
    have : y.1 ∈ ps := by rw [← hz]; exact List.mem_map_of_mem hy
    rcases hk y.1 this with q | q
    · exact .inl q
    · exact .inr ⟨q, PySem.W.cellsFrom_some _ _ _ (.inl q)⟩
  refine wpAny_call (codeAny_call_cells (fd := Calls.docDef name params body scope pm cd doc) (body := body) (binds := ps.zip vals) (Nat.lt_of_lt_of_le (Nat.lt_of_le_of_lt (Nat.le_add_right _ _) hA.depth) (by decide)) (R.base _ _ ho) hd (g0.lim.keeps R.base) (hcd.keeps R.base) rfl (hb vals hvl) rfl kinds (fun s1 ic => ?_) hco hgen hkind)
  generalize henv : callEnvC (Calls.docDef name params body scope pm cd doc) s.heap.objs.size a = env at ic ⊢
  have hko : ∀ y, env.kindOf y = scope.names.lookup y := fun y => by subst henv; rfl
  have hloc : env.locals = s.heap.objs.size := by subst henv; rfl
  have hcells : env.cells = cellsFrom (s.heap.objs.size + 1) scope.names [] := by subst henv; rfl
  let c : CC := { G, scope, slots := slotsGo (ownNames ps scope) 0, nxt := (ownNames ps scope).length }
  have g : GOk (D.on (env :: fr)) G := g0.on _
  have hE : EnvOk c env := ⟨by subst henv; rfl, hkind, by subst henv; rfl, by subst henv; rfl⟩
  have so : SlotsOk c := ⟨fun y z i h1 h2 => by
    obtain ⟨j, e1, e2⟩ := slotsGo_lookup _ _ _ _ h1
    obtain ⟨j', e1', e2'⟩ := slotsGo_lookup _ _ _ _ h2
    have : j = j' := by omega
    subst this
    rw [e2] at e2'; cases e2'; rfl⟩
  have new : ∀ b, s.heap.objs.size ≤ b → b ∉ γ ∧ D.hB.get? b = none := fun b hb => by
    have e : s.heap.get? b = none := by
      cases q : s.heap.get? b with
      | none => rfl
      | some o => exact absurd (Heap.lt_size q) (Nat.not_lt.mpr hb)
    exact ⟨(fun hm => by obtain ⟨o, e', _⟩ := R.alive hm; rw [e] at e'; cases e'), base_none R e⟩
  have keep := ic.toInCall.keep
  have tt : ∀ a ws, TupAt s.heap a ws → TupAt s1.heap a ws := fun _ _ q => tupAt_grow keep q
  have cn : ((env.cells).map (·.1)).Nodup := by rw [hcells]; exact cellsFrom_nodup _ _ _ hnn (by simp) (by simp)
  have ini : ∀ (y : Str) (i : Nat) (V : V), c.slots.lookup y = some i → (initL { names := (ownNames ps scope).length + 3, params := ps.length, body := ib } vs)[i]? = some (some V) → ∃ v, (ps.zip vals).lookup y = some v ∧ Rep (D.on (env :: fr)) γ s1.heap v V := by
    intro y i V hs hL
    obtain ⟨j, e1, e2⟩ := slotsGo_lookup _ _ _ _ hs
    have hij : i = j := by omega
    subst hij
    unfold initL at hL
    have hi : i < vs.length := by
      apply Classical.byContradiction
      intro hn
      rw [List.getElem?_append_right (by simp; omega), List.getElem?_replicate] at hL
      split at hL <;> cases hL
    rw [List.getElem?_append_left (by simpa using hi), List.getElem?_map] at hL
    simp only [Option.map_eq_some_iff, Option.some.injEq, exists_eq_right] at hL
    obtain ⟨v, hv, rvv⟩ := rv.get hL
    have hpi : ps[i]? = some y := by
      unfold ownNames at e2
      rw [List.getElem?_append_left (by omega)] at e2
      exact e2
    exact ⟨v, zip_lookup ps vals i y v hps hpi hv, Rep.wd (D := D.on fr) (D' := D.on (env :: fr)) rfl rfl (Rep.mono ⟨[], by simp⟩ tt rvv)⟩
  have frl : FRel (D.on (env :: fr)) γ env c.slots s1.heap (initL { names := (ownNames ps scope).length + 3, params := ps.length, body := ib } vs) := by
    refine ⟨⟨⟨_, ic.toInCall.ns, ?_⟩, ?_, ?_⟩, ?_, ic.apart, ?_, ⟨fr, rfl, by subst henv; rfl⟩⟩
    · intro y i V hy hs hL
      obtain ⟨v, hv, r⟩ := ini y i V hs hL
      exact ⟨v, by rw [bindL_spec _ _ _ hy hzn, hv]; rfl, r⟩
    · intro y hy
      have hc' : (env.cells.lookup y).isSome = true := by rw [hcells]; exact PySem.W.cellsFrom_some _ _ _ (.inl (by rw [← hko]; exact hy))
      obtain ⟨ca, hca⟩ := Option.isSome_iff_exists.mp hc'
      have habove := ic.above y ca (mem_of_lookup hca)
      rw [hloc] at habove
      refine ⟨ca, _, hca, ic.cell y ca hca, (new ca (Nat.le_of_lt habove)).1, fun i V hs hL => ?_⟩
      obtain ⟨v, hv, r⟩ := ini y i V hs hL
      exact ⟨v, by rw [bindC_spec _ _ _ (by rw [hy]; intro q; cases q) hzn, hv]; rfl, r⟩
    · exact (new _ (by rw [hloc]; exact Nat.le_refl _)).1
    · intro b hb
      rcases List.mem_cons.mp hb with q | q
      · subst q
        have n1 := new env.locals (by rw [hloc]; exact Nat.le_refl _)
        exact ⟨n1.1, n1.2, (let ⟨o, _, _, e, _⟩ := ic.toInCall.ns; ⟨o, e⟩), notTup_dict ic.toInCall.ns⟩
      · obtain ⟨⟨y, ca⟩, hm, rfl⟩ := List.mem_map.mp q
        have habove := ic.above y ca hm
        rw [hloc] at habove
        have n1 := new ca (Nat.le_of_lt habove)
        have hcell := ic.cell y ca (lookup_of_nodup cn hm)
        exact ⟨n1.1, n1.2, (let ⟨o, e, _⟩ := hcell; ⟨o, e⟩), notTup_cell hcell⟩
    · intro p hp
      exact Nat.ne_of_gt (ic.above p.1 p.2 hp)
  have own0 : ∀ b ∈ ownA env, s.heap.get? b = none := fun b hb => by
    have hge : s.heap.objs.size ≤ b := by
      rcases List.mem_cons.mp hb with q | q
      · rw [q, hloc]; exact Nat.le_refl _
      · obtain ⟨⟨y, ca⟩, hm, rfl⟩ := List.mem_map.mp q
        have habove := ic.above y ca hm
        rw [hloc] at habove
        exact Nat.le_of_lt habove
    cases q : s.heap.get? b with
    | none => rfl
    | some o => exact absurd (Heap.lt_size q) (Nat.not_lt.mpr hge)
  have fresh0 : ∀ b, s1.heap.get? b = none → s.heap.get? b = none := fun b hb => by
    cases q : s.heap.get? b with
    | none => rfl
    | some o => rw [keep b o q] at hb; cases hb
  have stp0 : ∀ {γ2 : List Addr} {s2 : Shared}, Stp (ownA env) γ γ2 s1 s2 → Stp [] γ γ2 s s2 := fun {γ2 s2} st2 => by
    refine ⟨?_, fun b o hb _ e => st2.keepS b o hb (fun q => by rw [own0 b q] at e; cases e) (keep b o e), ?_⟩
    · obtain ⟨h1, t1, e1⟩ := ic.toInCall.same
      obtain ⟨h2, t2, e2⟩ := st2.same
      rw [e2, e1]; exact ⟨_, _, rfl⟩
    · obtain ⟨δ, e, f⟩ := st2.ext
      exact ⟨δ, e, fun b hb => fresh0 b (f b hb)⟩
  have frs1 : FrsOk (D.on (env :: fr)) s1.heap := fun e he => by
    rcases List.mem_cons.mp he with q | q
    · subst q
      obtain ⟨o, e1, e2⟩ := isD_ns ic.toInCall.ns
      exact ⟨by rw [hE.scope]; exact hkind, _, o, (by subst henv; rfl), (new _ (by rw [hloc]; exact Nat.le_refl _)).2, e1, e2⟩
    · exact (R.frs.grow keep) e q
  have R1 : HRel (D.on (env :: fr)) γ H s1.heap := (R.grow keep).on frs1
  have outer : ∀ {h : Heap}, FrsOk (D.on (env :: fr)) h → FrsOk (D.on fr) h := fun F e he => F e (List.mem_cons_of_mem _ he)
  have body_ok := sss_of (D := D.on (env :: fr)) (f := compS 40 c) (fun st is h => soundS (D := D.on (env :: fr)) (Φ := Φ) (k := k) hO 40 c st is g so h) body ib hib env (A.deeper env) γ H s1 _ _ _ hE (hA.deeper env) R1 frl w
  refine wpAny_mono body_ok (fun fl s2 p => ?_) fun e s2 p => ?_
  · obtain ⟨γ2, H2, L2, F, st2, R2, fr2, hf2, q2⟩ := p
    have st0 := stp0 st2
    have R2' : HRel (D.on fr) γ2 H2 s2.heap := R2.on (outer R2.frs)
    cases fl <;> cases F <;> simp only [FlRep] at hf2
    · exact ⟨γ2, .none, H2, st0, R2', by simp only [Rep], q2⟩
    · exact ⟨γ2, .none, H2, st0, R2', by simp only [Rep], q2⟩
    · exact ⟨γ2, .none, H2, st0, R2', by simp only [Rep], q2⟩
    · exact ⟨γ2, _, H2, st0, R2', Rep.wd (D := D.on (env :: fr)) (D' := D.on fr) rfl rfl hf2, q2⟩
  · obtain ⟨γ2, H2, L2, x, st2, R2, fr2, ⟨hx, hex⟩, q2⟩ := p
    refine leave_any (D := D.on (env :: fr)) (hA.deeper env).frames R1 R2 rfl (by subst henv; rfl) hx fun a C a0 ex h' e1 hmg hn hax XF land tr => ?_
    subst e1
    have fly := fly_of (fun b => fresh_backF st2 R2 fr2.alive) R2.frs XF land hmg hn tr
    have R3 := land.rel R2 XF
    exact ⟨γ2, H2, x, stp0 (land.stp R2.frs XF st2), R3.on (outer R3.frs), ⟨fly.from fresh0, hex⟩, q2⟩
end
end Mine

set_option autoImplicit false
/- From the text's top: what is known of each def. -/
namespace Mine
open PySem PyProof.Rows

theorem zip_lookup_some : ∀ (ps : List Str) (vals : List Value) (n : Str), vals.length = ps.length → n ∈ ps → ((ps.zip vals).lookup n).isSome = true
  | [], _, n, _, h => by cases h
  | p :: ps, [], n, e, _ => by simp at e
  | p :: ps, v :: vals, n, e, h => by
    simp only [List.zip_cons_cons, List.lookup_cons]
    split
    · rfl
    · rename_i q
      refine zip_lookup_some ps vals n (by simpa using e) ?_
      rcases List.mem_cons.mp h with q' | q'
      · subst q'; simp at q
      · exact q'

theorem zip_filterMap : ∀ (ps : List Str) (vals : List Value) (pre : List (Str × Value)), vals.length = ps.length → ps.Nodup → (∀ p ∈ ps, pre.lookup p = none) → ps.filterMap (fun n => ((pre ++ ps.zip vals).lookup n).map (n, ·)) = ps.zip vals
  | [], _, _, _, _, _ => by simp
  | p :: ps, [], _, e, _, _ => by simp at e
  | p :: ps, v :: vals, pre, e, hn, hp => by
    have h1 : (pre ++ (p :: ps).zip (v :: vals)).lookup p = some v := by
      rw [List.lookup_append, hp p (by simp)]; simp
    simp only [List.filterMap_cons, h1, Option.map_some]
    simp only [List.zip_cons_cons, List.cons.injEq, true_and]
    have := zip_filterMap ps vals (pre ++ [(p, v)]) (by simpa using e) (List.nodup_cons.mp hn).2 (fun q hq => by
      rw [List.lookup_append, hp q (by simp [hq])]
      have : (q == p) = false := by
        have : q ≠ p := fun e => (List.nodup_cons.mp hn).1 (e ▸ hq)
        simpa using this
      simp [List.lookup_cons, this])
    simpa using this

theorem bind_simple {name : Str} {args : List Arg} {body : List Stmt} {scope : Scope} {pm cd doc : Value} {kd : List (Option Expr)} {vals : List Value} (hn : (args.map (·.arg)).Nodup) (hl : vals.length = (args.map (·.arg)).length) :
    bindArgs (Calls.docDef name ⟨[], args, none, [], kd, none, []⟩ body scope pm cd doc) ⟨vals, []⟩ = pure ((args.map (·.arg)).zip vals) := by
  unfold bindArgs
  simp only [Calls.docDef, seqItems?, notAStandIn, List.map_nil, List.nil_append, List.append_nil, Option.isNone_none]
  generalize args.map (·.arg) = ps at *
  have h1 : (ps.filter fun n => ((ps.zip vals).lookup n).isNone) = [] := by
    rw [List.filter_eq_nil_iff]
    intro n hm
    have := zip_lookup_some _ vals n hl hm
    simp only [Option.isNone_iff_eq_none]
    intro q; rw [q] at this; cases this
  have h2 := zip_filterMap _ vals [] hl hn (by simp)
  simp only [List.nil_append] at h2
  have h3 : ¬ vals.length > ps.length := by omega
  simp [h1, h2, h3]

/- everything about a def that can be looked at -/
noncomputable def strsNodup : List Str → Bool
  | [] => true
  | x :: r => !r.contains x && strsNodup r
theorem strsNodup_ok : ∀ {l : List Str}, strsNodup l = true → l.Nodup
  | [], _ => List.nodup_nil
  | x :: r, h => by
    simp only [strsNodup, Bool.and_eq_true, Bool.not_eq_true', List.contains_eq_mem, decide_eq_false_iff_not] at h
    exact List.nodup_cons.mpr ⟨h.1, strsNodup_ok h.2⟩

noncomputable def simpleArgs : Arguments → Option (List Str)
  | ⟨[], args, none, [], _, none, []⟩ => some (args.map (·.arg))
  | _ => none

noncomputable def checkRec (G : List (Str × V)) (d : DefRec) : Option Fn :=
  match simpleArgs d.params with
  | some ps => if strsNodup ps && strsNodup (d.scope.names.map (·.1)) && (ps.all fun p => d.scope.names.lookup p == some .local || d.scope.names.lookup p == some .cell) && !d.scope.isCoroutine && !d.scope.isGenerator && d.scope.kind == .function then
      compFn G ps d.body d.scope else none
  | none => none

noncomputable def checkFn (G : List (Str × V)) (p : Program) (x : Str) : Option Fn :=
  match (recsOf p).find? (fun d => d.name == x) with
  | some d => checkRec G d
  | none => none

theorem fnOk_of_top {D : Wd} {G : List (Str × V)} {p : Program} {loose : List Str} {mean : ExcName → Option Value} (T : Top p loose mean D.mg D.mb D.hB) {x : Str} {f : Fn} (h : checkFn G p x = some f) : FnOk D G x f := by
  unfold checkFn at h
  split at h
  · rename_i d hd
    have hx : d.name = x := by have := List.find?_some hd; simpa using this
    have hm := List.mem_of_find?_eq_some hd
    obtain ⟨a, o, pm, cd, doc, h1, h2, h3, h4⟩ := T.fn d hm
    subst hx
    unfold checkRec at h
    split at h
    · rename_i ps hps
      split at h
      · rename_i hc
        simp only [Bool.and_eq_true, Bool.not_eq_true'] at hc
        obtain ⟨⟨⟨⟨⟨c1, c2⟩, c3⟩, c4⟩, c5⟩, c6⟩ := hc
        have hnd := strsNodup_ok c1
        refine ⟨⟨a, o, d.name, d.params, d.body, d.scope, pm, cd, doc, ps, h1, h2, h3, h4, h, ?_, hnd, strsNodup_ok c2, ?_, c4, c5, ?_⟩⟩
        · intro vals hl
          revert hps
          cases d.params with
          | mk po ar va ko kd kw df =>
            intro hps
            unfold simpleArgs at hps
            split at hps
            · rename_i heq
              cases heq
              cases hps
              exact bind_simple hnd hl
            · cases hps
        · intro q hq
          have := List.all_eq_true.mp c3 q hq
          simpa using this
        · revert c6; cases d.scope.kind <;> intro c6 <;> first | rfl | cases c6
      · cases h
    · cases h
  · cases h
end Mine

set_option autoImplicit false
/- The top of a law, and its end. -/
namespace Mine
open PySem PySem.W PyProof.Rows

noncomputable def isName : Stmt → Bool
  | .Assign [.Name x _] _ _ => x == ("__name__" : Str)
  | _ => false
noncomputable def viewOf (p : Program) : Program := { p with main := { p.main with body := p.main.body.filter fun st => !isName st } }
theorem noΦ_ok {D : Wd} : OrcOk D 0 noΦ := fun _ _ _ _ _ _ h => h.elim
theorem ext_ok {D : Wd} {G : List (Str × V)} {k : Nat} {Φ : Orc} {n : Str} {f : Fn} {C : List V → Hp → (V → Hp → Prop) → XL → Prop} (g : GOk D G) (hO : OrcOk D k Φ) (fo : FnOk D G n f)
    (h : ∀ vs H Q X, C vs H Q X → wpFn Φ f vs H Q X) : OrcOk D (k + 1) (ext n C Φ) := by
  intro fr x vs H Q X hx A γ s vals a hA R rv ha
  unfold ext at hx
  split at hx
  · rename_i e
    have e : x = n := by simpa using e
    subst e
    exact fn_ok g hO fo fr vs H Q X (h vs H Q X hx) A γ s vals a hA R rv ha
  · exact hO fr x vs H Q X hx A γ s vals a (hA.mono (by omega)) R rv ha

theorem ext_none {D : Wd} {k : Nat} {Φ : Orc} {n : Str} {C : List V → Hp → (V → Hp → Prop) → XL → Prop} (h : D.mg n = none) (hO : OrcOk D k Φ) : OrcOk D k (ext n C Φ) := by
  intro fr x vs H Q X hx A γ s vals a hA R rv ha
  unfold ext at hx
  split at hx
  · rename_i e
    have e : x = n := by simpa using e
    subst e
    rw [h] at ha; cases ha
  · exact hO fr x vs H Q X hx A γ s vals a hA R rv ha

theorem ints_get : ∀ {vs : List Value} {ns : List Int}, IntsAre vs ns → vs.length = ns.length ∧ ∀ (k : Nat) (i : Int), ns[k]? = some i → ∃ t, vs[k]? = some (.int i t)
  | _, _, .nil => ⟨rfl, fun k i h => by simp at h⟩
  | _, _, .cons n t r => by
    obtain ⟨h1, h2⟩ := ints_get r
    refine ⟨by simp [h1], fun k i h => ?_⟩
    cases k with
    | zero => simp at h; subst h; exact ⟨t, by simp⟩
    | succ k => simp at h; obtain ⟨u, hu⟩ := h2 k i h; exact ⟨u, by simpa using hu⟩

noncomputable def GVal (D : Wd) (x : Str) (W : V) : Prop := ∃ v, (D.mg x = some v ∨ (D.mg x = none ∧ D.mb x = some v)) ∧ ∀ γ, Rep D γ D.hB v W
noncomputable def GAll (D : Wd) : List (Str × V) → Prop
  | [] => True
  | p :: r => GVal D p.1 p.2 ∧ GAll D r
theorem gall_lookup {D : Wd} : ∀ {G : List (Str × V)}, GAll D G → ∀ (x : Str) (W : V), G.lookup x = some W → GVal D x W
  | [], _, x, W, h => by cases h
  | (y, U) :: r, g, x, W, h => by
    rw [List.lookup_cons] at h
    split at h
    · rename_i e
      have e : x = y := by simpa using e
      cases h; subst e; exact g.1
    · exact gall_lookup g.2 x W h
noncomputable def noCls (G : List (Str × V)) : Bool := G.all fun p => match p.2 with
  | .cls _ _ => false
  | _ => true
noncomputable def exOf (_ : List (Str × List Str × Addr)) : List (Str × List Str) := []
theorem gok {D : Wd} {G : List (Str × V)} {p : Program} {loose : List Str} {mean : ExcName → Option Value} (T : Top p loose mean D.mg D.mb D.hB) (g : GAll D G) (he : D.ex = []) (hc : noCls G = true) : GOk D G :=
  ⟨T.g, T.b, fun x V h => gall_lookup g x V h, T.nolimit, fun x z ups h => (by
    have := List.all_eq_true.mp hc (x, .cls z ups) (mem_of_lookup h)
    simp at this), fun x ups h => (by rw [he] at h; cases h)⟩
theorem gv_fn {D : Wd} {x : Str} {a : Addr} (h : D.mg x = some (.ref a)) : GVal D x (.fn x) :=
  ⟨_, .inl h, fun _ => by simp only [Rep]; exact ⟨a, rfl, h⟩⟩
theorem gv_int {D : Wd} {x : Str} {i : Int} {t : Tok} (h : D.mg x = some (.int i t)) : GVal D x (.int i) :=
  ⟨_, .inl h, fun _ => by simp only [Rep]; exact ⟨t, rfl⟩⟩
theorem gv_str {D : Wd} {x s : Str} {t : Tok} (h : D.mg x = some (.str s t)) (f : StrFine s) : GVal D x (.str s) :=
  ⟨_, .inl h, fun _ => by simp only [Rep]; exact ⟨t, rfl, f⟩⟩
theorem gv_tup {D : Wd} {x : Str} {a : Addr} {vs : List Value} {n : Nat} {l : List V} (h : D.mg x = some (.ref a)) (e : D.hB.get? a = some { cls := .type "tuple", data := .seq vs.toArray n }) (hz : vs.length ≤ 2000000) (r : ∀ γ, Reps D γ D.hB vs l) : GVal D x (.tup l) :=
  ⟨_, .inl h, fun γ => by simp only [Rep]; exact ⟨a, vs, rfl, ⟨n, e, hz⟩, r γ⟩⟩
theorem gv_bi {D : Wd} {b : Bi} {x : Str} (h : D.mg x = none) (e : D.mb x = some (.builtin b.name)) : GVal D x (.bi b) :=
  ⟨_, .inr ⟨h, e⟩, fun _ => by simp only [Rep]⟩
theorem gv_ty {D : Wd} {b : Ty} {x : Str} (h : D.mg x = none) (e : D.mb x = some (.type b.name)) : GVal D x (.ty b) :=
  ⟨_, .inr ⟨h, e⟩, fun _ => by simp only [Rep]⟩
theorem reps_int {D : Wd} {γ : List Addr} {h : Heap} {i : Int} {t : Tok} {vs : List Value} {l : List V} (r : Reps D γ h vs l) : Reps D γ h (.int i t :: vs) (.int i :: l) := by
  simp only [Reps]; exact ⟨_, _, rfl, by simp only [Rep]; exact ⟨t, rfl⟩, r⟩
theorem reps_str {D : Wd} {γ : List Addr} {h : Heap} {x : Str} {t : Tok} {vs : List Value} {l : List V} (f : StrFine x) (r : Reps D γ h vs l) : Reps D γ h (.str x t :: vs) (.str x :: l) := by
  simp only [Reps]; exact ⟨_, _, rfl, by simp only [Rep]; exact ⟨t, rfl, f⟩, r⟩
theorem reps_nil {D : Wd} {γ : List Addr} {h : Heap} : Reps D γ h [] [] := by simp only [Reps]

theorem law_top {prog : Program} {w : World} {s₁ : Shared} {mg mb : Str → Option Value} {k : Nat} {Φ : Orc} {c : ClaimW} {cl : Str → Option Addr} {mean : ExcName → Option Value} {fa a : Addr} {vs : List Value} {ns : List Int} {args : List WData} {x : Str} {exs : List (Str × List Str)}
    (hO : OrcOk ⟨prog, w, s₁.heap, mg, mb, exs, []⟩ k Φ) (hA : AOk ⟨prog, w, s₁.heap, mg, mb, exs, []⟩ k callerA) (hx : mg x = some (.ref fa)) (hΦ : Φ x [.scr ns] [] (fun V _ => V = .bool true) (fun _ _ => False))
    (hL : s₁.heap.IsList a vs.toArray) (hI : IntsAre vs ns) (hlen : ns.length ≤ 2000000) (hg : s₁.gens = #[]) (hr : ∀ cls, c.raises args cls = false) (hp : c.post args (.bool true) args = true) :
    wpAny (model prog w) callerA (call (.ref fa) [.ref a]) (fun v s' => GoodWG c cl mean args s₁ (.ok (.ret v)) s') (fun e s' => GoodWG c cl mean args s₁ (.error e) s') s₁ := by
  obtain ⟨h1, h2⟩ := ints_get hI
  have R : HRel ⟨prog, w, s₁.heap, mg, mb, exs, []⟩ [] [] s₁.heap := ⟨rfl, List.nodup_nil, fun i a o e => by simp at e, fun a h => by simp at h, fun _ _ e => e, fun e he => nomatch he⟩
  have rv : Reps ⟨prog, w, s₁.heap, mg, mb, exs, []⟩ [] s₁.heap [.ref a] [.scr ns] := Reps.one (by simp only [Rep]; exact ⟨a, vs, rfl, hL, by omega, h1, h2⟩)
  refine wpAny_mono (hO [] x [.scr ns] [] _ _ hΦ callerA [] s₁ [.ref a] fa hA R rv hx).2 ?_ ?_
  · rintro v s' ⟨γ', V, H', st, R', r, rfl⟩
    simp only [Rep] at r; subst r
    obtain ⟨h', tk, rfl⟩ := st.same
    exact GoodW.toG ⟨.inl ⟨_, _, [], rfl, hr, ReadsW.bool true, hp, fun _ => ⟨List.nodup_nil, fun _ hm => (nomatch hm)⟩⟩, fun b o e => R'.base b o e, rfl, hg⟩
  · rintro e s' ⟨γ', H', x, _, _, _, h⟩
    exact h.elim
theorem caller_ok {D : Wd} {k : Nat} (h : k ≤ 500) (hf : D.fr = []) : AOk D k callerA := ⟨by rw [hf]; rfl, rfl, by show 1 + claimMargin + k < 900; unfold claimMargin; omega, by show 4 + 4 * k < 9000; omega, rfl⟩
end Mine

set_option autoImplicit false
/- Numbers and texts. -/
namespace Mine
open PySem PyProof.Rows

noncomputable def numS (i : Int) : Str := Str.ofString (toString i)
noncomputable abbrev chs (x : Str) : List Nat := x.cps.toList
theorem str_ext {x y : Str} (h : chs x = chs y) : x = y := by
  apply Str.ext'
  exact Array.toList_inj.mp h
theorem len_chs (x : Str) : x.length = (chs x).length := by simp [Str.length, chs]
theorem chs_append (x y : Str) : chs (x ++ y) = chs x ++ chs y := by
  show (x.cps ++ y.cps).toList = _
  simp [chs]

noncomputable def digs (m : Nat) : List Nat := (Nat.toDigits 10 m).map Char.toNat
theorem num_pos (m : Nat) : chs (numS (m : Int)) = digs m := PySem.W.KIN.signs_num m
theorem num_neg (m : Nat) : chs (numS (Int.negSucc m)) = 45 :: digs (m + 1) := by
  unfold chs numS
  rw [signs_ofString]
  show (("-" ++ Nat.repr (m + 1)).toList).map Char.toNat = _
  rw [String.toList_append, List.map_append, Nat.toList_repr]
  rfl
theorem digs_are (m : Nat) : ∀ c ∈ digs m, 48 ≤ c ∧ c ≤ 57 := by
  intro c hc
  obtain ⟨ch, hch, e⟩ := List.mem_map.mp hc
  have r := digit_range (Nat.isDigit_of_mem_toDigits (by decide) (by decide) hch)
  rw [← e]
  exact r
theorem digs_ne (m : Nat) : digs m ≠ [] := by
  intro e
  have h := toDigits_len_ge 10 m
  rw [List.map_eq_nil_iff.mp e] at h
  exact absurd h (by decide)
theorem digs_len {m k : Nat} (hk : 1 ≤ k) (h : m < 10 ^ k) : (digs m).length ≤ k := by
  unfold digs
  rw [List.length_map]
  exact toDigits_len_pow (by decide) hk h
theorem num_are (i : Int) : ∀ c ∈ chs (numS i), c = 45 ∨ (48 ≤ c ∧ c ≤ 57) := by
  intro c hc
  cases i with
  | ofNat m => rw [show Int.ofNat m = (m : Int) from rfl, num_pos] at hc; exact .inr (digs_are m c hc)
  | negSucc m =>
    rw [num_neg] at hc
    rcases List.mem_cons.mp hc with q | q
    · exact .inl q
    · exact .inr (digs_are _ c q)
theorem num_ne (i : Int) : chs (numS i) ≠ [] := by
  cases i with
  | ofNat m => rw [show Int.ofNat m = (m : Int) from rfl, num_pos]; exact digs_ne m
  | negSucc m => rw [num_neg]; exact List.cons_ne_nil _ _
theorem num_len {i : Int} (h1 : -(10 ^ 12) < i) (h2 : i < 10 ^ 12) : (numS i).length ≤ 13 := by
  rw [len_chs]
  cases i with
  | ofNat m =>
    rw [show Int.ofNat m = (m : Int) from rfl, num_pos]
    exact Nat.le_trans (digs_len (k := 12) (by decide) (by have : (Int.ofNat m) = (m : Int) := rfl; omega)) (by decide)
  | negSucc m =>
    rw [num_neg, List.length_cons]
    have := digs_len (m := m + 1) (k := 12) (by decide) (by omega)
    omega
theorem num_reads {i : Int} (h1 : -(10 ^ 12) < i) (h2 : i < 10 ^ 12) : intText? (numS i) = some i := by
  have hl := num_len h1 h2
  cases i with
  | ofNat m =>
    have hc : chs (numS (Int.ofNat m)) = digs m := num_pos m
    have hd : NumText.AllDigits (chs (numS (Int.ofNat m))) := by rw [hc]; exact digs_are m
    have e := intText_digits hd (by show chs _ ≠ []; rw [hc]; exact digs_ne m) (by omega)
    have hc' : (numS (Int.ofNat m)).cps.toList = (Nat.toDigits 10 m).map Char.toNat := hc
    rw [hc', PySem.W.KIN.val_back] at e
    exact e
  | negSucc m =>
    have hc : (numS (Int.negSucc m)).cps.toList = 45 :: digs (m + 1) := num_neg m
    have e := intText_neg hc (digs_are _) (digs_ne _) (by omega)
    have hv : NumText.digitsVal (digs (m + 1)) = m + 1 := PySem.W.KIN.val_back (m + 1)
    rw [hv] at e
    exact e

/- parts between a sign that none of them has -/
noncomputable abbrev one (c : Nat) : Str := ⟨#[c]⟩
theorem join_cons (s p q : Str) (r : List Str) : Str.join s (p :: q :: r) = p ++ s ++ Str.join s (q :: r) := rfl
theorem cut_eq {c : Nat} : ∀ {p q X Y : List Nat}, c ∉ p → c ∉ q → p ++ c :: X = q ++ c :: Y → p = q ∧ X = Y
  | [], [], X, Y, _, _, h => by simp at h; exact ⟨rfl, h⟩
  | [], b :: q, X, Y, _, hq, h => by simp at h; exact absurd (List.mem_cons.mpr (.inl h.1)) hq
  | a :: p, [], X, Y, hp, _, h => by simp at h; exact absurd (List.mem_cons.mpr (.inl h.1.symm)) hp
  | a :: p, b :: q, X, Y, hp, hq, h => by
    simp only [List.cons_append, List.cons.injEq] at h
    obtain ⟨h1, h2⟩ := cut_eq (fun m => hp (List.mem_cons_of_mem _ m)) (fun m => hq (List.mem_cons_of_mem _ m)) h.2
    exact ⟨by rw [h.1, h1], h2⟩
theorem chs_join (c : Nat) (p q : Str) (r : List Str) : chs (Str.join (one c) (p :: q :: r)) = chs p ++ c :: chs (Str.join (one c) (q :: r)) := by
  rw [join_cons, chs_append, chs_append]
  simp [chs, one]
theorem join_inj {c : Nat} : ∀ {ps qs : List Str}, ps ≠ [] → qs ≠ [] → (∀ p ∈ ps, c ∉ chs p) → (∀ q ∈ qs, c ∉ chs q) → Str.join (one c) ps = Str.join (one c) qs → ps = qs
  | [], _, h, _, _, _, _ => absurd rfl h
  | _, [], _, h, _, _, _ => absurd rfl h
  | [p], [q], _, _, _, _, h => by rw [show p = q from h]
  | [p], q :: q2 :: r, _, _, hp, _, h => by
    have e := congrArg chs (show p = Str.join (one c) (q :: q2 :: r) from h)
    rw [chs_join] at e
    exact absurd (by rw [e]; simp) (hp p (by simp))
  | p :: p2 :: r, [q], _, _, _, hq, h => by
    have e := congrArg chs (show Str.join (one c) (p :: p2 :: r) = q from h)
    rw [chs_join] at e
    exact absurd (by rw [← e]; simp) (hq q (by simp))
  | p :: p2 :: r, q :: q2 :: r', _, _, hp, hq, h => by
    have e := congrArg chs h
    rw [chs_join, chs_join] at e
    obtain ⟨e1, e2⟩ := cut_eq (hp p (by simp)) (hq q (by simp)) e
    have := join_inj (List.cons_ne_nil p2 r) (List.cons_ne_nil q2 r') (fun x hx => hp x (List.mem_cons_of_mem _ hx)) (fun x hx => hq x (List.mem_cons_of_mem _ hx)) (str_ext e2)
    rw [str_ext e1, this]
theorem split_join {c : Nat} {ps : List Str} (hne : ps ≠ []) (hp : ∀ p ∈ ps, c ∉ chs p) : Txt.split (Str.join (one c) ps) (one c) = ps := by
  refine join_inj (c := c) ?_ hne (StrLaws.split_free _ c) hp (StrLaws.join_split _ _)
  intro e
  have := split_pos (Str.join (one c) ps) (one c)
  rw [e] at this
  exact absurd this (by decide)
theorem join_two (s : Str) : ∀ (ps qs : List Str), ps ≠ [] → qs ≠ [] → Str.join s (ps ++ [Str.join s qs]) = Str.join s (ps ++ qs)
  | [], _, h, _ => absurd rfl h
  | _, [], _, h => absurd rfl h
  | [p], q :: qs, _, _ => rfl
  | p :: p2 :: r, q :: qs, _, h => by
    have := join_two s (p2 :: r) (q :: qs) (List.cons_ne_nil _ _) h
    simp only [List.cons_append] at this ⊢
    rw [join_cons, join_cons, this]
theorem join_chars {s : Str} {P : Nat → Prop} (hs : ∀ c ∈ chs s, P c) : ∀ (ps : List Str), (∀ p ∈ ps, ∀ c ∈ chs p, P c) → ∀ c ∈ chs (Str.join s ps), P c
  | [], _, c, hc => by simp [Str.join, chs, Str.empty] at hc
  | [p], h, c, hc => h p (by simp) c hc
  | p :: q :: r, h, c, hc => by
    rw [join_cons, chs_append, chs_append] at hc
    rcases List.mem_append.mp hc with hc | hc
    · rcases List.mem_append.mp hc with hc | hc
      · exact h p (by simp) c hc
      · exact hs c hc
    · exact join_chars hs (q :: r) (fun x hx => h x (List.mem_cons_of_mem _ hx)) c hc
theorem join_len (s : Str) (B : Nat) (ps : List Str) (h : ∀ p ∈ ps, p.length ≤ B) : (ps.map (·.length)).sum + ps.length * s.length ≤ ps.length * (B + s.length) := by
  have := StrLaws.sumLen_le ps h
  rw [Nat.mul_add]; omega
end Mine

set_option autoImplicit false
set_option linter.unusedSimpArgs false
set_option maxRecDepth 20000
/- Rules, their words, their texts. -/
namespace Mine
open PySem PyProof.Rows

inductive Rl where
  | once (h s : Int)
  | every (h s p : Int)
  | week (ds : List Int) (t s : Int)
  | month (d t s : Int)
  | frm (h : Int) (r : Rl)
  | til (h : Int) (r : Rl)
  | als (h : Int) (r : Rl)
  | but (ds : List Int) (r : Rl)
noncomputable def intsV (l : List Int) : V := .tup (l.map .int)
noncomputable def rv : Rl → V
  | .once h s => .tup [.str "once", .int h, .int s]
  | .every h s p => .tup [.str "every", .int h, .int s, .int p]
  | .week ds t s => .tup [.str "week", intsV ds, .int t, .int s]
  | .month d t s => .tup [.str "month", .int d, .int t, .int s]
  | .frm h r => .tup [.str "from", .int h, rv r]
  | .til h r => .tup [.str "until", .int h, rv r]
  | .als h r => .tup [.str "also", .int h, rv r]
  | .but ds r => .tup [.str "but", intsV ds, rv r]
noncomputable def Rl.plain : Rl → Bool
  | .frm _ _ | .til _ _ | .als _ _ | .but _ _ => false
  | _ => true
noncomputable def Rl.depth : Rl → Nat
  | .frm _ r | .til _ r | .als _ r | .but _ r => r.depth + 1
  | _ => 0
noncomputable def tm (h : Int) : Prop := 0 ≤ h ∧ h ≤ 999999999999
noncomputable def sz (s : Int) : Prop := 1 ≤ s ∧ s ≤ 48
noncomputable def rise (most : Int) : Int → List Int → Prop
  | _, [] => True
  | a, d :: r => (a + 1 ≤ d ∧ d ≤ most) ∧ rise most d r
noncomputable def days (many : Nat) (most : Int) (ds : List Int) : Prop := ds ≠ [] ∧ ds.length ≤ many ∧ rise most (-1) ds
noncomputable def Rl.good : Rl → Prop
  | .once h s => tm h ∧ sz s
  | .every h s p => tm h ∧ sz s ∧ 1 ≤ p ∧ p ≤ 1000000
  | .week ds t s => days 7 6 ds ∧ (0 ≤ t ∧ t ≤ 23) ∧ sz s
  | .month d t s => (-31 ≤ d ∧ d ≤ 31 ∧ d ≠ 0) ∧ (0 ≤ t ∧ t ≤ 23) ∧ sz s
  | .frm h r => tm h ∧ r.good
  | .til h r => tm h ∧ r.good
  | .als h r => tm h ∧ r.good
  | .but ds r => days 20 99999999999 ds ∧ r.good
theorem rise_all {most : Int} : ∀ {a : Int} {l : List Int}, -1 ≤ a → rise most a l → ∀ d ∈ l, 0 ≤ d ∧ d ≤ most
  | a, [], _, _, d, hd => by cases hd
  | a, e :: r, ha, h, d, hd => by
    obtain ⟨⟨h1, h2⟩, h3⟩ := h
    rcases List.mem_cons.mp hd with q | q
    · subst q; omega
    · exact rise_all (a := e) (by omega) h3 d q
noncomputable def small (i : Int) : Prop := -(10 ^ 12) < i ∧ i < 10 ^ 12
theorem tm.small {h : Int} (x : tm h) : small h := by unfold tm at x; unfold Mine.small; omega
theorem sz.small {h : Int} (x : sz h) : small h := by unfold sz at x; unfold Mine.small; omega
theorem days.small {many : Nat} {most : Int} {ds : List Int} (hm : most < 10 ^ 12) (x : days many most ds) : ∀ d ∈ ds, small d := fun d hd => by
  have := rise_all (by decide) x.2.2 d hd
  unfold Mine.small; omega

noncomputable def listS (ds : List Int) : Str := Str.join "," (ds.map numS)
noncomputable def Rl.words : Rl → List Str
  | .once h s => ["once", numS h, numS s]
  | .every h s p => ["every", numS h, numS s, numS p]
  | .week ds t s => ["week", listS ds, numS t, numS s]
  | .month d t s => ["month", numS d, numS t, numS s]
  | .frm h r => "from" :: numS h :: r.words
  | .til h r => "until" :: numS h :: r.words
  | .als h r => "also" :: numS h :: r.words
  | .but ds r => "but" :: listS ds :: r.words
noncomputable def Rl.text (r : Rl) : Str := Str.join " " r.words
theorem sp_eq : (Str.ofString " ") = one 32 := by decide
theorem co_eq : (Str.ofString ",") = one 44 := by decide
theorem words_ne (r : Rl) : r.words ≠ [] := by cases r <;> exact List.cons_ne_nil _ _

noncomputable def wordOk (w : Str) : Prop := 32 ∉ chs w ∧ w.length ≤ 280
theorem num_ok {i : Int} (h : small i) : wordOk (numS i) := by
  refine ⟨fun hc => ?_, Nat.le_trans (num_len h.1 h.2) (by decide)⟩
  rcases num_are i 32 hc with q | q <;> omega
theorem list_free {ds : List Int} : ∀ c ∈ chs (listS ds), c = 44 ∨ c = 45 ∨ (48 ≤ c ∧ c ≤ 57) := by
  refine join_chars (P := fun c => c = 44 ∨ c = 45 ∨ (48 ≤ c ∧ c ≤ 57)) ?_ _ ?_
  · rw [co_eq]; intro c hc; simp [chs, one] at hc; exact .inl hc
  · intro p hp c hc
    obtain ⟨d, _, rfl⟩ := List.mem_map.mp hp
    exact .inr (num_are d c hc)
theorem list_sum {ds : List Int} (hs : ∀ d ∈ ds, small d) (hl : ds.length ≤ 20) : ((ds.map numS).map (·.length)).sum + (ds.map numS).length * (Str.ofString ",").length ≤ 280 := by
  have h := join_len (Str.ofString ",") 13 (ds.map numS) (fun p hp => by
    obtain ⟨d, hd, rfl⟩ := List.mem_map.mp hp
    exact num_len (hs d hd).1 (hs d hd).2)
  have e : (Str.ofString ",").length = 1 := by decide
  rw [e] at h ⊢
  have e2 : (ds.map numS).length = ds.length := List.length_map _
  rw [e2] at h ⊢
  omega
theorem list_ok {ds : List Int} (hs : ∀ d ∈ ds, small d) (hl : ds.length ≤ 20) : wordOk (listS ds) := by
  refine ⟨fun hc => ?_, Nat.le_trans (StrLaws.join_length_le _ _) (list_sum hs hl)⟩
  rcases list_free 32 hc with q | q | q <;> omega
theorem w_lit : wordOk "once" ∧ wordOk "every" ∧ wordOk "week" ∧ wordOk "month" ∧ wordOk "from" ∧ wordOk "until" ∧ wordOk "also" ∧ wordOk "but" := by
  unfold wordOk
  refine ⟨?_, ?_, ?_, ?_, ?_, ?_, ?_, ?_⟩ <;> decide
theorem words_ok : ∀ {r : Rl}, r.good → ∀ w ∈ r.words, wordOk w := by
  obtain ⟨w1, w2, w3, w4, w5, w6, w7, w8⟩ := w_lit
  intro r
  induction r with
  | once h s => intro g; simp only [Rl.words, List.forall_mem_cons]; exact ⟨w1, num_ok g.1.small, num_ok g.2.small, fun _ h => nomatch h⟩
  | every h s p => intro g; simp only [Rl.words, List.forall_mem_cons]; exact ⟨w2, num_ok g.1.small, num_ok g.2.1.small, num_ok (by have := g.2.2; unfold small; omega), fun _ h => nomatch h⟩
  | week ds t s => intro g; simp only [Rl.words, List.forall_mem_cons]; exact ⟨w3, list_ok (g.1.small (by decide)) (Nat.le_trans g.1.2.1 (by decide)), num_ok (by have := g.2.1; unfold small; omega), num_ok g.2.2.small, fun _ h => nomatch h⟩
  | month d t s => intro g; simp only [Rl.words, List.forall_mem_cons]; exact ⟨w4, num_ok (by have := g.1; unfold small; omega), num_ok (by have := g.2.1; unfold small; omega), num_ok g.2.2.small, fun _ h => nomatch h⟩
  | frm h r ih => intro g; simp only [Rl.words, List.forall_mem_cons]; exact ⟨w5, num_ok g.1.small, ih g.2⟩
  | til h r ih => intro g; simp only [Rl.words, List.forall_mem_cons]; exact ⟨w6, num_ok g.1.small, ih g.2⟩
  | als h r ih => intro g; simp only [Rl.words, List.forall_mem_cons]; exact ⟨w7, num_ok g.1.small, ih g.2⟩
  | but ds r ih => intro g; simp only [Rl.words, List.forall_mem_cons]; exact ⟨w8, list_ok (g.1.small (by decide)) g.1.2.1, ih g.2⟩
theorem words_len (r : Rl) : r.words.length ≤ 4 + 2 * r.depth := by
  induction r with
  | once => simp [Rl.words, Rl.depth]
  | every => simp [Rl.words, Rl.depth]
  | week => simp [Rl.words, Rl.depth]
  | month => simp [Rl.words, Rl.depth]
  | frm h r ih => simp only [Rl.words, Rl.depth, List.length_cons]; omega
  | til h r ih => simp only [Rl.words, Rl.depth, List.length_cons]; omega
  | als h r ih => simp only [Rl.words, Rl.depth, List.length_cons]; omega
  | but ds r ih => simp only [Rl.words, Rl.depth, List.length_cons]; omega
theorem sp_len : (Str.ofString " ").length = 1 := by decide
theorem words_sum {r : Rl} (g : r.good) (hd : r.depth ≤ 8) : (r.words.map (·.length)).sum + r.words.length * (Str.ofString " ").length ≤ 6000 := by
  have h := join_len (Str.ofString " ") 280 r.words (fun p hp => (words_ok g p hp).2)
  rw [sp_len] at h ⊢
  have h2 := words_len r
  have : r.words.length * (280 + 1) ≤ 20 * 281 := Nat.mul_le_mul_right _ (by omega)
  omega
theorem text_len {r : Rl} (g : r.good) (hd : r.depth ≤ 8) : r.text.length ≤ 6000 := Nat.le_trans (StrLaws.join_length_le _ _) (words_sum g hd)
theorem split_text {r : Rl} (g : r.good) : Txt.split r.text " " = r.words := by
  unfold Rl.text
  rw [sp_eq]
  exact split_join (words_ne r) fun p hp => (words_ok g p hp).1
theorem split_list {ds : List Int} (h : ds ≠ []) : Txt.split (listS ds) "," = ds.map numS := by
  unfold listS
  rw [co_eq]
  refine split_join (by simpa using h) fun p hp hc => ?_
  obtain ⟨d, _, rfl⟩ := List.mem_map.mp hp
  rcases num_are d 44 hc with q | q <;> omega
theorem text_two (a b : Str) (r : Rl) : Str.join " " [a, b, r.text] = Str.join " " (a :: b :: r.words) := join_two _ [a, b] r.words (List.cons_ne_nil _ _) (words_ne r)

/- a rule can be shown by repr -/
noncomputable def okD (n k : Nat) (d : PyData) : Prop := d.showable = true ∧ d.depth ≤ k ∧ d.shown.length ≤ n
noncomputable def szs (ds : List PyData) : Nat := ((PyData.shownAll ds).map (·.length)).sum + 2 * ds.length
noncomputable def okDs (n k : Nat) (ds : List PyData) : Prop := PyData.showableAll ds = true ∧ PyData.depthAll ds ≤ k ∧ szs ds ≤ n
theorem okDs_nil {n k : Nat} : okDs n k [] := ⟨rfl, Nat.zero_le _, Nat.zero_le _⟩
theorem okDs_cons {n m k : Nat} {d : PyData} {ds : List PyData} (h1 : okD n k d) (h2 : okDs m k ds) : okDs (n + 2 + m) k (d :: ds) := by
  refine ⟨?_, ?_, ?_⟩
  · show (d.showable && PyData.showableAll ds) = true
    rw [h1.1, h2.1]; rfl
  · show max d.depth (PyData.depthAll ds) ≤ k
    exact Nat.max_le.mpr ⟨h1.2.1, h2.2.1⟩
  · show ((d.shown.length :: (PyData.shownAll ds).map (·.length)).sum + 2 * (ds.length + 1)) ≤ _
    have := h1.2.2
    have := h2.2.2
    unfold szs at this
    rw [List.sum_cons]; omega
theorem okD_tuple {n k : Nat} {ds : List PyData} (h : okDs n k ds) : okD (n + 3) (k + 1) (.tuple ds) := by
  refine ⟨h.1, Nat.succ_le_succ h.2.1, ?_⟩
  have h1 := tupleText_len_le (PyData.shownAll ds)
  rw [PyData.shownAll_length] at h1
  exact Nat.le_trans h1 (Nat.add_le_add_right h.2.2 3)
theorem okD.mono {n k n' k' : Nat} {d : PyData} (h : okD n k d) (h1 : n ≤ n') (h2 : k ≤ k') : okD n' k' d := ⟨h.1, Nat.le_trans h.2.1 h2, Nat.le_trans h.2.2 h1⟩
theorem okDs.mono {n k n' k' : Nat} {d : List PyData} (h : okDs n k d) (h1 : n ≤ n') (h2 : k ≤ k') : okDs n' k' d := ⟨h.1, Nat.le_trans h.2.1 h2, Nat.le_trans h.2.2 h1⟩
noncomputable def Sh (H : Hp) (n k : Nat) (v : V) : Prop := ∃ d, toPyT H v = some d ∧ okD n k d
noncomputable def Shs (H : Hp) (n k : Nat) (l : List V) : Prop := ∃ ds, toPysT H l = some ds ∧ okDs n k ds
theorem shs_nil {H : Hp} {n k : Nat} : Shs H n k [] := ⟨[], rfl, okDs_nil⟩
theorem shs_cons {H : Hp} {n m k : Nat} {v : V} {l : List V} (h1 : Sh H n k v) (h2 : Shs H m k l) : Shs H (n + 2 + m) k (v :: l) := by
  obtain ⟨d, e1, o1⟩ := h1
  obtain ⟨ds, e2, o2⟩ := h2
  refine ⟨d :: ds, ?_, okDs_cons o1 o2⟩
  show (match toPyT H v, toPysT H l with
    | some d, some ds => some (d :: ds)
    | _, _ => none) = _
  rw [e1, e2]
theorem sh_tup {H : Hp} {n k : Nat} {l : List V} (h : Shs H n k l) : Sh H (n + 3) (k + 1) (.tup l) := by
  obtain ⟨ds, e, o⟩ := h
  refine ⟨.tuple ds, ?_, okD_tuple o⟩
  show (toPysT H l).map PyData.tuple = _
  rw [e]; rfl
theorem sh_int {H : Hp} {k : Nat} {i : Int} (h : small i) : Sh H 14 k (.int i) := by
  have hn : i.natAbs < 10 ^ 12 := by unfold small at h; omega
  refine ⟨.int i, rfl, ?_, Nat.zero_le _, ?_⟩
  · show decide (i.natAbs.log2 < 1920) = true
    refine decide_eq_true ?_
    by_cases h0 : i.natAbs = 0
    · rw [h0]; decide
    · exact (Nat.log2_lt h0).mpr (Nat.lt_of_lt_of_le hn (by decide))
  · exact Nat.le_trans (num_len h.1 h.2) (by decide)
theorem sh_word {H : Hp} {k : Nat} {s : Str} (h1 : (s.cps.toList.all fun c => decide (c < 16 ^ 8)) = true) (h2 : s.length ≤ 5) : Sh H 60 k (.str s) := by
  refine ⟨.str s, rfl, rfl, Nat.zero_le _, ?_⟩
  have e := StrLaws.reprText_len s (by simpa only [List.all_eq_true, decide_eq_true_eq] using h1)
  show (reprText s).length ≤ 60
  omega
theorem shs_ints {H : Hp} {k : Nat} : ∀ {l : List Int}, (∀ d ∈ l, small d) → Shs H (16 * l.length) k (l.map V.int)
  | [], _ => shs_nil
  | d :: r, h => by
    have := shs_cons (k := k) (sh_int (H := H) (h d (by simp))) (shs_ints (H := H) (l := r) fun x hx => h x (List.mem_cons_of_mem _ hx))
    obtain ⟨ds, e, o⟩ := this
    exact ⟨ds, e, o.mono (by simp only [List.length_cons]; omega) (Nat.le_refl _)⟩
theorem sh_ints {H : Hp} {l : List Int} (h : ∀ d ∈ l, small d) (hl : l.length ≤ 20) : Sh H 400 1 (intsV l) := by
  obtain ⟨d, e, o⟩ := sh_tup (shs_ints (H := H) (k := 0) h)
  exact ⟨d, e, o.mono (by omega) (Nat.le_refl _)⟩
theorem Sh.mono {H : Hp} {n k n' k' : Nat} {v : V} (h : Sh H n k v) (h1 : n ≤ n') (h2 : k ≤ k') : Sh H n' k' v := h.imp fun _ x => ⟨x.1, x.2.mono h1 h2⟩
theorem sh_rule {H : Hp} : ∀ {r : Rl}, r.good → Sh H (1000 + 1000 * r.depth) (2 + r.depth) (rv r) := by
  have w : ∀ {s : Str} {k : Nat}, ((s.cps.toList.all fun c => decide (c < 16 ^ 8)) && decide (s.length ≤ 5)) = true → Sh H 60 k (.str s) := fun h => by
    rw [Bool.and_eq_true, decide_eq_true_eq] at h
    exact sh_word h.1 h.2
  have a1 : ∀ {k : Nat}, Sh H 60 k (.str "once") := fun {k} => w (by decide)
  have a2 : ∀ {k : Nat}, Sh H 60 k (.str "every") := fun {k} => w (by decide)
  have a3 : ∀ {k : Nat}, Sh H 60 k (.str "week") := fun {k} => w (by decide)
  have a4 : ∀ {k : Nat}, Sh H 60 k (.str "month") := fun {k} => w (by decide)
  have a5 : ∀ {k : Nat}, Sh H 60 k (.str "from") := fun {k} => w (by decide)
  have a6 : ∀ {k : Nat}, Sh H 60 k (.str "until") := fun {k} => w (by decide)
  have a7 : ∀ {k : Nat}, Sh H 60 k (.str "also") := fun {k} => w (by decide)
  have a8 : ∀ {k : Nat}, Sh H 60 k (.str "but") := fun {k} => w (by decide)
  intro r
  induction r with
  | once h s => intro g; exact (sh_tup (shs_cons (k := 0) a1 (shs_cons (sh_int g.1.small) (shs_cons (sh_int g.2.small) (shs_nil (n := 0)))))).mono (by simp only [Rl.depth]; decide) (by simp only [Rl.depth]; decide)
  | every h s p => intro g; exact (sh_tup (shs_cons (k := 0) a2 (shs_cons (sh_int g.1.small) (shs_cons (sh_int g.2.1.small) (shs_cons (sh_int (by have := g.2.2; unfold small; omega)) (shs_nil (n := 0))))))).mono (by simp only [Rl.depth]; decide) (by simp only [Rl.depth]; decide)
  | week ds t s => intro g; exact (sh_tup (shs_cons (k := 1) a3 (shs_cons (sh_ints (g.1.small (by decide)) (Nat.le_trans g.1.2.1 (by decide))) (shs_cons (sh_int (by have := g.2.1; unfold small; omega)) (shs_cons (sh_int g.2.2.small) (shs_nil (n := 0))))))).mono (by simp only [Rl.depth]; decide) (by simp only [Rl.depth]; decide)
  | month d t s => intro g; exact (sh_tup (shs_cons (k := 0) a4 (shs_cons (sh_int (by have := g.1; unfold small; omega)) (shs_cons (sh_int (by have := g.2.1; unfold small; omega)) (shs_cons (sh_int g.2.2.small) (shs_nil (n := 0))))))).mono (by simp only [Rl.depth]; decide) (by simp only [Rl.depth]; decide)
  | frm h r ih => intro g; exact (sh_tup (shs_cons a5 (shs_cons (sh_int g.1.small) (shs_cons (ih g.2) (shs_nil (n := 0)))))).mono (by simp only [Rl.depth]; omega) (by simp only [Rl.depth]; omega)
  | til h r ih => intro g; exact (sh_tup (shs_cons a6 (shs_cons (sh_int g.1.small) (shs_cons (ih g.2) (shs_nil (n := 0)))))).mono (by simp only [Rl.depth]; omega) (by simp only [Rl.depth]; omega)
  | als h r ih => intro g; exact (sh_tup (shs_cons a7 (shs_cons (sh_int g.1.small) (shs_cons (ih g.2) (shs_nil (n := 0)))))).mono (by simp only [Rl.depth]; omega) (by simp only [Rl.depth]; omega)
  | but ds r ih => intro g; exact (sh_tup (shs_cons a8 (shs_cons ((sh_ints (g.1.small (by decide)) g.1.2.1).mono (Nat.le_refl _) (by omega)) (shs_cons (ih g.2) (shs_nil (n := 0)))))).mono (by simp only [Rl.depth]; omega) (by simp only [Rl.depth]; omega)
end Mine

set_option autoImplicit false
namespace Mine
open PySem

noncomputable def f_is_whole : Fn := { names := 4, params := 1, body := [
  (.ret (.and (.call (.bi .isinstance) [(.loc 0), (.lit (.ty .int))]) (.not (.call (.bi .isinstance) [(.loc 0), (.lit (.ty .bool))]))))] }

noncomputable def f_is_between : Fn := { names := 6, params := 3, body := [
  (.ret (.and (.call (.fn "is_whole") [(.loc 0)]) (.cmp2 (.loc 1) .LtE (.loc 0) .LtE (.loc 2))))] }

noncomputable def f_is_time : Fn := { names := 4, params := 1, body := [
  (.ret (.call (.fn "is_between") [(.loc 0), (.lit (.int 0)), (.bin .Sub (.lit (.int 1000000000000)) (.lit (.int 1)))]))] }

noncomputable def f_are_rising : Fn := { names := 8, params := 3, body := [
  (.ite (.or (.not (.call (.bi .isinstance) [(.loc 0), (.lit (.ty .tuple))])) (.not (.cmp2 (.lit (.int 1)) .LtE (.call (.bi .len) [(.loc 0)]) .LtE (.loc 1)))) [(.ret (.lit (.bool false)))] []),
  (.assign 3 (.neg (.lit (.int 1)))),
  (.for [4] .val [(.loc 0)] [(.ite (.not (.call (.fn "is_between") [(.loc 4), (.bin .Add (.loc 3) (.lit (.int 1))), (.loc 2)])) [(.ret (.lit (.bool false)))] []), (.assign 3 (.loc 4))]),
  (.ret (.lit (.bool true)))] }

noncomputable def f_is_plain : Fn := { names := 5, params := 1, body := [
  (.assign 1 (.sub (.loc 0) (.lit (.int 0)))),
  (.ite (.cmp (.loc 1) .Eq (.lit (.str "once"))) [(.ret (.and (.cmp (.call (.bi .len) [(.loc 0)]) .Eq (.lit (.int 3))) (.and (.call (.fn "is_time") [(.sub (.loc 0) (.lit (.int 1)))]) (.call (.fn "is_between") [(.sub (.loc 0) (.lit (.int 2))), (.lit (.int 1)), (.lit (.int 48))]))))] []),
  (.ite (.cmp (.call (.bi .len) [(.loc 0)]) .NotEq (.lit (.int 4))) [(.ret (.lit (.bool false)))] []),
  (.ite (.cmp (.loc 1) .Eq (.lit (.str "every"))) [(.ret (.and (.call (.fn "is_time") [(.sub (.loc 0) (.lit (.int 1)))]) (.and (.call (.fn "is_between") [(.sub (.loc 0) (.lit (.int 2))), (.lit (.int 1)), (.lit (.int 48))]) (.call (.fn "is_between") [(.sub (.loc 0) (.lit (.int 3))), (.lit (.int 1)), (.lit (.int 1000000))]))))] []),
  (.ite (.or (.not (.call (.fn "is_between") [(.sub (.loc 0) (.lit (.int 2))), (.lit (.int 0)), (.lit (.int 23))])) (.not (.call (.fn "is_between") [(.sub (.loc 0) (.lit (.int 3))), (.lit (.int 1)), (.lit (.int 48))]))) [(.ret (.lit (.bool false)))] []),
  (.ite (.cmp (.loc 1) .Eq (.lit (.str "week"))) [(.ret (.call (.fn "are_rising") [(.sub (.loc 0) (.lit (.int 1))), (.lit (.int 7)), (.lit (.int 6))]))] []),
  (.ret (.and (.cmp (.loc 1) .Eq (.lit (.str "month"))) (.and (.call (.fn "is_between") [(.sub (.loc 0) (.lit (.int 1))), (.neg (.lit (.int 31))), (.lit (.int 31))]) (.cmp (.sub (.loc 0) (.lit (.int 1))) .NotEq (.lit (.int 0))))))] }

noncomputable def f_is_rule : Fn := { names := 5, params := 1, body := [
  (.for [1] .range [(.lit (.int 8))] [(.ite (.or (.not (.call (.bi .isinstance) [(.loc 0), (.lit (.ty .tuple))])) (.or (.cmp (.call (.bi .len) [(.loc 0)]) .Eq (.lit (.int 0))) (.not (.call (.bi .isinstance) [(.sub (.loc 0) (.lit (.int 0))), (.lit (.ty .str))])))) [(.ret (.lit (.bool false)))] []), (.ite (.cmp (.sub (.loc 0) (.lit (.int 0))) .NotIn (.lit (.tup [(.str "from"), (.str "until"), (.str "also"), (.str "but")]))) [(.ret (.call (.fn "is_plain") [(.loc 0)]))] []), (.ite (.cmp (.call (.bi .len) [(.loc 0)]) .NotEq (.lit (.int 3))) [(.ret (.lit (.bool false)))] []), (.ite (.and (.cmp (.sub (.loc 0) (.lit (.int 0))) .Eq (.lit (.str "but"))) (.not (.call (.fn "are_rising") [(.sub (.loc 0) (.lit (.int 1))), (.lit (.int 20)), (.bin .Sub (.lit (.int 100000000000)) (.lit (.int 1)))]))) [(.ret (.lit (.bool false)))] []), (.ite (.and (.cmp (.sub (.loc 0) (.lit (.int 0))) .NotEq (.lit (.str "but"))) (.not (.call (.fn "is_time") [(.sub (.loc 0) (.lit (.int 1)))]))) [(.ret (.lit (.bool false)))] []), (.assign 0 (.sub (.loc 0) (.lit (.int 2))))]),
  (.ret (.lit (.bool false)))] }

noncomputable def f_shown : Fn := { names := 6, params := 1, body := [
  (.assign 1 (.lst [])),
  (.for [2] .val [(.loc 0)] [(.ite (.call (.bi .isinstance) [(.loc 2), (.lit (.ty .str))]) [(.expr (.meth (.loc 1) .append [(.loc 2)]))] [(.ite (.call (.bi .isinstance) [(.loc 2), (.lit (.ty .int))]) [(.expr (.meth (.loc 1) .append [(.call (.ty .str) [(.loc 2)])]))] [(.ite (.call (.bi .isinstance) [(.sub (.loc 2) (.lit (.int 0))), (.lit (.ty .str))]) [(.expr (.meth (.loc 1) .append [(.call (.fn "shown") [(.loc 2)])]))] [(.expr (.meth (.loc 1) .append [(.strm (.lit (.str ",")) true (.comp (.call (.ty .str) [(.loc 3)]) [3] .val [(.loc 2)] []))]))])])])]),
  (.ret (.strm (.lit (.str " ")) true (.loc 1)))] }

noncomputable def f_number_of : Fn := { names := 6, params := 1, body := [
  (.assign 1 (.loc 0)),
  (.ite (.cmp (.slice (.loc 0) none (some (.lit (.int 1)))) .Eq (.lit (.str "-"))) [(.assign 1 (.slice (.loc 0) (some (.lit (.int 1))) none))] []),
  (.ite (.or (.cmp (.loc 1) .Eq (.lit (.str ""))) (.cmp (.call (.bi .len) [(.loc 1)]) .Gt (.lit (.int 13)))) [(.raise "" [])] []),
  (.for [2] .val [(.loc 1)] [(.ite (.cmp (.loc 2) .NotIn (.lit (.str "0123456789"))) [(.raise "" [])] [])]),
  (.ret (.call (.ty .int) [(.loc 0)]))] }

noncomputable def f_numbers_of : Fn := { names := 4, params := 1, body := [
  (.ret (.call (.ty .tuple) [(.comp (.call (.fn "number_of") [(.loc 1)]) [1] .val [(.strm (.loc 0) false (.lit (.str ",")))] [])]))] }

noncomputable def f_plain_of : Fn := { names := 4, params := 1, body := [
  (.ite (.or (.cmp (.call (.bi .len) [(.loc 0)]) .Lt (.lit (.int 3))) (.cmp (.call (.bi .len) [(.loc 0)]) .Gt (.lit (.int 4)))) [(.raise "" [])] []),
  (.ite (.cmp (.sub (.loc 0) (.lit (.int 0))) .Eq (.lit (.str "week"))) [(.ret (.call (.ty .tuple) [(.bin .Add (.lst [(.sub (.loc 0) (.lit (.int 0))), (.call (.fn "numbers_of") [(.sub (.loc 0) (.lit (.int 1)))])]) (.comp (.call (.fn "number_of") [(.loc 1)]) [1] .val [(.slice (.loc 0) (some (.lit (.int 2))) none)] []))]))] []),
  (.ret (.call (.ty .tuple) [(.bin .Add (.lst [(.sub (.loc 0) (.lit (.int 0)))]) (.comp (.call (.fn "number_of") [(.loc 1)]) [1] .val [(.slice (.loc 0) (some (.lit (.int 1))) none)] []))]))] }

noncomputable def f_rule_of : Fn := { names := 6, params := 2, body := [
  (.ite (.or (.cmp (.call (.bi .len) [(.loc 0)]) .Eq (.lit (.int 0))) (.cmp (.loc 1) .Eq (.lit (.int 0)))) [(.raise "" [])] []),
  (.ite (.cmp (.sub (.loc 0) (.lit (.int 0))) .NotIn (.lit (.tup [(.str "from"), (.str "until"), (.str "also"), (.str "but")]))) [(.ret (.call (.fn "plain_of") [(.loc 0)]))] []),
  (.ite (.cmp (.call (.bi .len) [(.loc 0)]) .Lt (.lit (.int 3))) [(.raise "" [])] []),
  (.assign 2 (.call (.fn "rule_of") [(.slice (.loc 0) (some (.lit (.int 2))) none), (.bin .Sub (.loc 1) (.lit (.int 1)))])),
  (.ite (.cmp (.sub (.loc 0) (.lit (.int 0))) .Eq (.lit (.str "but"))) [(.ret (.tup [(.sub (.loc 0) (.lit (.int 0))), (.call (.fn "numbers_of") [(.sub (.loc 0) (.lit (.int 1)))]), (.loc 2)]))] []),
  (.ret (.tup [(.sub (.loc 0) (.lit (.int 0))), (.call (.fn "number_of") [(.sub (.loc 0) (.lit (.int 1)))]), (.loc 2)]))] }

noncomputable def f_read : Fn := { names := 5, params := 1, body := [
  (.assign 1 (.call (.fn "rule_of") [(.strm (.loc 0) false (.lit (.str " "))), (.lit (.int 8))])),
  (.ite (.or (.not (.call (.fn "is_rule") [(.loc 1)])) (.cmp (.call (.fn "shown") [(.loc 1)]) .NotEq (.loc 0))) [(.raise "" [])] []),
  (.ret (.loc 1))] }

noncomputable def f_l_cell_at : Fn := { names := 5, params := 2, body := [
  (.ite (.cmp (.loc 1) .Lt (.call (.bi .len) [(.loc 0)])) [(.ret (.sub (.loc 0) (.loc 1)))] []),
  (.ret (.lit (.int 0)))] }

noncomputable def f_l_weekdays : Fn := { names := 6, params := 1, body := [
  (.assign 1 (.lst [])),
  (.for [2] .range [(.lit (.int 7))] [(.ite (.cmp (.bin .Mod (.loc 0) (.lit (.int 2))) .Eq (.lit (.int 1))) [(.expr (.meth (.loc 1) .append [(.loc 2)]))] []), (.assign 0 (.bin .FloorDiv (.loc 0) (.lit (.int 2))))]),
  (.ret (.call (.ty .tuple) [(.loc 1)]))] }

noncomputable def f_l_time : Fn := { names := 4, params := 1, body := [
  (.ret (.sub (.lst [(.bin .Mod (.bin .FloorDiv (.loc 0) (.lit (.int 3))) (.lit (.int 200))), (.bin .Mod (.bin .FloorDiv (.loc 0) (.lit (.int 3))) (.bin .Pow (.lit (.int 10)) (.lit (.int 12)))), (.bin .Sub (.bin .Sub (.bin .Pow (.lit (.int 10)) (.lit (.int 12))) (.lit (.int 1))) (.bin .Mod (.bin .FloorDiv (.loc 0) (.lit (.int 3))) (.lit (.int 3))))]) (.bin .Mod (.loc 0) (.lit (.int 3)))))] }

noncomputable def f_l_wide_plain : Fn := { names := 7, params := 1, body := [
  (.assign 1 (.bin .Mod (.sub (.loc 0) (.lit (.int 0))) (.lit (.int 4)))),
  (.assign 2 (.bin .Add (.lit (.int 1)) (.bin .Mod (.bin .FloorDiv (.sub (.loc 0) (.lit (.int 0))) (.lit (.int 4))) (.lit (.int 48))))),
  (.ite (.cmp (.loc 1) .Eq (.lit (.int 0))) [(.ret (.tup [(.lit (.str "once")), (.call (.fn "_law_time") [(.sub (.loc 0) (.lit (.int 1)))]), (.loc 2)]))] []),
  (.ite (.cmp (.loc 1) .Eq (.lit (.int 1))) [(.ret (.tup [(.lit (.str "every")), (.call (.fn "_law_time") [(.sub (.loc 0) (.lit (.int 1)))]), (.loc 2), (.bin .Add (.lit (.int 1)) (.sub (.lst [(.bin .Mod (.bin .FloorDiv (.sub (.loc 0) (.lit (.int 2))) (.lit (.int 2))) (.lit (.int 30))), (.bin .Mod (.bin .FloorDiv (.sub (.loc 0) (.lit (.int 2))) (.lit (.int 2))) (.bin .Pow (.lit (.int 10)) (.lit (.int 6))))]) (.bin .Mod (.sub (.loc 0) (.lit (.int 2))) (.lit (.int 2)))))]))] []),
  (.ite (.cmp (.loc 1) .Eq (.lit (.int 2))) [(.ret (.tup [(.lit (.str "week")), (.call (.fn "_law_weekdays") [(.bin .Add (.lit (.int 1)) (.bin .Mod (.sub (.loc 0) (.lit (.int 2))) (.lit (.int 127))))]), (.bin .Mod (.sub (.loc 0) (.lit (.int 1))) (.lit (.int 24))), (.loc 2)]))] []),
  (.assign 3 (.bin .Sub (.bin .Mod (.sub (.loc 0) (.lit (.int 2))) (.lit (.int 62))) (.lit (.int 31)))),
  (.ret (.tup [(.lit (.str "month")), (.bin .Add (.loc 3) (.call (.ty .int) [(.cmp (.loc 3) .GtE (.lit (.int 0)))])), (.bin .Mod (.sub (.loc 0) (.lit (.int 1))) (.lit (.int 24))), (.loc 2)]))] }

noncomputable def f_l_wide_head : Fn := { names := 8, params := 2, body := [
  (.assign 2 (.sub (.lst [(.lit (.str "from")), (.lit (.str "until")), (.lit (.str "also")), (.lit (.str "but"))]) (.bin .Mod (.loc 0) (.lit (.int 4))))),
  (.ite (.cmp (.loc 2) .NotEq (.lit (.str "but"))) [(.ret (.tup [(.loc 2), (.call (.fn "_law_time") [(.bin .FloorDiv (.loc 0) (.lit (.int 4)))]), (.loc 1)]))] []),
  (.assign 3 (.bin .Add (.lit (.int 1)) (.bin .Mod (.bin .FloorDiv (.loc 0) (.lit (.int 4))) (.lit (.int 20))))),
  (.assign 4 (.sub (.lst [(.bin .Mod (.bin .FloorDiv (.loc 0) (.lit (.int 80))) (.lit (.int 100))), (.bin .Mod (.bin .FloorDiv (.loc 0) (.lit (.int 80))) (.bin .Sub (.bin .Pow (.lit (.int 10)) (.lit (.int 11))) (.lit (.int 200)))), (.bin .Sub (.bin .Pow (.lit (.int 10)) (.lit (.int 11))) (.bin .Mult (.loc 3) (.lit (.int 3))))]) (.bin .Mod (.bin .FloorDiv (.loc 0) (.lit (.int 7))) (.lit (.int 3))))),
  (.ret (.tup [(.loc 2), (.call (.ty .tuple) [(.comp (.bin .Add (.loc 4) (.bin .Mult (.loc 5) (.bin .Add (.lit (.int 1)) (.bin .Mod (.bin .FloorDiv (.loc 0) (.lit (.int 11))) (.lit (.int 3)))))) [5] .range [(.loc 3)] [])]), (.loc 1)]))] }

noncomputable def f_l_bearing : Fn := { names := 3, params := 0, body := [
  (.ret (.lst [(.lit (.str "from")), (.lit (.str "until")), (.lit (.str "also")), (.lit (.str "but"))]))] }

noncomputable def f_l_heads : Fn := { names := 5, params := 1, body := [
  (.assign 1 (.lst [])),
  (.while (.cmp (.sub (.loc 0) (.lit (.int 0))) .In (.call (.fn "_law_bearing") [])) [(.expr (.meth (.loc 1) .append [(.loc 0)])), (.assign 0 (.sub (.loc 0) (.lit (.int 2))))]),
  (.ret (.bin .Add (.loc 1) (.lst [(.loc 0)])))] }

noncomputable def f_l_part : Fn := { names := 4, params := 1, body := [
  (.ite (.call (.bi .isinstance) [(.loc 0), (.lit (.ty .tuple))]) [(.ret (.strm (.lit (.str ",")) true (.comp (.call (.ty .str) [(.loc 1)]) [1] .val [(.loc 0)] [])))] []),
  (.ret (.call (.ty .str) [(.loc 0)]))] }

noncomputable def f_l_written : Fn := { names := 7, params := 1, body := [
  (.assign 1 (.lst [])),
  (.for [2] .val [(.call (.fn "_law_heads") [(.loc 0)])] [(.assign 3 (.call (.ty .list) [(.loc 2)])), (.ite (.cmp (.sub (.loc 2) (.lit (.int 0))) .In (.call (.fn "_law_bearing") [])) [(.assign 3 (.lst [(.sub (.loc 2) (.lit (.int 0))), (.sub (.loc 2) (.lit (.int 1)))]))] []), (.assign 1 (.bin .Add (.loc 1) (.comp (.call (.fn "_law_part") [(.loc 4)]) [4] .val [(.loc 3)] [])))]),
  (.ret (.strm (.lit (.str " ")) true (.loc 1)))] }

noncomputable def f_lawF : Fn := { names := 9, params := 1, body := [
  (.assign 2 (.call (.fn "_law_wide_plain") [(.comp (.call (.fn "_law_cell_at") [(.loc 0), (.loc 6)]) [6] .range [(.lit (.int 3))] [])])),
  (.for [1] .range [(.bin .Mod (.call (.fn "_law_cell_at") [(.loc 0), (.lit (.int 3))]) (.lit (.int 8)))] [(.assign 2 (.call (.fn "_law_wide_head") [(.call (.fn "_law_cell_at") [(.loc 0), (.bin .Add (.lit (.int 4)) (.loc 1))]), (.loc 2)]))]),
  (.assign 3 (.call (.fn "_law_written") [(.loc 2)])),
  (.assign 4 (.call (.fn "shown") [(.loc 2)])),
  (.ite (.or (.not (.call (.bi .isinstance) [(.loc 4), (.lit (.ty .str))])) (.cmp (.loc 4) .NotEq (.loc 3))) [(.ret (.lit (.bool false)))] []),
  (.assign 5 (.call (.fn "read") [(.loc 3)])),
  (.ret (.and (.call (.bi .isinstance) [(.loc 5), (.lit (.ty .tuple))]) (.cmp (.call (.bi .repr) [(.loc 5)]) .Eq (.call (.bi .repr) [(.loc 2)]))))] }

end Mine

set_option autoImplicit false
set_option linter.unusedSimpArgs false
set_option maxRecDepth 20000
/- Law 06: is_rule. -/
namespace Mine
open PySem

theorem sw_once_once : ((Str.ofString "once") == (Str.ofString "once")) = true := by decide
theorem sw_once_every : ((Str.ofString "once") == (Str.ofString "every")) = false := by decide
theorem sw_once_week : ((Str.ofString "once") == (Str.ofString "week")) = false := by decide
theorem sw_once_month : ((Str.ofString "once") == (Str.ofString "month")) = false := by decide
theorem sw_once_from : ((Str.ofString "once") == (Str.ofString "from")) = false := by decide
theorem sw_once_until : ((Str.ofString "once") == (Str.ofString "until")) = false := by decide
theorem sw_once_also : ((Str.ofString "once") == (Str.ofString "also")) = false := by decide
theorem sw_once_but : ((Str.ofString "once") == (Str.ofString "but")) = false := by decide
theorem sw_every_once : ((Str.ofString "every") == (Str.ofString "once")) = false := by decide
theorem sw_every_every : ((Str.ofString "every") == (Str.ofString "every")) = true := by decide
theorem sw_every_week : ((Str.ofString "every") == (Str.ofString "week")) = false := by decide
theorem sw_every_month : ((Str.ofString "every") == (Str.ofString "month")) = false := by decide
theorem sw_every_from : ((Str.ofString "every") == (Str.ofString "from")) = false := by decide
theorem sw_every_until : ((Str.ofString "every") == (Str.ofString "until")) = false := by decide
theorem sw_every_also : ((Str.ofString "every") == (Str.ofString "also")) = false := by decide
theorem sw_every_but : ((Str.ofString "every") == (Str.ofString "but")) = false := by decide
theorem sw_week_once : ((Str.ofString "week") == (Str.ofString "once")) = false := by decide
theorem sw_week_every : ((Str.ofString "week") == (Str.ofString "every")) = false := by decide
theorem sw_week_week : ((Str.ofString "week") == (Str.ofString "week")) = true := by decide
theorem sw_week_month : ((Str.ofString "week") == (Str.ofString "month")) = false := by decide
theorem sw_week_from : ((Str.ofString "week") == (Str.ofString "from")) = false := by decide
theorem sw_week_until : ((Str.ofString "week") == (Str.ofString "until")) = false := by decide
theorem sw_week_also : ((Str.ofString "week") == (Str.ofString "also")) = false := by decide
theorem sw_week_but : ((Str.ofString "week") == (Str.ofString "but")) = false := by decide
theorem sw_month_once : ((Str.ofString "month") == (Str.ofString "once")) = false := by decide
theorem sw_month_every : ((Str.ofString "month") == (Str.ofString "every")) = false := by decide
theorem sw_month_week : ((Str.ofString "month") == (Str.ofString "week")) = false := by decide
theorem sw_month_month : ((Str.ofString "month") == (Str.ofString "month")) = true := by decide
theorem sw_month_from : ((Str.ofString "month") == (Str.ofString "from")) = false := by decide
theorem sw_month_until : ((Str.ofString "month") == (Str.ofString "until")) = false := by decide
theorem sw_month_also : ((Str.ofString "month") == (Str.ofString "also")) = false := by decide
theorem sw_month_but : ((Str.ofString "month") == (Str.ofString "but")) = false := by decide
theorem sw_from_once : ((Str.ofString "from") == (Str.ofString "once")) = false := by decide
theorem sw_from_every : ((Str.ofString "from") == (Str.ofString "every")) = false := by decide
theorem sw_from_week : ((Str.ofString "from") == (Str.ofString "week")) = false := by decide
theorem sw_from_month : ((Str.ofString "from") == (Str.ofString "month")) = false := by decide
theorem sw_from_from : ((Str.ofString "from") == (Str.ofString "from")) = true := by decide
theorem sw_from_until : ((Str.ofString "from") == (Str.ofString "until")) = false := by decide
theorem sw_from_also : ((Str.ofString "from") == (Str.ofString "also")) = false := by decide
theorem sw_from_but : ((Str.ofString "from") == (Str.ofString "but")) = false := by decide
theorem sw_until_once : ((Str.ofString "until") == (Str.ofString "once")) = false := by decide
theorem sw_until_every : ((Str.ofString "until") == (Str.ofString "every")) = false := by decide
theorem sw_until_week : ((Str.ofString "until") == (Str.ofString "week")) = false := by decide
theorem sw_until_month : ((Str.ofString "until") == (Str.ofString "month")) = false := by decide
theorem sw_until_from : ((Str.ofString "until") == (Str.ofString "from")) = false := by decide
theorem sw_until_until : ((Str.ofString "until") == (Str.ofString "until")) = true := by decide
theorem sw_until_also : ((Str.ofString "until") == (Str.ofString "also")) = false := by decide
theorem sw_until_but : ((Str.ofString "until") == (Str.ofString "but")) = false := by decide
theorem sw_also_once : ((Str.ofString "also") == (Str.ofString "once")) = false := by decide
theorem sw_also_every : ((Str.ofString "also") == (Str.ofString "every")) = false := by decide
theorem sw_also_week : ((Str.ofString "also") == (Str.ofString "week")) = false := by decide
theorem sw_also_month : ((Str.ofString "also") == (Str.ofString "month")) = false := by decide
theorem sw_also_from : ((Str.ofString "also") == (Str.ofString "from")) = false := by decide
theorem sw_also_until : ((Str.ofString "also") == (Str.ofString "until")) = false := by decide
theorem sw_also_also : ((Str.ofString "also") == (Str.ofString "also")) = true := by decide
theorem sw_also_but : ((Str.ofString "also") == (Str.ofString "but")) = false := by decide
theorem sw_but_once : ((Str.ofString "but") == (Str.ofString "once")) = false := by decide
theorem sw_but_every : ((Str.ofString "but") == (Str.ofString "every")) = false := by decide
theorem sw_but_week : ((Str.ofString "but") == (Str.ofString "week")) = false := by decide
theorem sw_but_month : ((Str.ofString "but") == (Str.ofString "month")) = false := by decide
theorem sw_but_from : ((Str.ofString "but") == (Str.ofString "from")) = false := by decide
theorem sw_but_until : ((Str.ofString "but") == (Str.ofString "until")) = false := by decide
theorem sw_but_also : ((Str.ofString "but") == (Str.ofString "also")) = false := by decide
theorem sw_but_but : ((Str.ofString "but") == (Str.ofString "but")) = true := by decide
noncomputable abbrev Ctr := List V → Hp → (V → Hp → Prop) → XL → Prop
theorem listAt_set {H : Hp} {n : Nat} {l m : List V} (h : listAt H n = some l) : listAt (H.set n (.list m)) n = some m := by
  unfold listAt at h ⊢
  split at h
  · rename_i xs e
    have hlt := (List.getElem?_eq_some_iff.mp e).1
    rw [List.getElem?_set_self hlt]
  · cases h
theorem pre_set {H H' : Hp} {n : Nat} {o : O} (p : H <+: H') (hn : H.length ≤ n) : H <+: H'.set n o := by
  obtain ⟨Δ, rfl⟩ := p
  rw [List.set_append_right _ _ hn]
  exact List.prefix_append _ _
theorem isi_int_int {H : Hp} {x : Int} : isInstH H (.int x) .int = some true := rfl
theorem isi_int_bool {H : Hp} {x : Int} : isInstH H (.int x) .bool = some false := rfl
theorem isi_tup_tup {H : Hp} {l : List V} : isInstH H (.tup l) .tuple = some true := rfl
theorem isi_tup_str {H : Hp} {l : List V} : isInstH H (.tup l) .str = some false := rfl
theorem isi_tup_int {H : Hp} {l : List V} : isInstH H (.tup l) .int = some false := rfl
theorem isi_int_str {H : Hp} {x : Int} : isInstH H (.int x) .str = some false := rfl
theorem isi_int_tup {H : Hp} {x : Int} : isInstH H (.int x) .tuple = some false := rfl
theorem isi_str_str {H : Hp} {x : Str} : isInstH H (.str x) .str = some true := rfl
theorem isi_str_tup {H : Hp} {x : Str} : isInstH H (.str x) .tuple = some false := rfl
theorem mo_once : memV (.str "once") [V.str "from", .str "until", .str "also", .str "but"] = some false := by decide
theorem mo_every : memV (.str "every") [V.str "from", .str "until", .str "also", .str "but"] = some false := by decide
theorem mo_week : memV (.str "week") [V.str "from", .str "until", .str "also", .str "but"] = some false := by decide
theorem mo_month : memV (.str "month") [V.str "from", .str "until", .str "also", .str "but"] = some false := by decide
theorem mo_frm : memV (.str "from") [V.str "from", .str "until", .str "also", .str "but"] = some true := by decide
theorem mo_til : memV (.str "until") [V.str "from", .str "until", .str "also", .str "but"] = some true := by decide
theorem mo_als : memV (.str "also") [V.str "from", .str "until", .str "also", .str "but"] = some true := by decide
theorem mo_but : memV (.str "but") [V.str "from", .str "until", .str "also", .str "but"] = some true := by decide

noncomputable def C_iw : Ctr := fun vs H Q _ => ∃ i : Int, vs = [.int i] ∧ Q (.bool true) H
theorem w_is_whole : ∀ vs H Q X, C_iw vs H Q X → wpFn noΦ f_is_whole vs H Q X := by
  rintro vs H Q X ⟨i, rfl, q⟩
  refine fn_of rfl ?_
  simp only [f_is_whole, initL, List.map_cons, List.map_nil, List.replicate, List.cons_append, List.nil_append, ↓X_lit, ↓X_loc, ↓X_bin, ↓negX_int, ↓X_neg, ↓X_not, ↓Y_not, ↓X_and, ↓Y_and, ↓X_or, ↓Y_or, ↓X_cmp, ↓X_cmp2, ↓X_ite, ↓Y_ite, ↓X_tup, ↓X_lst, ↓X_call, ↓X_meth, ↓X_sub, ↓X_comp, ↓Y_lit, ↓Y_loc, ↓Y_cmp, ↓Y_cmp2, ↓Y_call, ↓Y_sub, ↓XEs_nil, ↓XEs_cons, ↓XIfs_nil, ↓XIfs_cons, ↓Z_expr, ↓Z_assign, ↓Z_ret, ↓Z_retNone, ↓Z_ite, ↓Z_for, ↓Z_raise, ↓Z_pass, ↓Z_brk, ↓Z_cont, ↓Zs_nil, ↓sqX_next, ↓sqX_brk, ↓sqX_cont, ↓sqX_ret, ↓Zs_cons, ↓wkX_next, ↓wkX_cont, ↓wkX_brk, ↓wkX_ret, ↓fkX_next, ↓fkX_cont, ↓fkX_brk, ↓fkX_ret, ↓xb_one, ↓oKK_some, ↓oK_some, ↓tX_bool, ↓iX_t, ↓iX_f, ↓iX_d, ↓q_add, ↓q_sub, ↓q_mul, ↓q_div, ↓q_mod, ↓q_pow, ↓q_list, ↓q_eq, ↓q_ne, ↓q_eqs, ↓q_nes, ↓q_eqb, ↓q_lt, ↓q_le, ↓q_gt, ↓q_ge, ↓q_in, ↓q_inl, ↓q_nin, ↓q_is, ↓q_isnot, ↓q_stup, ↓q_sref, ↓q_sscr, ↓q_fn, ↓q_lentup, ↓q_lenref, ↓q_lenscr, ↓q_isi, ↓q_all, ↓q_max, ↓q_min, ↓q_int, ↓q_tuple, ↓q_listc, ↓q_append, ↓q_clear, ↓q_index, ↓q_pop, ↓q_slicet, ↓q_revt, ↓q_revl, ↓q_set, ↓q_repr, ↓q_eqo, ↓X_rev, ↓Z_set, ↓q_addt, ↓q_listt, ↓q_ninl, ↓u_tup, ↓u_ref, ↓u_range, ↓q_slice, ↓oi_none, ↓oi_int, ↓X_slice, ↓XO_none, ↓XO_some, ↓u_rev, ↓u_zip, ↓xb_two, ↓u_range2, ↓retV_ret, ↓retV_next, List.getElem?_cons_zero, List.getElem?_cons_succ, List.set_cons_zero, List.set_cons_succ, Bool.not_true, Bool.not_false, idx_0, idx_1, idx_2, idx_3, idx_4, idx_5, Int.reduceAdd, Int.reduceSub, Int.reduceMul, Int.reduceNeg, Int.reducePow, Int.reduceLT, Int.reduceLE, Int.reduceEq, Int.reduceNe, Int.reduceToNat, Int.reduceAbs, Nat.reduceAdd, Nat.reduceLT, Nat.reduceLeDiff, Nat.reducePow, Nat.reduceLT, List.length_cons, List.length_nil, true_implies, false_implies, not_true_eq_false, not_false_eq_true, and_true, true_and, and_self, or_true, true_or, decide_true, decide_false, exists_eq_left', Option.some.injEq, isi_int_int, isi_int_bool]
  exact q
noncomputable def A1 : Orc := ext "is_whole" C_iw noΦ
theorem A1_iw : A1 "is_whole" = C_iw := rfl
noncomputable def C_ib : Ctr := fun vs H Q _ => ∃ i lo hi : Int, vs = [.int i, .int lo, .int hi] ∧ (lo ≤ i ∧ i ≤ hi) ∧ Q (.bool true) H
theorem c_ib {i lo hi : Int} {H : Hp} {Q : V → Hp → Prop} {X : XL} (h : lo ≤ i ∧ i ≤ hi) : C_ib [.int i, .int lo, .int hi] H Q X = Q (.bool true) H :=
  propext ⟨fun ⟨_, _, _, e, _, q⟩ => by cases e; exact q, fun q => ⟨_, _, _, rfl, h, q⟩⟩
theorem w_is_between : ∀ vs H Q X, C_ib vs H Q X → wpFn A1 f_is_between vs H Q X := by
  rintro vs H Q X ⟨i, lo, hi, rfl, h, q⟩
  refine fn_of rfl ?_
  simp only [f_is_between, initL, List.map_cons, List.map_nil, List.replicate, List.cons_append, List.nil_append, ↓X_lit, ↓X_loc, ↓X_bin, ↓negX_int, ↓X_neg, ↓X_not, ↓Y_not, ↓X_and, ↓Y_and, ↓X_or, ↓Y_or, ↓X_cmp, ↓X_cmp2, ↓X_ite, ↓Y_ite, ↓X_tup, ↓X_lst, ↓X_call, ↓X_meth, ↓X_sub, ↓X_comp, ↓Y_lit, ↓Y_loc, ↓Y_cmp, ↓Y_cmp2, ↓Y_call, ↓Y_sub, ↓XEs_nil, ↓XEs_cons, ↓XIfs_nil, ↓XIfs_cons, ↓Z_expr, ↓Z_assign, ↓Z_ret, ↓Z_retNone, ↓Z_ite, ↓Z_for, ↓Z_raise, ↓Z_pass, ↓Z_brk, ↓Z_cont, ↓Zs_nil, ↓sqX_next, ↓sqX_brk, ↓sqX_cont, ↓sqX_ret, ↓Zs_cons, ↓wkX_next, ↓wkX_cont, ↓wkX_brk, ↓wkX_ret, ↓fkX_next, ↓fkX_cont, ↓fkX_brk, ↓fkX_ret, ↓xb_one, ↓oKK_some, ↓oK_some, ↓tX_bool, ↓iX_t, ↓iX_f, ↓iX_d, ↓q_add, ↓q_sub, ↓q_mul, ↓q_div, ↓q_mod, ↓q_pow, ↓q_list, ↓q_eq, ↓q_ne, ↓q_eqs, ↓q_nes, ↓q_eqb, ↓q_lt, ↓q_le, ↓q_gt, ↓q_ge, ↓q_in, ↓q_inl, ↓q_nin, ↓q_is, ↓q_isnot, ↓q_stup, ↓q_sref, ↓q_sscr, ↓q_fn, ↓q_lentup, ↓q_lenref, ↓q_lenscr, ↓q_isi, ↓q_all, ↓q_max, ↓q_min, ↓q_int, ↓q_tuple, ↓q_listc, ↓q_append, ↓q_clear, ↓q_index, ↓q_pop, ↓q_slicet, ↓q_revt, ↓q_revl, ↓q_set, ↓q_repr, ↓q_eqo, ↓X_rev, ↓Z_set, ↓q_addt, ↓q_listt, ↓q_ninl, ↓u_tup, ↓u_ref, ↓u_range, ↓q_slice, ↓oi_none, ↓oi_int, ↓X_slice, ↓XO_none, ↓XO_some, ↓u_rev, ↓u_zip, ↓xb_two, ↓u_range2, ↓retV_ret, ↓retV_next, List.getElem?_cons_zero, List.getElem?_cons_succ, List.set_cons_zero, List.set_cons_succ, Bool.not_true, Bool.not_false, idx_0, idx_1, idx_2, idx_3, idx_4, idx_5, Int.reduceAdd, Int.reduceSub, Int.reduceMul, Int.reduceNeg, Int.reducePow, Int.reduceLT, Int.reduceLE, Int.reduceEq, Int.reduceNe, Int.reduceToNat, Int.reduceAbs, Nat.reduceAdd, Nat.reduceLT, Nat.reduceLeDiff, Nat.reducePow, Nat.reduceLT, List.length_cons, List.length_nil, true_implies, false_implies, not_true_eq_false, not_false_eq_true, and_true, true_and, and_self, or_true, true_or, decide_true, decide_false, exists_eq_left', Option.some.injEq, ↓A1_iw]
  refine ⟨i, rfl, ?_⟩
  simp only [↓X_lit, ↓X_loc, ↓X_bin, ↓negX_int, ↓X_neg, ↓X_not, ↓Y_not, ↓X_and, ↓Y_and, ↓X_or, ↓Y_or, ↓X_cmp, ↓X_cmp2, ↓X_ite, ↓Y_ite, ↓X_tup, ↓X_lst, ↓X_call, ↓X_meth, ↓X_sub, ↓X_comp, ↓Y_lit, ↓Y_loc, ↓Y_cmp, ↓Y_cmp2, ↓Y_call, ↓Y_sub, ↓XEs_nil, ↓XEs_cons, ↓XIfs_nil, ↓XIfs_cons, ↓Z_expr, ↓Z_assign, ↓Z_ret, ↓Z_retNone, ↓Z_ite, ↓Z_for, ↓Z_raise, ↓Z_pass, ↓Z_brk, ↓Z_cont, ↓Zs_nil, ↓sqX_next, ↓sqX_brk, ↓sqX_cont, ↓sqX_ret, ↓Zs_cons, ↓wkX_next, ↓wkX_cont, ↓wkX_brk, ↓wkX_ret, ↓fkX_next, ↓fkX_cont, ↓fkX_brk, ↓fkX_ret, ↓xb_one, ↓oKK_some, ↓oK_some, ↓tX_bool, ↓iX_t, ↓iX_f, ↓iX_d, ↓q_add, ↓q_sub, ↓q_mul, ↓q_div, ↓q_mod, ↓q_pow, ↓q_list, ↓q_eq, ↓q_ne, ↓q_eqs, ↓q_nes, ↓q_eqb, ↓q_lt, ↓q_le, ↓q_gt, ↓q_ge, ↓q_in, ↓q_inl, ↓q_nin, ↓q_is, ↓q_isnot, ↓q_stup, ↓q_sref, ↓q_sscr, ↓q_fn, ↓q_lentup, ↓q_lenref, ↓q_lenscr, ↓q_isi, ↓q_all, ↓q_max, ↓q_min, ↓q_int, ↓q_tuple, ↓q_listc, ↓q_append, ↓q_clear, ↓q_index, ↓q_pop, ↓q_slicet, ↓q_revt, ↓q_revl, ↓q_set, ↓q_repr, ↓q_eqo, ↓X_rev, ↓Z_set, ↓q_addt, ↓q_listt, ↓q_ninl, ↓u_tup, ↓u_ref, ↓u_range, ↓q_slice, ↓oi_none, ↓oi_int, ↓X_slice, ↓XO_none, ↓XO_some, ↓u_rev, ↓u_zip, ↓xb_two, ↓u_range2, ↓retV_ret, ↓retV_next, List.getElem?_cons_zero, List.getElem?_cons_succ, List.set_cons_zero, List.set_cons_succ, Bool.not_true, Bool.not_false, idx_0, idx_1, idx_2, idx_3, idx_4, idx_5, Int.reduceAdd, Int.reduceSub, Int.reduceMul, Int.reduceNeg, Int.reducePow, Int.reduceLT, Int.reduceLE, Int.reduceEq, Int.reduceNe, Int.reduceToNat, Int.reduceAbs, Nat.reduceAdd, Nat.reduceLT, Nat.reduceLeDiff, Nat.reducePow, Nat.reduceLT, List.length_cons, List.length_nil, true_implies, false_implies, not_true_eq_false, not_false_eq_true, and_true, true_and, and_self, or_true, true_or, decide_true, decide_false, exists_eq_left', Option.some.injEq, h.1, h.2]
  exact q
noncomputable def A2 : Orc := ext "is_between" C_ib A1
theorem A2_ib : A2 "is_between" = C_ib := rfl
noncomputable def C_it : Ctr := fun vs H Q _ => ∃ i : Int, vs = [.int i] ∧ tm i ∧ Q (.bool true) H
theorem c_it {i : Int} {H : Hp} {Q : V → Hp → Prop} {X : XL} (h : tm i) : C_it [.int i] H Q X = Q (.bool true) H :=
  propext ⟨fun ⟨_, e, _, q⟩ => by cases e; exact q, fun q => ⟨_, rfl, h, q⟩⟩
theorem w_is_time : ∀ vs H Q X, C_it vs H Q X → wpFn A2 f_is_time vs H Q X := by
  rintro vs H Q X ⟨i, rfl, h, q⟩
  refine fn_of rfl ?_
  simp only [f_is_time, initL, List.map_cons, List.map_nil, List.replicate, List.cons_append, List.nil_append, ↓X_lit, ↓X_loc, ↓X_bin, ↓negX_int, ↓X_neg, ↓X_not, ↓Y_not, ↓X_and, ↓Y_and, ↓X_or, ↓Y_or, ↓X_cmp, ↓X_cmp2, ↓X_ite, ↓Y_ite, ↓X_tup, ↓X_lst, ↓X_call, ↓X_meth, ↓X_sub, ↓X_comp, ↓Y_lit, ↓Y_loc, ↓Y_cmp, ↓Y_cmp2, ↓Y_call, ↓Y_sub, ↓XEs_nil, ↓XEs_cons, ↓XIfs_nil, ↓XIfs_cons, ↓Z_expr, ↓Z_assign, ↓Z_ret, ↓Z_retNone, ↓Z_ite, ↓Z_for, ↓Z_raise, ↓Z_pass, ↓Z_brk, ↓Z_cont, ↓Zs_nil, ↓sqX_next, ↓sqX_brk, ↓sqX_cont, ↓sqX_ret, ↓Zs_cons, ↓wkX_next, ↓wkX_cont, ↓wkX_brk, ↓wkX_ret, ↓fkX_next, ↓fkX_cont, ↓fkX_brk, ↓fkX_ret, ↓xb_one, ↓oKK_some, ↓oK_some, ↓tX_bool, ↓iX_t, ↓iX_f, ↓iX_d, ↓q_add, ↓q_sub, ↓q_mul, ↓q_div, ↓q_mod, ↓q_pow, ↓q_list, ↓q_eq, ↓q_ne, ↓q_eqs, ↓q_nes, ↓q_eqb, ↓q_lt, ↓q_le, ↓q_gt, ↓q_ge, ↓q_in, ↓q_inl, ↓q_nin, ↓q_is, ↓q_isnot, ↓q_stup, ↓q_sref, ↓q_sscr, ↓q_fn, ↓q_lentup, ↓q_lenref, ↓q_lenscr, ↓q_isi, ↓q_all, ↓q_max, ↓q_min, ↓q_int, ↓q_tuple, ↓q_listc, ↓q_append, ↓q_clear, ↓q_index, ↓q_pop, ↓q_slicet, ↓q_revt, ↓q_revl, ↓q_set, ↓q_repr, ↓q_eqo, ↓X_rev, ↓Z_set, ↓q_addt, ↓q_listt, ↓q_ninl, ↓u_tup, ↓u_ref, ↓u_range, ↓q_slice, ↓oi_none, ↓oi_int, ↓X_slice, ↓XO_none, ↓XO_some, ↓u_rev, ↓u_zip, ↓xb_two, ↓u_range2, ↓retV_ret, ↓retV_next, List.getElem?_cons_zero, List.getElem?_cons_succ, List.set_cons_zero, List.set_cons_succ, Bool.not_true, Bool.not_false, idx_0, idx_1, idx_2, idx_3, idx_4, idx_5, Int.reduceAdd, Int.reduceSub, Int.reduceMul, Int.reduceNeg, Int.reducePow, Int.reduceLT, Int.reduceLE, Int.reduceEq, Int.reduceNe, Int.reduceToNat, Int.reduceAbs, Nat.reduceAdd, Nat.reduceLT, Nat.reduceLeDiff, Nat.reducePow, Nat.reduceLT, List.length_cons, List.length_nil, true_implies, false_implies, not_true_eq_false, not_false_eq_true, and_true, true_and, and_self, or_true, true_or, decide_true, decide_false, exists_eq_left', Option.some.injEq, ↓A2_ib]
  exact ⟨_, _, _, rfl, h, q⟩
noncomputable def A3 : Orc := ext "is_time" C_it A2
theorem A3_ib : A3 "is_between" = C_ib := rfl
noncomputable def C_ar : Ctr := fun vs H Q _ => ∃ (ds : List Int) (many : Nat) (most : Int), vs = [intsV ds, .int many, .int most] ∧ days many most ds ∧ Q (.bool true) H
theorem c_ar {ds : List Int} {many : Nat} {m most : Int} {H : Hp} {Q : V → Hp → Prop} {X : XL} (hm : m = (many : Int)) (h : days many most ds) : C_ar [intsV ds, .int m, .int most] H Q X = Q (.bool true) H := by
  subst hm
  refine propext ⟨fun ⟨_, _, _, e, _, q⟩ => q, fun q => ⟨_, _, _, rfl, h, q⟩⟩
theorem ar_loop {v : V} {many : Int} {most : Int} {t5 t6 t7 : Option V} {H : Hp} {Q : QS} (hq : ∀ a t, Q .next [some v, some (.int many), some (.int most), some (.int a), t, t5, t6, t7] H) : ∀ (ds : List Int) (a : Int) (t4 : Option V), rise most a ds →
    forGo (whBX A3 [(.ite (.not (.call (.fn "is_between") [(.loc 4), (.bin .Add (.loc 3) (.lit (.int 1))), (.loc 2)])) [(.ret (.lit (.bool false)))] []), (.assign 3 (.loc 4))] noXS) (fun _ => True) [4] (ds.map V.int) [some v, some (.int many), some (.int most), some (.int a), t4, t5, t6, t7] H Q
  | [], a, t4, _ => hq a t4
  | d :: r, a, t4, h => by
    rw [List.map_cons, foX_cons]
    simp only [↓X_lit, ↓X_loc, ↓X_bin, ↓negX_int, ↓X_neg, ↓X_not, ↓Y_not, ↓X_and, ↓Y_and, ↓X_or, ↓Y_or, ↓X_cmp, ↓X_cmp2, ↓X_ite, ↓Y_ite, ↓X_tup, ↓X_lst, ↓X_call, ↓X_meth, ↓X_sub, ↓X_comp, ↓Y_lit, ↓Y_loc, ↓Y_cmp, ↓Y_cmp2, ↓Y_call, ↓Y_sub, ↓XEs_nil, ↓XEs_cons, ↓XIfs_nil, ↓XIfs_cons, ↓Z_expr, ↓Z_assign, ↓Z_ret, ↓Z_retNone, ↓Z_ite, ↓Z_for, ↓Z_raise, ↓Z_pass, ↓Z_brk, ↓Z_cont, ↓Zs_nil, ↓sqX_next, ↓sqX_brk, ↓sqX_cont, ↓sqX_ret, ↓Zs_cons, ↓wkX_next, ↓wkX_cont, ↓wkX_brk, ↓wkX_ret, ↓fkX_next, ↓fkX_cont, ↓fkX_brk, ↓fkX_ret, ↓xb_one, ↓oKK_some, ↓oK_some, ↓tX_bool, ↓iX_t, ↓iX_f, ↓iX_d, ↓q_add, ↓q_sub, ↓q_mul, ↓q_div, ↓q_mod, ↓q_pow, ↓q_list, ↓q_eq, ↓q_ne, ↓q_eqs, ↓q_nes, ↓q_eqb, ↓q_lt, ↓q_le, ↓q_gt, ↓q_ge, ↓q_in, ↓q_inl, ↓q_nin, ↓q_is, ↓q_isnot, ↓q_stup, ↓q_sref, ↓q_sscr, ↓q_fn, ↓q_lentup, ↓q_lenref, ↓q_lenscr, ↓q_isi, ↓q_all, ↓q_max, ↓q_min, ↓q_int, ↓q_tuple, ↓q_listc, ↓q_append, ↓q_clear, ↓q_index, ↓q_pop, ↓q_slicet, ↓q_revt, ↓q_revl, ↓q_set, ↓q_repr, ↓q_eqo, ↓X_rev, ↓Z_set, ↓q_addt, ↓q_listt, ↓q_ninl, ↓u_tup, ↓u_ref, ↓u_range, ↓q_slice, ↓oi_none, ↓oi_int, ↓X_slice, ↓XO_none, ↓XO_some, ↓u_rev, ↓u_zip, ↓xb_two, ↓u_range2, ↓retV_ret, ↓retV_next, List.getElem?_cons_zero, List.getElem?_cons_succ, List.set_cons_zero, List.set_cons_succ, Bool.not_true, Bool.not_false, idx_0, idx_1, idx_2, idx_3, idx_4, idx_5, Int.reduceAdd, Int.reduceSub, Int.reduceMul, Int.reduceNeg, Int.reducePow, Int.reduceLT, Int.reduceLE, Int.reduceEq, Int.reduceNe, Int.reduceToNat, Int.reduceAbs, Nat.reduceAdd, Nat.reduceLT, Nat.reduceLeDiff, Nat.reducePow, Nat.reduceLT, List.length_cons, List.length_nil, true_implies, false_implies, not_true_eq_false, not_false_eq_true, and_true, true_and, and_self, or_true, true_or, decide_true, decide_false, exists_eq_left', Option.some.injEq, ↓A3_ib, c_ib h.1]
    exact ar_loop hq r d _ h.2
theorem w_are_rising : ∀ vs H Q X, C_ar vs H Q X → wpFn A3 f_are_rising vs H Q X := by
  rintro vs H Q X ⟨ds, many, most, rfl, ⟨h1, h2, h3⟩, q⟩
  refine fn_of rfl ?_
  have e1 : 1 ≤ ((ds.map V.int).length : Int) := by rw [List.length_map]; have := List.length_pos_iff.mpr h1; omega
  have e2 : ((ds.map V.int).length : Int) ≤ (many : Int) := by rw [List.length_map]; omega
  simp only [f_are_rising, intsV, initL, List.map_cons, List.map_nil, List.replicate, List.cons_append, List.nil_append, ↓X_lit, ↓X_loc, ↓X_bin, ↓negX_int, ↓X_neg, ↓X_not, ↓Y_not, ↓X_and, ↓Y_and, ↓X_or, ↓Y_or, ↓X_cmp, ↓X_cmp2, ↓X_ite, ↓Y_ite, ↓X_tup, ↓X_lst, ↓X_call, ↓X_meth, ↓X_sub, ↓X_comp, ↓Y_lit, ↓Y_loc, ↓Y_cmp, ↓Y_cmp2, ↓Y_call, ↓Y_sub, ↓XEs_nil, ↓XEs_cons, ↓XIfs_nil, ↓XIfs_cons, ↓Z_expr, ↓Z_assign, ↓Z_ret, ↓Z_retNone, ↓Z_ite, ↓Z_for, ↓Z_raise, ↓Z_pass, ↓Z_brk, ↓Z_cont, ↓Zs_nil, ↓sqX_next, ↓sqX_brk, ↓sqX_cont, ↓sqX_ret, ↓Zs_cons, ↓wkX_next, ↓wkX_cont, ↓wkX_brk, ↓wkX_ret, ↓fkX_next, ↓fkX_cont, ↓fkX_brk, ↓fkX_ret, ↓xb_one, ↓oKK_some, ↓oK_some, ↓tX_bool, ↓iX_t, ↓iX_f, ↓iX_d, ↓q_add, ↓q_sub, ↓q_mul, ↓q_div, ↓q_mod, ↓q_pow, ↓q_list, ↓q_eq, ↓q_ne, ↓q_eqs, ↓q_nes, ↓q_eqb, ↓q_lt, ↓q_le, ↓q_gt, ↓q_ge, ↓q_in, ↓q_inl, ↓q_nin, ↓q_is, ↓q_isnot, ↓q_stup, ↓q_sref, ↓q_sscr, ↓q_fn, ↓q_lentup, ↓q_lenref, ↓q_lenscr, ↓q_isi, ↓q_all, ↓q_max, ↓q_min, ↓q_int, ↓q_tuple, ↓q_listc, ↓q_append, ↓q_clear, ↓q_index, ↓q_pop, ↓q_slicet, ↓q_revt, ↓q_revl, ↓q_set, ↓q_repr, ↓q_eqo, ↓X_rev, ↓Z_set, ↓q_addt, ↓q_listt, ↓q_ninl, ↓u_tup, ↓u_ref, ↓u_range, ↓q_slice, ↓oi_none, ↓oi_int, ↓X_slice, ↓XO_none, ↓XO_some, ↓u_rev, ↓u_zip, ↓xb_two, ↓u_range2, ↓retV_ret, ↓retV_next, List.getElem?_cons_zero, List.getElem?_cons_succ, List.set_cons_zero, List.set_cons_succ, Bool.not_true, Bool.not_false, idx_0, idx_1, idx_2, idx_3, idx_4, idx_5, Int.reduceAdd, Int.reduceSub, Int.reduceMul, Int.reduceNeg, Int.reducePow, Int.reduceLT, Int.reduceLE, Int.reduceEq, Int.reduceNe, Int.reduceToNat, Int.reduceAbs, Nat.reduceAdd, Nat.reduceLT, Nat.reduceLeDiff, Nat.reducePow, Nat.reduceLT, List.length_cons, List.length_nil, true_implies, false_implies, not_true_eq_false, not_false_eq_true, and_true, true_and, and_self, or_true, true_or, decide_true, decide_false, exists_eq_left', Option.some.injEq, isi_tup_tup, e1, e2]
  exact ar_loop (fun a t => by simp only [↓X_lit, ↓X_loc, ↓X_bin, ↓negX_int, ↓X_neg, ↓X_not, ↓Y_not, ↓X_and, ↓Y_and, ↓X_or, ↓Y_or, ↓X_cmp, ↓X_cmp2, ↓X_ite, ↓Y_ite, ↓X_tup, ↓X_lst, ↓X_call, ↓X_meth, ↓X_sub, ↓X_comp, ↓Y_lit, ↓Y_loc, ↓Y_cmp, ↓Y_cmp2, ↓Y_call, ↓Y_sub, ↓XEs_nil, ↓XEs_cons, ↓XIfs_nil, ↓XIfs_cons, ↓Z_expr, ↓Z_assign, ↓Z_ret, ↓Z_retNone, ↓Z_ite, ↓Z_for, ↓Z_raise, ↓Z_pass, ↓Z_brk, ↓Z_cont, ↓Zs_nil, ↓sqX_next, ↓sqX_brk, ↓sqX_cont, ↓sqX_ret, ↓Zs_cons, ↓wkX_next, ↓wkX_cont, ↓wkX_brk, ↓wkX_ret, ↓fkX_next, ↓fkX_cont, ↓fkX_brk, ↓fkX_ret, ↓xb_one, ↓oKK_some, ↓oK_some, ↓tX_bool, ↓iX_t, ↓iX_f, ↓iX_d, ↓q_add, ↓q_sub, ↓q_mul, ↓q_div, ↓q_mod, ↓q_pow, ↓q_list, ↓q_eq, ↓q_ne, ↓q_eqs, ↓q_nes, ↓q_eqb, ↓q_lt, ↓q_le, ↓q_gt, ↓q_ge, ↓q_in, ↓q_inl, ↓q_nin, ↓q_is, ↓q_isnot, ↓q_stup, ↓q_sref, ↓q_sscr, ↓q_fn, ↓q_lentup, ↓q_lenref, ↓q_lenscr, ↓q_isi, ↓q_all, ↓q_max, ↓q_min, ↓q_int, ↓q_tuple, ↓q_listc, ↓q_append, ↓q_clear, ↓q_index, ↓q_pop, ↓q_slicet, ↓q_revt, ↓q_revl, ↓q_set, ↓q_repr, ↓q_eqo, ↓X_rev, ↓Z_set, ↓q_addt, ↓q_listt, ↓q_ninl, ↓u_tup, ↓u_ref, ↓u_range, ↓q_slice, ↓oi_none, ↓oi_int, ↓X_slice, ↓XO_none, ↓XO_some, ↓u_rev, ↓u_zip, ↓xb_two, ↓u_range2, ↓retV_ret, ↓retV_next, List.getElem?_cons_zero, List.getElem?_cons_succ, List.set_cons_zero, List.set_cons_succ, Bool.not_true, Bool.not_false, idx_0, idx_1, idx_2, idx_3, idx_4, idx_5, Int.reduceAdd, Int.reduceSub, Int.reduceMul, Int.reduceNeg, Int.reducePow, Int.reduceLT, Int.reduceLE, Int.reduceEq, Int.reduceNe, Int.reduceToNat, Int.reduceAbs, Nat.reduceAdd, Nat.reduceLT, Nat.reduceLeDiff, Nat.reducePow, Nat.reduceLT, List.length_cons, List.length_nil, true_implies, false_implies, not_true_eq_false, not_false_eq_true, and_true, true_and, and_self, or_true, true_or, decide_true, decide_false, exists_eq_left', Option.some.injEq]; exact q) ds _ _ h3
noncomputable def A4 : Orc := ext "are_rising" C_ar A3
theorem A4_ib : A4 "is_between" = C_ib := rfl
theorem A4_it : A4 "is_time" = C_it := rfl
theorem A4_ar : A4 "are_rising" = C_ar := rfl

noncomputable def C_ip : Ctr := fun vs H Q _ => ∃ r : Rl, vs = [rv r] ∧ r.plain = true ∧ r.good ∧ Q (.bool true) H
theorem w_is_plain : ∀ vs H Q X, C_ip vs H Q X → wpFn A4 f_is_plain vs H Q X := by
  rintro vs H Q X ⟨r, rfl, hp, g, q⟩
  refine fn_of rfl ?_
  cases r with
  | once h s =>
    simp only [f_is_plain, rv, initL, List.map_cons, List.map_nil, List.replicate, List.cons_append, List.nil_append, ↓X_lit, ↓X_loc, ↓X_bin, ↓negX_int, ↓X_neg, ↓X_not, ↓Y_not, ↓X_and, ↓Y_and, ↓X_or, ↓Y_or, ↓X_cmp, ↓X_cmp2, ↓X_ite, ↓Y_ite, ↓X_tup, ↓X_lst, ↓X_call, ↓X_meth, ↓X_sub, ↓X_comp, ↓Y_lit, ↓Y_loc, ↓Y_cmp, ↓Y_cmp2, ↓Y_call, ↓Y_sub, ↓XEs_nil, ↓XEs_cons, ↓XIfs_nil, ↓XIfs_cons, ↓Z_expr, ↓Z_assign, ↓Z_ret, ↓Z_retNone, ↓Z_ite, ↓Z_for, ↓Z_raise, ↓Z_pass, ↓Z_brk, ↓Z_cont, ↓Zs_nil, ↓sqX_next, ↓sqX_brk, ↓sqX_cont, ↓sqX_ret, ↓Zs_cons, ↓wkX_next, ↓wkX_cont, ↓wkX_brk, ↓wkX_ret, ↓fkX_next, ↓fkX_cont, ↓fkX_brk, ↓fkX_ret, ↓xb_one, ↓oKK_some, ↓oK_some, ↓tX_bool, ↓iX_t, ↓iX_f, ↓iX_d, ↓q_add, ↓q_sub, ↓q_mul, ↓q_div, ↓q_mod, ↓q_pow, ↓q_list, ↓q_eq, ↓q_ne, ↓q_eqs, ↓q_nes, ↓q_eqb, ↓q_lt, ↓q_le, ↓q_gt, ↓q_ge, ↓q_in, ↓q_inl, ↓q_nin, ↓q_is, ↓q_isnot, ↓q_stup, ↓q_sref, ↓q_sscr, ↓q_fn, ↓q_lentup, ↓q_lenref, ↓q_lenscr, ↓q_isi, ↓q_all, ↓q_max, ↓q_min, ↓q_int, ↓q_tuple, ↓q_listc, ↓q_append, ↓q_clear, ↓q_index, ↓q_pop, ↓q_slicet, ↓q_revt, ↓q_revl, ↓q_set, ↓q_repr, ↓q_eqo, ↓X_rev, ↓Z_set, ↓q_addt, ↓q_listt, ↓q_ninl, ↓u_tup, ↓u_ref, ↓u_range, ↓q_slice, ↓oi_none, ↓oi_int, ↓X_slice, ↓XO_none, ↓XO_some, ↓u_rev, ↓u_zip, ↓xb_two, ↓u_range2, ↓retV_ret, ↓retV_next, List.getElem?_cons_zero, List.getElem?_cons_succ, List.set_cons_zero, List.set_cons_succ, Bool.not_true, Bool.not_false, idx_0, idx_1, idx_2, idx_3, idx_4, idx_5, Int.reduceAdd, Int.reduceSub, Int.reduceMul, Int.reduceNeg, Int.reducePow, Int.reduceLT, Int.reduceLE, Int.reduceEq, Int.reduceNe, Int.reduceToNat, Int.reduceAbs, Nat.reduceAdd, Nat.reduceLT, Nat.reduceLeDiff, Nat.reducePow, Nat.reduceLT, List.length_cons, List.length_nil, true_implies, false_implies, not_true_eq_false, not_false_eq_true, and_true, true_and, and_self, or_true, true_or, decide_true, decide_false, exists_eq_left', Option.some.injEq, sw_once_once, sw_once_every, sw_once_week, sw_once_month, sw_once_from, sw_once_until, sw_once_also, sw_once_but, sw_every_once, sw_every_every, sw_every_week, sw_every_month, sw_every_from, sw_every_until, sw_every_also, sw_every_but, sw_week_once, sw_week_every, sw_week_week, sw_week_month, sw_week_from, sw_week_until, sw_week_also, sw_week_but, sw_month_once, sw_month_every, sw_month_week, sw_month_month, sw_month_from, sw_month_until, sw_month_also, sw_month_but, sw_from_once, sw_from_every, sw_from_week, sw_from_month, sw_from_from, sw_from_until, sw_from_also, sw_from_but, sw_until_once, sw_until_every, sw_until_week, sw_until_month, sw_until_from, sw_until_until, sw_until_also, sw_until_but, sw_also_once, sw_also_every, sw_also_week, sw_also_month, sw_also_from, sw_also_until, sw_also_also, sw_also_but, sw_but_once, sw_but_every, sw_but_week, sw_but_month, sw_but_from, sw_but_until, sw_but_also, sw_but_but, ↓A4_ib, ↓A4_it, c_it g.1, c_ib (show 1 ≤ s ∧ s ≤ 48 from g.2)]
    exact ⟨fun _ => q, fun h => absurd rfl h⟩
  | every h s p =>
    simp only [f_is_plain, rv, initL, List.map_cons, List.map_nil, List.replicate, List.cons_append, List.nil_append, ↓X_lit, ↓X_loc, ↓X_bin, ↓negX_int, ↓X_neg, ↓X_not, ↓Y_not, ↓X_and, ↓Y_and, ↓X_or, ↓Y_or, ↓X_cmp, ↓X_cmp2, ↓X_ite, ↓Y_ite, ↓X_tup, ↓X_lst, ↓X_call, ↓X_meth, ↓X_sub, ↓X_comp, ↓Y_lit, ↓Y_loc, ↓Y_cmp, ↓Y_cmp2, ↓Y_call, ↓Y_sub, ↓XEs_nil, ↓XEs_cons, ↓XIfs_nil, ↓XIfs_cons, ↓Z_expr, ↓Z_assign, ↓Z_ret, ↓Z_retNone, ↓Z_ite, ↓Z_for, ↓Z_raise, ↓Z_pass, ↓Z_brk, ↓Z_cont, ↓Zs_nil, ↓sqX_next, ↓sqX_brk, ↓sqX_cont, ↓sqX_ret, ↓Zs_cons, ↓wkX_next, ↓wkX_cont, ↓wkX_brk, ↓wkX_ret, ↓fkX_next, ↓fkX_cont, ↓fkX_brk, ↓fkX_ret, ↓xb_one, ↓oKK_some, ↓oK_some, ↓tX_bool, ↓iX_t, ↓iX_f, ↓iX_d, ↓q_add, ↓q_sub, ↓q_mul, ↓q_div, ↓q_mod, ↓q_pow, ↓q_list, ↓q_eq, ↓q_ne, ↓q_eqs, ↓q_nes, ↓q_eqb, ↓q_lt, ↓q_le, ↓q_gt, ↓q_ge, ↓q_in, ↓q_inl, ↓q_nin, ↓q_is, ↓q_isnot, ↓q_stup, ↓q_sref, ↓q_sscr, ↓q_fn, ↓q_lentup, ↓q_lenref, ↓q_lenscr, ↓q_isi, ↓q_all, ↓q_max, ↓q_min, ↓q_int, ↓q_tuple, ↓q_listc, ↓q_append, ↓q_clear, ↓q_index, ↓q_pop, ↓q_slicet, ↓q_revt, ↓q_revl, ↓q_set, ↓q_repr, ↓q_eqo, ↓X_rev, ↓Z_set, ↓q_addt, ↓q_listt, ↓q_ninl, ↓u_tup, ↓u_ref, ↓u_range, ↓q_slice, ↓oi_none, ↓oi_int, ↓X_slice, ↓XO_none, ↓XO_some, ↓u_rev, ↓u_zip, ↓xb_two, ↓u_range2, ↓retV_ret, ↓retV_next, List.getElem?_cons_zero, List.getElem?_cons_succ, List.set_cons_zero, List.set_cons_succ, Bool.not_true, Bool.not_false, idx_0, idx_1, idx_2, idx_3, idx_4, idx_5, Int.reduceAdd, Int.reduceSub, Int.reduceMul, Int.reduceNeg, Int.reducePow, Int.reduceLT, Int.reduceLE, Int.reduceEq, Int.reduceNe, Int.reduceToNat, Int.reduceAbs, Nat.reduceAdd, Nat.reduceLT, Nat.reduceLeDiff, Nat.reducePow, Nat.reduceLT, List.length_cons, List.length_nil, true_implies, false_implies, not_true_eq_false, not_false_eq_true, and_true, true_and, and_self, or_true, true_or, decide_true, decide_false, exists_eq_left', Option.some.injEq, sw_once_once, sw_once_every, sw_once_week, sw_once_month, sw_once_from, sw_once_until, sw_once_also, sw_once_but, sw_every_once, sw_every_every, sw_every_week, sw_every_month, sw_every_from, sw_every_until, sw_every_also, sw_every_but, sw_week_once, sw_week_every, sw_week_week, sw_week_month, sw_week_from, sw_week_until, sw_week_also, sw_week_but, sw_month_once, sw_month_every, sw_month_week, sw_month_month, sw_month_from, sw_month_until, sw_month_also, sw_month_but, sw_from_once, sw_from_every, sw_from_week, sw_from_month, sw_from_from, sw_from_until, sw_from_also, sw_from_but, sw_until_once, sw_until_every, sw_until_week, sw_until_month, sw_until_from, sw_until_until, sw_until_also, sw_until_but, sw_also_once, sw_also_every, sw_also_week, sw_also_month, sw_also_from, sw_also_until, sw_also_also, sw_also_but, sw_but_once, sw_but_every, sw_but_week, sw_but_month, sw_but_from, sw_but_until, sw_but_also, sw_but_but, ↓A4_ib, ↓A4_it, c_it g.1, c_ib (show 1 ≤ s ∧ s ≤ 48 from g.2.1), c_ib g.2.2]
    exact ⟨fun h => absurd rfl h, fun _ => q⟩
  | week ds t s =>
    simp only [f_is_plain, rv, initL, List.map_cons, List.map_nil, List.replicate, List.cons_append, List.nil_append, ↓X_lit, ↓X_loc, ↓X_bin, ↓negX_int, ↓X_neg, ↓X_not, ↓Y_not, ↓X_and, ↓Y_and, ↓X_or, ↓Y_or, ↓X_cmp, ↓X_cmp2, ↓X_ite, ↓Y_ite, ↓X_tup, ↓X_lst, ↓X_call, ↓X_meth, ↓X_sub, ↓X_comp, ↓Y_lit, ↓Y_loc, ↓Y_cmp, ↓Y_cmp2, ↓Y_call, ↓Y_sub, ↓XEs_nil, ↓XEs_cons, ↓XIfs_nil, ↓XIfs_cons, ↓Z_expr, ↓Z_assign, ↓Z_ret, ↓Z_retNone, ↓Z_ite, ↓Z_for, ↓Z_raise, ↓Z_pass, ↓Z_brk, ↓Z_cont, ↓Zs_nil, ↓sqX_next, ↓sqX_brk, ↓sqX_cont, ↓sqX_ret, ↓Zs_cons, ↓wkX_next, ↓wkX_cont, ↓wkX_brk, ↓wkX_ret, ↓fkX_next, ↓fkX_cont, ↓fkX_brk, ↓fkX_ret, ↓xb_one, ↓oKK_some, ↓oK_some, ↓tX_bool, ↓iX_t, ↓iX_f, ↓iX_d, ↓q_add, ↓q_sub, ↓q_mul, ↓q_div, ↓q_mod, ↓q_pow, ↓q_list, ↓q_eq, ↓q_ne, ↓q_eqs, ↓q_nes, ↓q_eqb, ↓q_lt, ↓q_le, ↓q_gt, ↓q_ge, ↓q_in, ↓q_inl, ↓q_nin, ↓q_is, ↓q_isnot, ↓q_stup, ↓q_sref, ↓q_sscr, ↓q_fn, ↓q_lentup, ↓q_lenref, ↓q_lenscr, ↓q_isi, ↓q_all, ↓q_max, ↓q_min, ↓q_int, ↓q_tuple, ↓q_listc, ↓q_append, ↓q_clear, ↓q_index, ↓q_pop, ↓q_slicet, ↓q_revt, ↓q_revl, ↓q_set, ↓q_repr, ↓q_eqo, ↓X_rev, ↓Z_set, ↓q_addt, ↓q_listt, ↓q_ninl, ↓u_tup, ↓u_ref, ↓u_range, ↓q_slice, ↓oi_none, ↓oi_int, ↓X_slice, ↓XO_none, ↓XO_some, ↓u_rev, ↓u_zip, ↓xb_two, ↓u_range2, ↓retV_ret, ↓retV_next, List.getElem?_cons_zero, List.getElem?_cons_succ, List.set_cons_zero, List.set_cons_succ, Bool.not_true, Bool.not_false, idx_0, idx_1, idx_2, idx_3, idx_4, idx_5, Int.reduceAdd, Int.reduceSub, Int.reduceMul, Int.reduceNeg, Int.reducePow, Int.reduceLT, Int.reduceLE, Int.reduceEq, Int.reduceNe, Int.reduceToNat, Int.reduceAbs, Nat.reduceAdd, Nat.reduceLT, Nat.reduceLeDiff, Nat.reducePow, Nat.reduceLT, List.length_cons, List.length_nil, true_implies, false_implies, not_true_eq_false, not_false_eq_true, and_true, true_and, and_self, or_true, true_or, decide_true, decide_false, exists_eq_left', Option.some.injEq, sw_once_once, sw_once_every, sw_once_week, sw_once_month, sw_once_from, sw_once_until, sw_once_also, sw_once_but, sw_every_once, sw_every_every, sw_every_week, sw_every_month, sw_every_from, sw_every_until, sw_every_also, sw_every_but, sw_week_once, sw_week_every, sw_week_week, sw_week_month, sw_week_from, sw_week_until, sw_week_also, sw_week_but, sw_month_once, sw_month_every, sw_month_week, sw_month_month, sw_month_from, sw_month_until, sw_month_also, sw_month_but, sw_from_once, sw_from_every, sw_from_week, sw_from_month, sw_from_from, sw_from_until, sw_from_also, sw_from_but, sw_until_once, sw_until_every, sw_until_week, sw_until_month, sw_until_from, sw_until_until, sw_until_also, sw_until_but, sw_also_once, sw_also_every, sw_also_week, sw_also_month, sw_also_from, sw_also_until, sw_also_also, sw_also_but, sw_but_once, sw_but_every, sw_but_week, sw_but_month, sw_but_from, sw_but_until, sw_but_also, sw_but_but, ↓A4_ib, ↓A4_ar, c_ib g.2.1, c_ib (show 1 ≤ s ∧ s ≤ 48 from g.2.2), c_ar (m := 7) (many := 7) rfl g.1]
    exact ⟨fun h => absurd rfl h, fun _ => q⟩
  | month d t s =>
    simp only [f_is_plain, rv, initL, List.map_cons, List.map_nil, List.replicate, List.cons_append, List.nil_append, ↓X_lit, ↓X_loc, ↓X_bin, ↓negX_int, ↓X_neg, ↓X_not, ↓Y_not, ↓X_and, ↓Y_and, ↓X_or, ↓Y_or, ↓X_cmp, ↓X_cmp2, ↓X_ite, ↓Y_ite, ↓X_tup, ↓X_lst, ↓X_call, ↓X_meth, ↓X_sub, ↓X_comp, ↓Y_lit, ↓Y_loc, ↓Y_cmp, ↓Y_cmp2, ↓Y_call, ↓Y_sub, ↓XEs_nil, ↓XEs_cons, ↓XIfs_nil, ↓XIfs_cons, ↓Z_expr, ↓Z_assign, ↓Z_ret, ↓Z_retNone, ↓Z_ite, ↓Z_for, ↓Z_raise, ↓Z_pass, ↓Z_brk, ↓Z_cont, ↓Zs_nil, ↓sqX_next, ↓sqX_brk, ↓sqX_cont, ↓sqX_ret, ↓Zs_cons, ↓wkX_next, ↓wkX_cont, ↓wkX_brk, ↓wkX_ret, ↓fkX_next, ↓fkX_cont, ↓fkX_brk, ↓fkX_ret, ↓xb_one, ↓oKK_some, ↓oK_some, ↓tX_bool, ↓iX_t, ↓iX_f, ↓iX_d, ↓q_add, ↓q_sub, ↓q_mul, ↓q_div, ↓q_mod, ↓q_pow, ↓q_list, ↓q_eq, ↓q_ne, ↓q_eqs, ↓q_nes, ↓q_eqb, ↓q_lt, ↓q_le, ↓q_gt, ↓q_ge, ↓q_in, ↓q_inl, ↓q_nin, ↓q_is, ↓q_isnot, ↓q_stup, ↓q_sref, ↓q_sscr, ↓q_fn, ↓q_lentup, ↓q_lenref, ↓q_lenscr, ↓q_isi, ↓q_all, ↓q_max, ↓q_min, ↓q_int, ↓q_tuple, ↓q_listc, ↓q_append, ↓q_clear, ↓q_index, ↓q_pop, ↓q_slicet, ↓q_revt, ↓q_revl, ↓q_set, ↓q_repr, ↓q_eqo, ↓X_rev, ↓Z_set, ↓q_addt, ↓q_listt, ↓q_ninl, ↓u_tup, ↓u_ref, ↓u_range, ↓q_slice, ↓oi_none, ↓oi_int, ↓X_slice, ↓XO_none, ↓XO_some, ↓u_rev, ↓u_zip, ↓xb_two, ↓u_range2, ↓retV_ret, ↓retV_next, List.getElem?_cons_zero, List.getElem?_cons_succ, List.set_cons_zero, List.set_cons_succ, Bool.not_true, Bool.not_false, idx_0, idx_1, idx_2, idx_3, idx_4, idx_5, Int.reduceAdd, Int.reduceSub, Int.reduceMul, Int.reduceNeg, Int.reducePow, Int.reduceLT, Int.reduceLE, Int.reduceEq, Int.reduceNe, Int.reduceToNat, Int.reduceAbs, Nat.reduceAdd, Nat.reduceLT, Nat.reduceLeDiff, Nat.reducePow, Nat.reduceLT, List.length_cons, List.length_nil, true_implies, false_implies, not_true_eq_false, not_false_eq_true, and_true, true_and, and_self, or_true, true_or, decide_true, decide_false, exists_eq_left', Option.some.injEq, negX_int, sw_once_once, sw_once_every, sw_once_week, sw_once_month, sw_once_from, sw_once_until, sw_once_also, sw_once_but, sw_every_once, sw_every_every, sw_every_week, sw_every_month, sw_every_from, sw_every_until, sw_every_also, sw_every_but, sw_week_once, sw_week_every, sw_week_week, sw_week_month, sw_week_from, sw_week_until, sw_week_also, sw_week_but, sw_month_once, sw_month_every, sw_month_week, sw_month_month, sw_month_from, sw_month_until, sw_month_also, sw_month_but, sw_from_once, sw_from_every, sw_from_week, sw_from_month, sw_from_from, sw_from_until, sw_from_also, sw_from_but, sw_until_once, sw_until_every, sw_until_week, sw_until_month, sw_until_from, sw_until_until, sw_until_also, sw_until_but, sw_also_once, sw_also_every, sw_also_week, sw_also_month, sw_also_from, sw_also_until, sw_also_also, sw_also_but, sw_but_once, sw_but_every, sw_but_week, sw_but_month, sw_but_from, sw_but_until, sw_but_also, sw_but_but, ↓A4_ib, c_ib g.2.1, c_ib (show 1 ≤ s ∧ s ≤ 48 from g.2.2), c_ib (show -31 ≤ d ∧ d ≤ 31 from ⟨g.1.1, g.1.2.1⟩)]
    refine ⟨fun h => absurd rfl h, fun _ => ?_⟩
    simp only [decide_eq_true g.1.2.2]
    exact q
  | frm h r => cases hp
  | til h r => cases hp
  | als h r => cases hp
  | but ds r => cases hp
noncomputable def A5 : Orc := ext "is_plain" C_ip A4
theorem A5_ip : A5 "is_plain" = C_ip := rfl
theorem A5_ar : A5 "are_rising" = C_ar := rfl
theorem A5_it : A5 "is_time" = C_it := rfl

noncomputable def C_ir : Ctr := fun vs H Q _ => ∃ r : Rl, vs = [rv r] ∧ r.depth ≤ 7 ∧ r.good ∧ Q (.bool true) H
noncomputable abbrev irB : List IS := [(.ite (.or (.not (.call (.bi .isinstance) [(.loc 0), (.lit (.ty .tuple))])) (.or (.cmp (.call (.bi .len) [(.loc 0)]) .Eq (.lit (.int 0))) (.not (.call (.bi .isinstance) [(.sub (.loc 0) (.lit (.int 0))), (.lit (.ty .str))])))) [(.ret (.lit (.bool false)))] []), (.ite (.cmp (.sub (.loc 0) (.lit (.int 0))) .NotIn (.lit (.tup [(.str "from"), (.str "until"), (.str "also"), (.str "but")]))) [(.ret (.call (.fn "is_plain") [(.loc 0)]))] []), (.ite (.cmp (.call (.bi .len) [(.loc 0)]) .NotEq (.lit (.int 3))) [(.ret (.lit (.bool false)))] []), (.ite (.and (.cmp (.sub (.loc 0) (.lit (.int 0))) .Eq (.lit (.str "but"))) (.not (.call (.fn "are_rising") [(.sub (.loc 0) (.lit (.int 1))), (.lit (.int 20)), (.bin .Sub (.lit (.int 100000000000)) (.lit (.int 1)))]))) [(.ret (.lit (.bool false)))] []), (.ite (.and (.cmp (.sub (.loc 0) (.lit (.int 0))) .NotEq (.lit (.str "but"))) (.not (.call (.fn "is_time") [(.sub (.loc 0) (.lit (.int 1)))]))) [(.ret (.lit (.bool false)))] []), (.assign 0 (.sub (.loc 0) (.lit (.int 2))))]
theorem ir_plain {u : Str} {rest : List V} {k : V} {ks : List V} {t1 t2 t3 t4 : Option V} {H : Hp} {Q : QS} (hm : memV (.str u) [V.str "from", .str "until", .str "also", .str "but"] = some false)
    (hp : C_ip [.tup (.str u :: rest)] H (fun v H1 => Q (.ret v) [some (.tup (.str u :: rest)), some k, t2, t3, t4] H1) noX) :
    forGo (whBX A5 irB noXS) (fun _ => True) [1] (k :: ks) [some (.tup (.str u :: rest)), t1, t2, t3, t4] H Q := by
  rw [foX_cons]
  have e : ¬ ((rest.length + 1 : Nat) : Int) = 0 := by omega
  simp only [↓X_lit, ↓X_loc, ↓X_bin, ↓negX_int, ↓X_neg, ↓X_not, ↓Y_not, ↓X_and, ↓Y_and, ↓X_or, ↓Y_or, ↓X_cmp, ↓X_cmp2, ↓X_ite, ↓Y_ite, ↓X_tup, ↓X_lst, ↓X_call, ↓X_meth, ↓X_sub, ↓X_comp, ↓Y_lit, ↓Y_loc, ↓Y_cmp, ↓Y_cmp2, ↓Y_call, ↓Y_sub, ↓XEs_nil, ↓XEs_cons, ↓XIfs_nil, ↓XIfs_cons, ↓Z_expr, ↓Z_assign, ↓Z_ret, ↓Z_retNone, ↓Z_ite, ↓Z_for, ↓Z_raise, ↓Z_pass, ↓Z_brk, ↓Z_cont, ↓Zs_nil, ↓sqX_next, ↓sqX_brk, ↓sqX_cont, ↓sqX_ret, ↓Zs_cons, ↓wkX_next, ↓wkX_cont, ↓wkX_brk, ↓wkX_ret, ↓fkX_next, ↓fkX_cont, ↓fkX_brk, ↓fkX_ret, ↓xb_one, ↓oKK_some, ↓oK_some, ↓tX_bool, ↓iX_t, ↓iX_f, ↓iX_d, ↓q_add, ↓q_sub, ↓q_mul, ↓q_div, ↓q_mod, ↓q_pow, ↓q_list, ↓q_eq, ↓q_ne, ↓q_eqs, ↓q_nes, ↓q_eqb, ↓q_lt, ↓q_le, ↓q_gt, ↓q_ge, ↓q_in, ↓q_inl, ↓q_nin, ↓q_is, ↓q_isnot, ↓q_stup, ↓q_sref, ↓q_sscr, ↓q_fn, ↓q_lentup, ↓q_lenref, ↓q_lenscr, ↓q_isi, ↓q_all, ↓q_max, ↓q_min, ↓q_int, ↓q_tuple, ↓q_listc, ↓q_append, ↓q_clear, ↓q_index, ↓q_pop, ↓q_slicet, ↓q_revt, ↓q_revl, ↓q_set, ↓q_repr, ↓q_eqo, ↓X_rev, ↓Z_set, ↓q_addt, ↓q_listt, ↓q_ninl, ↓u_tup, ↓u_ref, ↓u_range, ↓q_slice, ↓oi_none, ↓oi_int, ↓X_slice, ↓XO_none, ↓XO_some, ↓u_rev, ↓u_zip, ↓xb_two, ↓u_range2, ↓retV_ret, ↓retV_next, List.getElem?_cons_zero, List.getElem?_cons_succ, List.set_cons_zero, List.set_cons_succ, Bool.not_true, Bool.not_false, idx_0, idx_1, idx_2, idx_3, idx_4, idx_5, Int.reduceAdd, Int.reduceSub, Int.reduceMul, Int.reduceNeg, Int.reducePow, Int.reduceLT, Int.reduceLE, Int.reduceEq, Int.reduceNe, Int.reduceToNat, Int.reduceAbs, Nat.reduceAdd, Nat.reduceLT, Nat.reduceLeDiff, Nat.reducePow, Nat.reduceLT, List.length_cons, List.length_nil, true_implies, false_implies, not_true_eq_false, not_false_eq_true, and_true, true_and, and_self, or_true, true_or, decide_true, decide_false, exists_eq_left', Option.some.injEq, isi_tup_tup, isi_str_str, e, hm, ↓A5_ip]
  exact hp
theorem ir_head {u : Str} {x w k : V} {ks : List V} {t1 t2 t3 t4 : Option V} {H : Hp} {Q : QS} (hm : memV (.str u) [V.str "from", .str "until", .str "also", .str "but"] = some true)
    (hx : ((u == "but") = true ∧ ∃ ds, x = intsV ds ∧ days 20 99999999999 ds) ∨ ((u == "but") = false ∧ ∃ h, x = .int h ∧ tm h))
    (q : forGo (whBX A5 irB noXS) (fun _ => True) [1] ks [some w, some k, t2, t3, t4] H Q) :
    forGo (whBX A5 irB noXS) (fun _ => True) [1] (k :: ks) [some (.tup [.str u, x, w]), t1, t2, t3, t4] H Q := by
  rw [foX_cons]
  rcases hx with ⟨hb, ds, rfl, hd⟩ | ⟨hb, h, rfl, hh⟩
  · simp only [↓X_lit, ↓X_loc, ↓X_bin, ↓negX_int, ↓X_neg, ↓X_not, ↓Y_not, ↓X_and, ↓Y_and, ↓X_or, ↓Y_or, ↓X_cmp, ↓X_cmp2, ↓X_ite, ↓Y_ite, ↓X_tup, ↓X_lst, ↓X_call, ↓X_meth, ↓X_sub, ↓X_comp, ↓Y_lit, ↓Y_loc, ↓Y_cmp, ↓Y_cmp2, ↓Y_call, ↓Y_sub, ↓XEs_nil, ↓XEs_cons, ↓XIfs_nil, ↓XIfs_cons, ↓Z_expr, ↓Z_assign, ↓Z_ret, ↓Z_retNone, ↓Z_ite, ↓Z_for, ↓Z_raise, ↓Z_pass, ↓Z_brk, ↓Z_cont, ↓Zs_nil, ↓sqX_next, ↓sqX_brk, ↓sqX_cont, ↓sqX_ret, ↓Zs_cons, ↓wkX_next, ↓wkX_cont, ↓wkX_brk, ↓wkX_ret, ↓fkX_next, ↓fkX_cont, ↓fkX_brk, ↓fkX_ret, ↓xb_one, ↓oKK_some, ↓oK_some, ↓tX_bool, ↓iX_t, ↓iX_f, ↓iX_d, ↓q_add, ↓q_sub, ↓q_mul, ↓q_div, ↓q_mod, ↓q_pow, ↓q_list, ↓q_eq, ↓q_ne, ↓q_eqs, ↓q_nes, ↓q_eqb, ↓q_lt, ↓q_le, ↓q_gt, ↓q_ge, ↓q_in, ↓q_inl, ↓q_nin, ↓q_is, ↓q_isnot, ↓q_stup, ↓q_sref, ↓q_sscr, ↓q_fn, ↓q_lentup, ↓q_lenref, ↓q_lenscr, ↓q_isi, ↓q_all, ↓q_max, ↓q_min, ↓q_int, ↓q_tuple, ↓q_listc, ↓q_append, ↓q_clear, ↓q_index, ↓q_pop, ↓q_slicet, ↓q_revt, ↓q_revl, ↓q_set, ↓q_repr, ↓q_eqo, ↓X_rev, ↓Z_set, ↓q_addt, ↓q_listt, ↓q_ninl, ↓u_tup, ↓u_ref, ↓u_range, ↓q_slice, ↓oi_none, ↓oi_int, ↓X_slice, ↓XO_none, ↓XO_some, ↓u_rev, ↓u_zip, ↓xb_two, ↓u_range2, ↓retV_ret, ↓retV_next, List.getElem?_cons_zero, List.getElem?_cons_succ, List.set_cons_zero, List.set_cons_succ, Bool.not_true, Bool.not_false, idx_0, idx_1, idx_2, idx_3, idx_4, idx_5, Int.reduceAdd, Int.reduceSub, Int.reduceMul, Int.reduceNeg, Int.reducePow, Int.reduceLT, Int.reduceLE, Int.reduceEq, Int.reduceNe, Int.reduceToNat, Int.reduceAbs, Nat.reduceAdd, Nat.reduceLT, Nat.reduceLeDiff, Nat.reducePow, Nat.reduceLT, List.length_cons, List.length_nil, true_implies, false_implies, not_true_eq_false, not_false_eq_true, and_true, true_and, and_self, or_true, true_or, decide_true, decide_false, exists_eq_left', Option.some.injEq, isi_tup_tup, isi_str_str, hm, hb, ↓A5_ar, c_ar (m := 20) (many := 20) rfl hd]
    exact ⟨fun h => absurd h (by decide), fun _ => ⟨fun h => absurd rfl h, fun _ => q⟩⟩
  · simp only [↓X_lit, ↓X_loc, ↓X_bin, ↓negX_int, ↓X_neg, ↓X_not, ↓Y_not, ↓X_and, ↓Y_and, ↓X_or, ↓Y_or, ↓X_cmp, ↓X_cmp2, ↓X_ite, ↓Y_ite, ↓X_tup, ↓X_lst, ↓X_call, ↓X_meth, ↓X_sub, ↓X_comp, ↓Y_lit, ↓Y_loc, ↓Y_cmp, ↓Y_cmp2, ↓Y_call, ↓Y_sub, ↓XEs_nil, ↓XEs_cons, ↓XIfs_nil, ↓XIfs_cons, ↓Z_expr, ↓Z_assign, ↓Z_ret, ↓Z_retNone, ↓Z_ite, ↓Z_for, ↓Z_raise, ↓Z_pass, ↓Z_brk, ↓Z_cont, ↓Zs_nil, ↓sqX_next, ↓sqX_brk, ↓sqX_cont, ↓sqX_ret, ↓Zs_cons, ↓wkX_next, ↓wkX_cont, ↓wkX_brk, ↓wkX_ret, ↓fkX_next, ↓fkX_cont, ↓fkX_brk, ↓fkX_ret, ↓xb_one, ↓oKK_some, ↓oK_some, ↓tX_bool, ↓iX_t, ↓iX_f, ↓iX_d, ↓q_add, ↓q_sub, ↓q_mul, ↓q_div, ↓q_mod, ↓q_pow, ↓q_list, ↓q_eq, ↓q_ne, ↓q_eqs, ↓q_nes, ↓q_eqb, ↓q_lt, ↓q_le, ↓q_gt, ↓q_ge, ↓q_in, ↓q_inl, ↓q_nin, ↓q_is, ↓q_isnot, ↓q_stup, ↓q_sref, ↓q_sscr, ↓q_fn, ↓q_lentup, ↓q_lenref, ↓q_lenscr, ↓q_isi, ↓q_all, ↓q_max, ↓q_min, ↓q_int, ↓q_tuple, ↓q_listc, ↓q_append, ↓q_clear, ↓q_index, ↓q_pop, ↓q_slicet, ↓q_revt, ↓q_revl, ↓q_set, ↓q_repr, ↓q_eqo, ↓X_rev, ↓Z_set, ↓q_addt, ↓q_listt, ↓q_ninl, ↓u_tup, ↓u_ref, ↓u_range, ↓q_slice, ↓oi_none, ↓oi_int, ↓X_slice, ↓XO_none, ↓XO_some, ↓u_rev, ↓u_zip, ↓xb_two, ↓u_range2, ↓retV_ret, ↓retV_next, List.getElem?_cons_zero, List.getElem?_cons_succ, List.set_cons_zero, List.set_cons_succ, Bool.not_true, Bool.not_false, idx_0, idx_1, idx_2, idx_3, idx_4, idx_5, Int.reduceAdd, Int.reduceSub, Int.reduceMul, Int.reduceNeg, Int.reducePow, Int.reduceLT, Int.reduceLE, Int.reduceEq, Int.reduceNe, Int.reduceToNat, Int.reduceAbs, Nat.reduceAdd, Nat.reduceLT, Nat.reduceLeDiff, Nat.reducePow, Nat.reduceLT, List.length_cons, List.length_nil, true_implies, false_implies, not_true_eq_false, not_false_eq_true, and_true, true_and, and_self, or_true, true_or, decide_true, decide_false, exists_eq_left', Option.some.injEq, isi_tup_tup, isi_str_str, hm, hb, ↓A5_it, c_it hh]
    exact ⟨fun h => absurd h (by decide), fun _ => ⟨fun h => absurd rfl h, fun _ => q⟩⟩
theorem ir_loop {t2 t3 t4 : Option V} {H : Hp} {Q : QS} (hq : ∀ L, Q (.ret (.bool true)) L H) : ∀ (r : Rl) (ks : List V) (t1 : Option V), r.depth < ks.length → r.good →
    forGo (whBX A5 irB noXS) (fun _ => True) [1] ks [some (rv r), t1, t2, t3, t4] H Q := by
  intro r
  induction r with
  | once h s => intro ks t1 hk g; cases ks with | nil => cases hk | cons k ks => exact ir_plain mo_once ⟨.once h s, rfl, rfl, g, hq _⟩
  | every h s p => intro ks t1 hk g; cases ks with | nil => cases hk | cons k ks => exact ir_plain mo_every ⟨.every h s p, rfl, rfl, g, hq _⟩
  | week ds t s => intro ks t1 hk g; cases ks with | nil => cases hk | cons k ks => exact ir_plain mo_week ⟨.week ds t s, rfl, rfl, g, hq _⟩
  | month d t s => intro ks t1 hk g; cases ks with | nil => cases hk | cons k ks => exact ir_plain mo_month ⟨.month d t s, rfl, rfl, g, hq _⟩
  | frm h r ih => intro ks t1 hk g; cases ks with | nil => cases hk | cons k ks => exact ir_head mo_frm (.inr ⟨sw_from_but, h, rfl, g.1⟩) (ih ks _ (Nat.lt_of_succ_lt_succ hk) g.2)
  | til h r ih => intro ks t1 hk g; cases ks with | nil => cases hk | cons k ks => exact ir_head mo_til (.inr ⟨sw_until_but, h, rfl, g.1⟩) (ih ks _ (Nat.lt_of_succ_lt_succ hk) g.2)
  | als h r ih => intro ks t1 hk g; cases ks with | nil => cases hk | cons k ks => exact ir_head mo_als (.inr ⟨sw_also_but, h, rfl, g.1⟩) (ih ks _ (Nat.lt_of_succ_lt_succ hk) g.2)
  | but ds r ih => intro ks t1 hk g; cases ks with | nil => cases hk | cons k ks => exact ir_head mo_but (.inl ⟨sw_but_but, ds, rfl, g.1⟩) (ih ks _ (Nat.lt_of_succ_lt_succ hk) g.2)
theorem w_is_rule : ∀ vs H Q X, C_ir vs H Q X → wpFn A5 f_is_rule vs H Q X := by
  rintro vs H Q X ⟨r, rfl, hd, g, q⟩
  refine fn_of rfl ?_
  change wpSs A5 f_is_rule.body [some (rv r), none, none, none, none] H _ _
  refine zs_cons ?_
  rw [Z_for]
  show (-(2 ^ 62) ≤ (8 : Int) ∧ (8 : Int) ≤ 1000000) ∧ _
  refine ⟨by decide, ir_loop (fun L => q) r _ _ ?_ g⟩
  show r.depth < ((List.range (8 - 0 : Int).toNat).map fun (k : Nat) => V.int (0 + (k : Int))).length
  rw [List.length_map, List.length_range]
  show r.depth < 8
  omega
noncomputable def A6 : Orc := ext "is_rule" C_ir A5
end Mine

set_option autoImplicit false
set_option linter.unusedSimpArgs false
set_option maxRecDepth 20000
/- Law 06: shown. -/
namespace Mine
open PySem

theorem strs_map : ∀ ws : List Str, strsOf (ws.map V.str) = some ws
  | [] => rfl
  | w :: r => by
    show (match V.str w, strsOf (r.map V.str) with
      | .str y, some ys => some (y :: ys)
      | _, _ => none) = _
    rw [strs_map r]
theorem strs_nums (ds : List Int) : strsOf (ds.map fun d => V.str (numS d)) = some (ds.map numS) := by
  have := strs_map (ds.map numS)
  rwa [List.map_map] at this
theorem small_abs {i : Int} (h : small i) : i.natAbs < 2 ^ 64 ∧ (Str.ofString (toString i)).length ≤ 1000000 := by
  refine ⟨by unfold small at h; omega, Nat.le_trans (num_len h.1 h.2) (by decide)⟩
theorem comp_strs {Φ : Orc} {j : Nat} {L : Lc} {QL : List V → Hp → Prop} {H : Hp} (hj : j < L.length) : ∀ (ds : List Int) (acc : List V), (∀ d ∈ ds, small d) → QL (acc ++ ds.map fun d => V.str (numS d)) H →
    compGo (coTX Φ [] noX) (coEX Φ (.call (.ty .str) [.loc j]) noX) (fun _ => True) [j] L (ds.map V.int) acc H QL
  | [], acc, _, q => by
    have q : QL acc H := by simpa using q
    exact q
  | d :: r, acc, h, q => by
    rw [List.map_cons, coX_cons]
    have e : (L.set j (some (V.int d)))[j]? = some (some (V.int d)) := List.getElem?_set_self hj
    simp only [↓X_lit, ↓X_loc, ↓X_bin, ↓negX_int, ↓X_neg, ↓X_not, ↓Y_not, ↓X_and, ↓Y_and, ↓X_or, ↓Y_or, ↓X_cmp, ↓X_cmp2, ↓X_ite, ↓Y_ite, ↓X_tup, ↓X_lst, ↓X_call, ↓X_meth, ↓X_sub, ↓X_comp, ↓Y_lit, ↓Y_loc, ↓Y_cmp, ↓Y_cmp2, ↓Y_call, ↓Y_sub, ↓XEs_nil, ↓XEs_cons, ↓XIfs_nil, ↓XIfs_cons, ↓Z_expr, ↓Z_assign, ↓Z_ret, ↓Z_retNone, ↓Z_ite, ↓Z_for, ↓Z_raise, ↓Z_pass, ↓Z_brk, ↓Z_cont, ↓Zs_nil, ↓sqX_next, ↓sqX_brk, ↓sqX_cont, ↓sqX_ret, ↓Zs_cons, ↓wkX_next, ↓wkX_cont, ↓wkX_brk, ↓wkX_ret, ↓fkX_next, ↓fkX_cont, ↓fkX_brk, ↓fkX_ret, ↓xb_one, ↓oKK_some, ↓oK_some, ↓tX_bool, ↓iX_t, ↓iX_f, ↓iX_d, ↓q_add, ↓q_sub, ↓q_mul, ↓q_div, ↓q_mod, ↓q_pow, ↓q_list, ↓q_eq, ↓q_ne, ↓q_eqs, ↓q_nes, ↓q_eqb, ↓q_lt, ↓q_le, ↓q_gt, ↓q_ge, ↓q_in, ↓q_inl, ↓q_nin, ↓q_is, ↓q_isnot, ↓q_stup, ↓q_sref, ↓q_sscr, ↓q_fn, ↓q_lentup, ↓q_lenref, ↓q_lenscr, ↓q_isi, ↓q_all, ↓q_max, ↓q_min, ↓q_int, ↓q_tuple, ↓q_listc, ↓q_append, ↓q_clear, ↓q_index, ↓q_pop, ↓q_slicet, ↓q_revt, ↓q_revl, ↓q_set, ↓q_repr, ↓q_eqo, ↓X_rev, ↓Z_set, ↓q_addt, ↓q_listt, ↓q_ninl, ↓u_tup, ↓u_ref, ↓u_range, ↓q_slice, ↓oi_none, ↓oi_int, ↓X_slice, ↓XO_none, ↓XO_some, ↓u_rev, ↓u_zip, ↓xb_two, ↓u_range2, ↓retV_ret, ↓retV_next, List.getElem?_cons_zero, List.getElem?_cons_succ, List.set_cons_zero, List.set_cons_succ, Bool.not_true, Bool.not_false, idx_0, idx_1, idx_2, idx_3, idx_4, idx_5, Int.reduceAdd, Int.reduceSub, Int.reduceMul, Int.reduceNeg, Int.reducePow, Int.reduceLT, Int.reduceLE, Int.reduceEq, Int.reduceNe, Int.reduceToNat, Int.reduceAbs, Nat.reduceAdd, Nat.reduceLT, Nat.reduceLeDiff, Nat.reducePow, Nat.reduceLT, List.length_cons, List.length_nil, true_implies, false_implies, not_true_eq_false, not_false_eq_true, and_true, true_and, and_self, or_true, true_or, decide_true, decide_false, exists_eq_left', Option.some.injEq, ↓X_strm, ↓sV_str, ↓q_join, ↓q_split, ↓q_strint, ↓q_strstr, ↓q_intstr, ↓q_lenstr, ↓q_slices, ↓q_ins, ↓q_nins, ↓u_str, e]
    refine ⟨small_abs (h d (by simp)), ?_⟩
    refine comp_strs hj r _ (fun x hx => h x (List.mem_cons_of_mem _ hx)) ?_
    simpa [numS] using q

noncomputable def C_sh (n : Nat) : Ctr := fun vs H Q _ => ∃ r : Rl, vs = [rv r] ∧ r.good ∧ r.depth ≤ n ∧ r.depth ≤ 8 ∧ ∀ H', H <+: H' → Q (.str r.text) H'
noncomputable def SH : Nat → Orc
  | 0 => A6
  | n + 1 => ext "shown" (C_sh n) (SH n)
theorem SH_sh {n : Nat} : SH (n + 1) "shown" = C_sh n := rfl

noncomputable abbrev shB : List IS := [(.ite (.call (.bi .isinstance) [(.loc 2), (.lit (.ty .str))]) [(.expr (.meth (.loc 1) .append [(.loc 2)]))] [(.ite (.call (.bi .isinstance) [(.loc 2), (.lit (.ty .int))]) [(.expr (.meth (.loc 1) .append [(.call (.ty .str) [(.loc 2)])]))] [(.ite (.call (.bi .isinstance) [(.sub (.loc 2) (.lit (.int 0))), (.lit (.ty .str))]) [(.expr (.meth (.loc 1) .append [(.call (.fn "shown") [(.loc 2)])]))] [(.expr (.meth (.loc 1) .append [(.strm (.lit (.str ",")) true (.comp (.call (.ty .str) [(.loc 3)]) [3] .val [(.loc 2)] []))]))])])])]
section
variable {Φ : Orc} {v : V} {k : Nat} {rest : List V} {t2 t4 t5 : Option V} {H H' : Hp} {ws : List Str} {Q : QS}

noncomputable def ShGo (Φ : Orc) (v : V) (k : Nat) (rest : List V) (t4 t5 : Option V) (H : Hp) (ws : List Str) (Q : QS) : Prop :=
  ∀ t2 H2, H <+: H2 → listAt H2 k = some (ws.map V.str) → forGo (whBX Φ shB noXS) (fun _ => True) [2] rest [some v, some (.ref k), t2, none, t4, t5] H2 Q
theorem app_str {w : Str} (hk : H.length ≤ k) (hp : H <+: H') (hl : listAt H' k = some (ws.map V.str)) : H <+: H'.set k (.list (ws.map V.str ++ [V.str w])) ∧ listAt (H'.set k (.list (ws.map V.str ++ [V.str w]))) k = some ((ws ++ [w]).map V.str) := by
  refine ⟨pre_set hp hk, ?_⟩
  rw [listAt_set hl]; simp
theorem sh_str {u : Str} (hk : H.length ≤ k) (hz : ws.length ≤ 1000) (q : ShGo Φ v k rest t4 t5 H (ws ++ [u]) Q) : ShGo Φ v k (.str u :: rest) t4 t5 H ws Q := by
  intro t2 H2 hp hl
  rw [foX_cons]
  obtain ⟨p1, p2⟩ := app_str (w := u) hk hp hl
  have hlen : (ws.map V.str).length ≤ 1000000 := by rw [List.length_map]; omega
  simp only [↓X_lit, ↓X_loc, ↓X_bin, ↓negX_int, ↓X_neg, ↓X_not, ↓Y_not, ↓X_and, ↓Y_and, ↓X_or, ↓Y_or, ↓X_cmp, ↓X_cmp2, ↓X_ite, ↓Y_ite, ↓X_tup, ↓X_lst, ↓X_call, ↓X_meth, ↓X_sub, ↓X_comp, ↓Y_lit, ↓Y_loc, ↓Y_cmp, ↓Y_cmp2, ↓Y_call, ↓Y_sub, ↓XEs_nil, ↓XEs_cons, ↓XIfs_nil, ↓XIfs_cons, ↓Z_expr, ↓Z_assign, ↓Z_ret, ↓Z_retNone, ↓Z_ite, ↓Z_for, ↓Z_raise, ↓Z_pass, ↓Z_brk, ↓Z_cont, ↓Zs_nil, ↓sqX_next, ↓sqX_brk, ↓sqX_cont, ↓sqX_ret, ↓Zs_cons, ↓wkX_next, ↓wkX_cont, ↓wkX_brk, ↓wkX_ret, ↓fkX_next, ↓fkX_cont, ↓fkX_brk, ↓fkX_ret, ↓xb_one, ↓oKK_some, ↓oK_some, ↓tX_bool, ↓iX_t, ↓iX_f, ↓iX_d, ↓q_add, ↓q_sub, ↓q_mul, ↓q_div, ↓q_mod, ↓q_pow, ↓q_list, ↓q_eq, ↓q_ne, ↓q_eqs, ↓q_nes, ↓q_eqb, ↓q_lt, ↓q_le, ↓q_gt, ↓q_ge, ↓q_in, ↓q_inl, ↓q_nin, ↓q_is, ↓q_isnot, ↓q_stup, ↓q_sref, ↓q_sscr, ↓q_fn, ↓q_lentup, ↓q_lenref, ↓q_lenscr, ↓q_isi, ↓q_all, ↓q_max, ↓q_min, ↓q_int, ↓q_tuple, ↓q_listc, ↓q_append, ↓q_clear, ↓q_index, ↓q_pop, ↓q_slicet, ↓q_revt, ↓q_revl, ↓q_set, ↓q_repr, ↓q_eqo, ↓X_rev, ↓Z_set, ↓q_addt, ↓q_listt, ↓q_ninl, ↓u_tup, ↓u_ref, ↓u_range, ↓q_slice, ↓oi_none, ↓oi_int, ↓X_slice, ↓XO_none, ↓XO_some, ↓u_rev, ↓u_zip, ↓xb_two, ↓u_range2, ↓retV_ret, ↓retV_next, List.getElem?_cons_zero, List.getElem?_cons_succ, List.set_cons_zero, List.set_cons_succ, Bool.not_true, Bool.not_false, idx_0, idx_1, idx_2, idx_3, idx_4, idx_5, Int.reduceAdd, Int.reduceSub, Int.reduceMul, Int.reduceNeg, Int.reducePow, Int.reduceLT, Int.reduceLE, Int.reduceEq, Int.reduceNe, Int.reduceToNat, Int.reduceAbs, Nat.reduceAdd, Nat.reduceLT, Nat.reduceLeDiff, Nat.reducePow, Nat.reduceLT, List.length_cons, List.length_nil, true_implies, false_implies, not_true_eq_false, not_false_eq_true, and_true, true_and, and_self, or_true, true_or, decide_true, decide_false, exists_eq_left', Option.some.injEq, ↓X_strm, ↓sV_str, ↓q_join, ↓q_split, ↓q_strint, ↓q_strstr, ↓q_intstr, ↓q_lenstr, ↓q_slices, ↓q_ins, ↓q_nins, ↓u_str, isi_str_str, hl, hlen]
  exact ⟨⟨_, hl⟩, q _ _ p1 p2⟩
theorem sh_num {i : Int} (hi : small i) (hk : H.length ≤ k) (hz : ws.length ≤ 1000) (q : ShGo Φ v k rest t4 t5 H (ws ++ [numS i]) Q) : ShGo Φ v k (.int i :: rest) t4 t5 H ws Q := by
  intro t2 H2 hp hl
  rw [foX_cons]
  obtain ⟨p1, p2⟩ := app_str (w := numS i) hk hp hl
  have hlen : (ws.map V.str).length ≤ 1000000 := by rw [List.length_map]; omega
  simp only [↓X_lit, ↓X_loc, ↓X_bin, ↓negX_int, ↓X_neg, ↓X_not, ↓Y_not, ↓X_and, ↓Y_and, ↓X_or, ↓Y_or, ↓X_cmp, ↓X_cmp2, ↓X_ite, ↓Y_ite, ↓X_tup, ↓X_lst, ↓X_call, ↓X_meth, ↓X_sub, ↓X_comp, ↓Y_lit, ↓Y_loc, ↓Y_cmp, ↓Y_cmp2, ↓Y_call, ↓Y_sub, ↓XEs_nil, ↓XEs_cons, ↓XIfs_nil, ↓XIfs_cons, ↓Z_expr, ↓Z_assign, ↓Z_ret, ↓Z_retNone, ↓Z_ite, ↓Z_for, ↓Z_raise, ↓Z_pass, ↓Z_brk, ↓Z_cont, ↓Zs_nil, ↓sqX_next, ↓sqX_brk, ↓sqX_cont, ↓sqX_ret, ↓Zs_cons, ↓wkX_next, ↓wkX_cont, ↓wkX_brk, ↓wkX_ret, ↓fkX_next, ↓fkX_cont, ↓fkX_brk, ↓fkX_ret, ↓xb_one, ↓oKK_some, ↓oK_some, ↓tX_bool, ↓iX_t, ↓iX_f, ↓iX_d, ↓q_add, ↓q_sub, ↓q_mul, ↓q_div, ↓q_mod, ↓q_pow, ↓q_list, ↓q_eq, ↓q_ne, ↓q_eqs, ↓q_nes, ↓q_eqb, ↓q_lt, ↓q_le, ↓q_gt, ↓q_ge, ↓q_in, ↓q_inl, ↓q_nin, ↓q_is, ↓q_isnot, ↓q_stup, ↓q_sref, ↓q_sscr, ↓q_fn, ↓q_lentup, ↓q_lenref, ↓q_lenscr, ↓q_isi, ↓q_all, ↓q_max, ↓q_min, ↓q_int, ↓q_tuple, ↓q_listc, ↓q_append, ↓q_clear, ↓q_index, ↓q_pop, ↓q_slicet, ↓q_revt, ↓q_revl, ↓q_set, ↓q_repr, ↓q_eqo, ↓X_rev, ↓Z_set, ↓q_addt, ↓q_listt, ↓q_ninl, ↓u_tup, ↓u_ref, ↓u_range, ↓q_slice, ↓oi_none, ↓oi_int, ↓X_slice, ↓XO_none, ↓XO_some, ↓u_rev, ↓u_zip, ↓xb_two, ↓u_range2, ↓retV_ret, ↓retV_next, List.getElem?_cons_zero, List.getElem?_cons_succ, List.set_cons_zero, List.set_cons_succ, Bool.not_true, Bool.not_false, idx_0, idx_1, idx_2, idx_3, idx_4, idx_5, Int.reduceAdd, Int.reduceSub, Int.reduceMul, Int.reduceNeg, Int.reducePow, Int.reduceLT, Int.reduceLE, Int.reduceEq, Int.reduceNe, Int.reduceToNat, Int.reduceAbs, Nat.reduceAdd, Nat.reduceLT, Nat.reduceLeDiff, Nat.reducePow, Nat.reduceLT, List.length_cons, List.length_nil, true_implies, false_implies, not_true_eq_false, not_false_eq_true, and_true, true_and, and_self, or_true, true_or, decide_true, decide_false, exists_eq_left', Option.some.injEq, ↓X_strm, ↓sV_str, ↓q_join, ↓q_split, ↓q_strint, ↓q_strstr, ↓q_intstr, ↓q_lenstr, ↓q_slices, ↓q_ins, ↓q_nins, ↓u_str, isi_int_str, isi_int_int, hl, hlen, small_abs hi]
  exact ⟨⟨_, hl⟩, q _ _ p1 p2⟩
theorem sg_ints {ds : List Int} (hne : ds ≠ []) (hs : ∀ d ∈ ds, small d) (hd : ds.length ≤ 20) (hk : H.length ≤ k) (hz : ws.length ≤ 1000) (q : ShGo Φ v k rest t4 t5 H (ws ++ [listS ds]) Q) : ShGo Φ v k (intsV ds :: rest) t4 t5 H ws Q := by
  intro t2 H2 hp hl
  rw [foX_cons]
  have hlen : (ws.map V.str).length ≤ 1000000 := by rw [List.length_map]; omega
  obtain ⟨d0, hd0⟩ : ∃ d0, idx (ds.map V.int) 0 = some (V.int d0) := by
    cases ds with
    | nil => exact absurd rfl hne
    | cons a r => exact ⟨a, rfl⟩
  simp only [↓X_lit, ↓X_loc, ↓X_bin, ↓negX_int, ↓X_neg, ↓X_not, ↓Y_not, ↓X_and, ↓Y_and, ↓X_or, ↓Y_or, ↓X_cmp, ↓X_cmp2, ↓X_ite, ↓Y_ite, ↓X_tup, ↓X_lst, ↓X_call, ↓X_meth, ↓X_sub, ↓X_comp, ↓Y_lit, ↓Y_loc, ↓Y_cmp, ↓Y_cmp2, ↓Y_call, ↓Y_sub, ↓XEs_nil, ↓XEs_cons, ↓XIfs_nil, ↓XIfs_cons, ↓Z_expr, ↓Z_assign, ↓Z_ret, ↓Z_retNone, ↓Z_ite, ↓Z_for, ↓Z_raise, ↓Z_pass, ↓Z_brk, ↓Z_cont, ↓Zs_nil, ↓sqX_next, ↓sqX_brk, ↓sqX_cont, ↓sqX_ret, ↓Zs_cons, ↓wkX_next, ↓wkX_cont, ↓wkX_brk, ↓wkX_ret, ↓fkX_next, ↓fkX_cont, ↓fkX_brk, ↓fkX_ret, ↓xb_one, ↓oKK_some, ↓oK_some, ↓tX_bool, ↓iX_t, ↓iX_f, ↓iX_d, ↓q_add, ↓q_sub, ↓q_mul, ↓q_div, ↓q_mod, ↓q_pow, ↓q_eq, ↓q_ne, ↓q_eqs, ↓q_nes, ↓q_eqb, ↓q_lt, ↓q_le, ↓q_gt, ↓q_ge, ↓q_in, ↓q_inl, ↓q_nin, ↓q_is, ↓q_isnot, ↓q_stup, ↓q_sref, ↓q_sscr, ↓q_fn, ↓q_lentup, ↓q_lenref, ↓q_lenscr, ↓q_isi, ↓q_all, ↓q_max, ↓q_min, ↓q_int, ↓q_tuple, ↓q_listc, ↓q_append, ↓q_clear, ↓q_index, ↓q_pop, ↓q_slicet, ↓q_revt, ↓q_revl, ↓q_set, ↓q_repr, ↓q_eqo, ↓X_rev, ↓Z_set, ↓q_addt, ↓q_listt, ↓q_ninl, ↓u_tup, ↓u_ref, ↓u_range, ↓q_slice, ↓oi_none, ↓oi_int, ↓X_slice, ↓XO_none, ↓XO_some, ↓u_rev, ↓u_zip, ↓xb_two, ↓u_range2, ↓retV_ret, ↓retV_next, List.getElem?_cons_zero, List.getElem?_cons_succ, List.set_cons_zero, List.set_cons_succ, Bool.not_true, Bool.not_false, idx_0, idx_1, idx_2, idx_3, idx_4, idx_5, Int.reduceAdd, Int.reduceSub, Int.reduceMul, Int.reduceNeg, Int.reducePow, Int.reduceLT, Int.reduceLE, Int.reduceEq, Int.reduceNe, Int.reduceToNat, Int.reduceAbs, Nat.reduceAdd, Nat.reduceLT, Nat.reduceLeDiff, Nat.reducePow, Nat.reduceLT, List.length_cons, List.length_nil, true_implies, false_implies, not_true_eq_false, not_false_eq_true, and_true, true_and, and_self, or_true, true_or, decide_true, decide_false, exists_eq_left', Option.some.injEq, ↓X_strm, ↓sV_str, ↓q_join, ↓q_split, ↓q_strint, ↓q_strstr, ↓q_intstr, ↓q_lenstr, ↓q_slices, ↓q_ins, ↓q_nins, ↓u_str, intsV, isi_tup_str, isi_tup_int, hd0, isi_int_str]
  refine ⟨⟨_, hl⟩, comp_strs (by simp) ds [] hs ?_⟩
  rw [List.nil_append]
  have hl2 := listAt_pre (pre_new (o := .list (ds.map fun d => V.str (numS d)))) hl
  obtain ⟨p1, p2⟩ := app_str (w := listS ds) hk (hp.trans (pre_new (o := .list (ds.map fun d => V.str (numS d))))) hl2
  have hsum := list_sum hs hd
  refine ⟨by rw [List.length_map]; omega, ?_⟩
  simp only [↓X_lit, ↓X_loc, ↓X_bin, ↓negX_int, ↓X_neg, ↓X_not, ↓Y_not, ↓X_and, ↓Y_and, ↓X_or, ↓Y_or, ↓X_cmp, ↓X_cmp2, ↓X_ite, ↓Y_ite, ↓X_tup, ↓X_lst, ↓X_call, ↓X_meth, ↓X_sub, ↓X_comp, ↓Y_lit, ↓Y_loc, ↓Y_cmp, ↓Y_cmp2, ↓Y_call, ↓Y_sub, ↓XEs_nil, ↓XEs_cons, ↓XIfs_nil, ↓XIfs_cons, ↓Z_expr, ↓Z_assign, ↓Z_ret, ↓Z_retNone, ↓Z_ite, ↓Z_for, ↓Z_raise, ↓Z_pass, ↓Z_brk, ↓Z_cont, ↓Zs_nil, ↓sqX_next, ↓sqX_brk, ↓sqX_cont, ↓sqX_ret, ↓Zs_cons, ↓wkX_next, ↓wkX_cont, ↓wkX_brk, ↓wkX_ret, ↓fkX_next, ↓fkX_cont, ↓fkX_brk, ↓fkX_ret, ↓xb_one, ↓oKK_some, ↓oK_some, ↓tX_bool, ↓iX_t, ↓iX_f, ↓iX_d, ↓q_add, ↓q_sub, ↓q_mul, ↓q_div, ↓q_mod, ↓q_pow, ↓q_list, ↓q_eq, ↓q_ne, ↓q_eqs, ↓q_nes, ↓q_eqb, ↓q_lt, ↓q_le, ↓q_gt, ↓q_ge, ↓q_in, ↓q_inl, ↓q_nin, ↓q_is, ↓q_isnot, ↓q_stup, ↓q_sref, ↓q_sscr, ↓q_fn, ↓q_lentup, ↓q_lenref, ↓q_lenscr, ↓q_isi, ↓q_all, ↓q_max, ↓q_min, ↓q_int, ↓q_tuple, ↓q_listc, ↓q_append, ↓q_clear, ↓q_index, ↓q_pop, ↓q_slicet, ↓q_revt, ↓q_revl, ↓q_set, ↓q_repr, ↓q_eqo, ↓X_rev, ↓Z_set, ↓q_addt, ↓q_listt, ↓q_ninl, ↓u_tup, ↓u_ref, ↓u_range, ↓q_slice, ↓oi_none, ↓oi_int, ↓X_slice, ↓XO_none, ↓XO_some, ↓u_rev, ↓u_zip, ↓xb_two, ↓u_range2, ↓retV_ret, ↓retV_next, List.getElem?_cons_zero, List.getElem?_cons_succ, List.set_cons_zero, List.set_cons_succ, Bool.not_true, Bool.not_false, idx_0, idx_1, idx_2, idx_3, idx_4, idx_5, Int.reduceAdd, Int.reduceSub, Int.reduceMul, Int.reduceNeg, Int.reducePow, Int.reduceLT, Int.reduceLE, Int.reduceEq, Int.reduceNe, Int.reduceToNat, Int.reduceAbs, Nat.reduceAdd, Nat.reduceLT, Nat.reduceLeDiff, Nat.reducePow, Nat.reduceLT, List.length_cons, List.length_nil, true_implies, false_implies, not_true_eq_false, not_false_eq_true, and_true, true_and, and_self, or_true, true_or, decide_true, decide_false, exists_eq_left', Option.some.injEq, ↓X_strm, ↓sV_str, ↓q_join, ↓q_split, ↓q_strint, ↓q_strstr, ↓q_intstr, ↓q_lenstr, ↓q_slices, ↓q_ins, ↓q_nins, ↓u_str, listAt_new, strs_nums, hl2, hlen]
  exact ⟨Nat.le_trans hsum (by decide), q _ _ p1 p2⟩
theorem sh_in {n : Nat} {r : Rl} (hg : r.good) (hd : r.depth ≤ n) (h8 : r.depth ≤ 8) (hk : H.length ≤ k) (hkl : k < H.length + 1) (hz : ws.length ≤ 1000) (q : ShGo (SH (n + 1)) v k rest t4 t5 H (ws ++ [r.text]) Q) : ShGo (SH (n + 1)) v k (rv r :: rest) t4 t5 H ws Q := by
  intro t2 H2 hp hl
  rw [foX_cons]
  have hlen : (ws.map V.str).length ≤ 1000000 := by rw [List.length_map]; omega
  have hfirst : ∃ l u, rv r = .tup l ∧ idx l 0 = some (V.str u) := by cases r <;> exact ⟨_, _, rfl, rfl⟩
  obtain ⟨l, u, el, hu⟩ := hfirst
  rw [el]
  simp only [↓X_lit, ↓X_loc, ↓X_bin, ↓negX_int, ↓X_neg, ↓X_not, ↓Y_not, ↓X_and, ↓Y_and, ↓X_or, ↓Y_or, ↓X_cmp, ↓X_cmp2, ↓X_ite, ↓Y_ite, ↓X_tup, ↓X_lst, ↓X_call, ↓X_meth, ↓X_sub, ↓X_comp, ↓Y_lit, ↓Y_loc, ↓Y_cmp, ↓Y_cmp2, ↓Y_call, ↓Y_sub, ↓XEs_nil, ↓XEs_cons, ↓XIfs_nil, ↓XIfs_cons, ↓Z_expr, ↓Z_assign, ↓Z_ret, ↓Z_retNone, ↓Z_ite, ↓Z_for, ↓Z_raise, ↓Z_pass, ↓Z_brk, ↓Z_cont, ↓Zs_nil, ↓sqX_next, ↓sqX_brk, ↓sqX_cont, ↓sqX_ret, ↓Zs_cons, ↓wkX_next, ↓wkX_cont, ↓wkX_brk, ↓wkX_ret, ↓fkX_next, ↓fkX_cont, ↓fkX_brk, ↓fkX_ret, ↓xb_one, ↓oKK_some, ↓oK_some, ↓tX_bool, ↓iX_t, ↓iX_f, ↓iX_d, ↓q_add, ↓q_sub, ↓q_mul, ↓q_div, ↓q_mod, ↓q_pow, ↓q_list, ↓q_eq, ↓q_ne, ↓q_eqs, ↓q_nes, ↓q_eqb, ↓q_lt, ↓q_le, ↓q_gt, ↓q_ge, ↓q_in, ↓q_inl, ↓q_nin, ↓q_is, ↓q_isnot, ↓q_stup, ↓q_sref, ↓q_sscr, ↓q_fn, ↓q_lentup, ↓q_lenref, ↓q_lenscr, ↓q_isi, ↓q_all, ↓q_max, ↓q_min, ↓q_int, ↓q_tuple, ↓q_listc, ↓q_append, ↓q_clear, ↓q_index, ↓q_pop, ↓q_slicet, ↓q_revt, ↓q_revl, ↓q_set, ↓q_repr, ↓q_eqo, ↓X_rev, ↓Z_set, ↓q_addt, ↓q_listt, ↓q_ninl, ↓u_tup, ↓u_ref, ↓u_range, ↓q_slice, ↓oi_none, ↓oi_int, ↓X_slice, ↓XO_none, ↓XO_some, ↓u_rev, ↓u_zip, ↓xb_two, ↓u_range2, ↓retV_ret, ↓retV_next, List.getElem?_cons_zero, List.getElem?_cons_succ, List.set_cons_zero, List.set_cons_succ, Bool.not_true, Bool.not_false, idx_0, idx_1, idx_2, idx_3, idx_4, idx_5, Int.reduceAdd, Int.reduceSub, Int.reduceMul, Int.reduceNeg, Int.reducePow, Int.reduceLT, Int.reduceLE, Int.reduceEq, Int.reduceNe, Int.reduceToNat, Int.reduceAbs, Nat.reduceAdd, Nat.reduceLT, Nat.reduceLeDiff, Nat.reducePow, Nat.reduceLT, List.length_cons, List.length_nil, true_implies, false_implies, not_true_eq_false, not_false_eq_true, and_true, true_and, and_self, or_true, true_or, decide_true, decide_false, exists_eq_left', Option.some.injEq, ↓X_strm, ↓sV_str, ↓q_join, ↓q_split, ↓q_strint, ↓q_strstr, ↓q_intstr, ↓q_lenstr, ↓q_slices, ↓q_ins, ↓q_nins, ↓u_str, isi_tup_str, isi_tup_int, hu, isi_str_str, ↓SH_sh]
  refine ⟨⟨_, hl⟩, r, by rw [el], hg, hd, h8, fun H3 hp3 => ?_⟩
  have hl3 := listAt_pre hp3 hl
  obtain ⟨p1, p2⟩ := app_str (w := r.text) hk (hp.trans hp3) hl3
  simp only [↓X_lit, ↓X_loc, ↓X_bin, ↓negX_int, ↓X_neg, ↓X_not, ↓Y_not, ↓X_and, ↓Y_and, ↓X_or, ↓Y_or, ↓X_cmp, ↓X_cmp2, ↓X_ite, ↓Y_ite, ↓X_tup, ↓X_lst, ↓X_call, ↓X_meth, ↓X_sub, ↓X_comp, ↓Y_lit, ↓Y_loc, ↓Y_cmp, ↓Y_cmp2, ↓Y_call, ↓Y_sub, ↓XEs_nil, ↓XEs_cons, ↓XIfs_nil, ↓XIfs_cons, ↓Z_expr, ↓Z_assign, ↓Z_ret, ↓Z_retNone, ↓Z_ite, ↓Z_for, ↓Z_raise, ↓Z_pass, ↓Z_brk, ↓Z_cont, ↓Zs_nil, ↓sqX_next, ↓sqX_brk, ↓sqX_cont, ↓sqX_ret, ↓Zs_cons, ↓wkX_next, ↓wkX_cont, ↓wkX_brk, ↓wkX_ret, ↓fkX_next, ↓fkX_cont, ↓fkX_brk, ↓fkX_ret, ↓xb_one, ↓oKK_some, ↓oK_some, ↓tX_bool, ↓iX_t, ↓iX_f, ↓iX_d, ↓q_add, ↓q_sub, ↓q_mul, ↓q_div, ↓q_mod, ↓q_pow, ↓q_list, ↓q_eq, ↓q_ne, ↓q_eqs, ↓q_nes, ↓q_eqb, ↓q_lt, ↓q_le, ↓q_gt, ↓q_ge, ↓q_in, ↓q_inl, ↓q_nin, ↓q_is, ↓q_isnot, ↓q_stup, ↓q_sref, ↓q_sscr, ↓q_fn, ↓q_lentup, ↓q_lenref, ↓q_lenscr, ↓q_isi, ↓q_all, ↓q_max, ↓q_min, ↓q_int, ↓q_tuple, ↓q_listc, ↓q_append, ↓q_clear, ↓q_index, ↓q_pop, ↓q_slicet, ↓q_revt, ↓q_revl, ↓q_set, ↓q_repr, ↓q_eqo, ↓X_rev, ↓Z_set, ↓q_addt, ↓q_listt, ↓q_ninl, ↓u_tup, ↓u_ref, ↓u_range, ↓q_slice, ↓oi_none, ↓oi_int, ↓X_slice, ↓XO_none, ↓XO_some, ↓u_rev, ↓u_zip, ↓xb_two, ↓u_range2, ↓retV_ret, ↓retV_next, List.getElem?_cons_zero, List.getElem?_cons_succ, List.set_cons_zero, List.set_cons_succ, Bool.not_true, Bool.not_false, idx_0, idx_1, idx_2, idx_3, idx_4, idx_5, Int.reduceAdd, Int.reduceSub, Int.reduceMul, Int.reduceNeg, Int.reducePow, Int.reduceLT, Int.reduceLE, Int.reduceEq, Int.reduceNe, Int.reduceToNat, Int.reduceAbs, Nat.reduceAdd, Nat.reduceLT, Nat.reduceLeDiff, Nat.reducePow, Nat.reduceLT, List.length_cons, List.length_nil, true_implies, false_implies, not_true_eq_false, not_false_eq_true, and_true, true_and, and_self, or_true, true_or, decide_true, decide_false, exists_eq_left', Option.some.injEq, ↓X_strm, ↓sV_str, ↓q_join, ↓q_split, ↓q_strint, ↓q_strstr, ↓q_intstr, ↓q_lenstr, ↓q_slices, ↓q_ins, ↓q_nins, ↓u_str, hl3, hlen]
  have := q (some (rv r)) _ p1 p2
  rw [el] at this
  exact this
theorem sh_end (hq : ∀ t2 H2, H <+: H2 → listAt H2 k = some (ws.map V.str) → Q .next [some v, some (.ref k), t2, none, t4, t5] H2) : ShGo Φ v k [] t4 t5 H ws Q := fun t2 H2 hp hl => hq t2 H2 hp hl
end
theorem w_shown (n : Nat) : ∀ vs H Q X, C_sh n vs H Q X → wpFn (SH n) f_shown vs H Q X := by
  rintro vs H Q X ⟨r, rfl, g, hd, h8, q⟩
  refine fn_of rfl ?_
  change wpSs (SH n) f_shown.body [some (rv r), none, none, none, none, none] H _ _
  refine zs_cons ?_
  generalize hK : sqX (SH n) (_ :: _) = K
  simp only [↓X_lit, ↓X_loc, ↓X_bin, ↓negX_int, ↓X_neg, ↓X_not, ↓Y_not, ↓X_and, ↓Y_and, ↓X_or, ↓Y_or, ↓X_cmp, ↓X_cmp2, ↓X_ite, ↓Y_ite, ↓X_tup, ↓X_lst, ↓X_call, ↓X_meth, ↓X_sub, ↓X_comp, ↓Y_lit, ↓Y_loc, ↓Y_cmp, ↓Y_cmp2, ↓Y_call, ↓Y_sub, ↓XEs_nil, ↓XEs_cons, ↓XIfs_nil, ↓XIfs_cons, ↓Z_expr, ↓Z_assign, ↓Z_ret, ↓Z_retNone, ↓Z_ite, ↓Z_for, ↓Z_raise, ↓Z_pass, ↓Z_brk, ↓Z_cont, ↓Zs_nil, ↓sqX_next, ↓sqX_brk, ↓sqX_cont, ↓sqX_ret, ↓Zs_cons, ↓wkX_next, ↓wkX_cont, ↓wkX_brk, ↓wkX_ret, ↓fkX_next, ↓fkX_cont, ↓fkX_brk, ↓fkX_ret, ↓xb_one, ↓oKK_some, ↓oK_some, ↓tX_bool, ↓iX_t, ↓iX_f, ↓iX_d, ↓q_add, ↓q_sub, ↓q_mul, ↓q_div, ↓q_mod, ↓q_pow, ↓q_list, ↓q_eq, ↓q_ne, ↓q_eqs, ↓q_nes, ↓q_eqb, ↓q_lt, ↓q_le, ↓q_gt, ↓q_ge, ↓q_in, ↓q_inl, ↓q_nin, ↓q_is, ↓q_isnot, ↓q_stup, ↓q_sref, ↓q_sscr, ↓q_fn, ↓q_lentup, ↓q_lenref, ↓q_lenscr, ↓q_isi, ↓q_all, ↓q_max, ↓q_min, ↓q_int, ↓q_tuple, ↓q_listc, ↓q_append, ↓q_clear, ↓q_index, ↓q_pop, ↓q_slicet, ↓q_revt, ↓q_revl, ↓q_set, ↓q_repr, ↓q_eqo, ↓X_rev, ↓Z_set, ↓q_addt, ↓q_listt, ↓q_ninl, ↓u_tup, ↓u_ref, ↓u_range, ↓q_slice, ↓oi_none, ↓oi_int, ↓X_slice, ↓XO_none, ↓XO_some, ↓u_rev, ↓u_zip, ↓xb_two, ↓u_range2, ↓retV_ret, ↓retV_next, List.getElem?_cons_zero, List.getElem?_cons_succ, List.set_cons_zero, List.set_cons_succ, Bool.not_true, Bool.not_false, idx_0, idx_1, idx_2, idx_3, idx_4, idx_5, Int.reduceAdd, Int.reduceSub, Int.reduceMul, Int.reduceNeg, Int.reducePow, Int.reduceLT, Int.reduceLE, Int.reduceEq, Int.reduceNe, Int.reduceToNat, Int.reduceAbs, Nat.reduceAdd, Nat.reduceLT, Nat.reduceLeDiff, Nat.reducePow, Nat.reduceLT, List.length_cons, List.length_nil, true_implies, false_implies, not_true_eq_false, not_false_eq_true, and_true, true_and, and_self, or_true, true_or, decide_true, decide_false, exists_eq_left', Option.some.injEq, ↓X_strm, ↓sV_str, ↓q_join, ↓q_split, ↓q_strint, ↓q_strstr, ↓q_intstr, ↓q_lenstr, ↓q_slices, ↓q_ins, ↓q_nins, ↓u_str]
  subst hK
  refine zs_cons ?_
  have fin : ∀ t2 H2, H <+: H2 → listAt H2 H.length = some (r.words.map V.str) → sqX (SH n) [IS.ret (.strm (.lit (.str " ")) true (.loc 1))] (fun fl _ H1 => Q (retV fl) H1) (fun x _ H1 => X x H1) .next [some (rv r), some (.ref H.length), t2, none, none, none] H2 := fun t2 H2 hp hl => by
    simp only [↓X_lit, ↓X_loc, ↓X_bin, ↓negX_int, ↓X_neg, ↓X_not, ↓Y_not, ↓X_and, ↓Y_and, ↓X_or, ↓Y_or, ↓X_cmp, ↓X_cmp2, ↓X_ite, ↓Y_ite, ↓X_tup, ↓X_lst, ↓X_call, ↓X_meth, ↓X_sub, ↓X_comp, ↓Y_lit, ↓Y_loc, ↓Y_cmp, ↓Y_cmp2, ↓Y_call, ↓Y_sub, ↓XEs_nil, ↓XEs_cons, ↓XIfs_nil, ↓XIfs_cons, ↓Z_expr, ↓Z_assign, ↓Z_ret, ↓Z_retNone, ↓Z_ite, ↓Z_for, ↓Z_raise, ↓Z_pass, ↓Z_brk, ↓Z_cont, ↓Zs_nil, ↓sqX_next, ↓sqX_brk, ↓sqX_cont, ↓sqX_ret, ↓Zs_cons, ↓wkX_next, ↓wkX_cont, ↓wkX_brk, ↓wkX_ret, ↓fkX_next, ↓fkX_cont, ↓fkX_brk, ↓fkX_ret, ↓xb_one, ↓oKK_some, ↓oK_some, ↓tX_bool, ↓iX_t, ↓iX_f, ↓iX_d, ↓q_add, ↓q_sub, ↓q_mul, ↓q_div, ↓q_mod, ↓q_pow, ↓q_list, ↓q_eq, ↓q_ne, ↓q_eqs, ↓q_nes, ↓q_eqb, ↓q_lt, ↓q_le, ↓q_gt, ↓q_ge, ↓q_in, ↓q_inl, ↓q_nin, ↓q_is, ↓q_isnot, ↓q_stup, ↓q_sref, ↓q_sscr, ↓q_fn, ↓q_lentup, ↓q_lenref, ↓q_lenscr, ↓q_isi, ↓q_all, ↓q_max, ↓q_min, ↓q_int, ↓q_tuple, ↓q_listc, ↓q_append, ↓q_clear, ↓q_index, ↓q_pop, ↓q_slicet, ↓q_revt, ↓q_revl, ↓q_set, ↓q_repr, ↓q_eqo, ↓X_rev, ↓Z_set, ↓q_addt, ↓q_listt, ↓q_ninl, ↓u_tup, ↓u_ref, ↓u_range, ↓q_slice, ↓oi_none, ↓oi_int, ↓X_slice, ↓XO_none, ↓XO_some, ↓u_rev, ↓u_zip, ↓xb_two, ↓u_range2, ↓retV_ret, ↓retV_next, List.getElem?_cons_zero, List.getElem?_cons_succ, List.set_cons_zero, List.set_cons_succ, Bool.not_true, Bool.not_false, idx_0, idx_1, idx_2, idx_3, idx_4, idx_5, Int.reduceAdd, Int.reduceSub, Int.reduceMul, Int.reduceNeg, Int.reducePow, Int.reduceLT, Int.reduceLE, Int.reduceEq, Int.reduceNe, Int.reduceToNat, Int.reduceAbs, Nat.reduceAdd, Nat.reduceLT, Nat.reduceLeDiff, Nat.reducePow, Nat.reduceLT, List.length_cons, List.length_nil, true_implies, false_implies, not_true_eq_false, not_false_eq_true, and_true, true_and, and_self, or_true, true_or, decide_true, decide_false, exists_eq_left', Option.some.injEq, ↓X_strm, ↓sV_str, ↓q_join, ↓q_split, ↓q_strint, ↓q_strstr, ↓q_intstr, ↓q_lenstr, ↓q_slices, ↓q_ins, ↓q_nins, ↓u_str, hl, strs_map]
    exact ⟨Nat.le_trans (words_sum g h8) (by decide), q H2 hp⟩
  have fin2 : ∀ (a b : Str) (r' : Rl), r.words = a :: b :: r'.words → r'.good → r'.depth ≤ 8 → ∀ t2 H2, H <+: H2 → listAt H2 H.length = some ([a, b, r'.text].map V.str) → sqX (SH n) [IS.ret (.strm (.lit (.str " ")) true (.loc 1))] (fun fl _ H1 => Q (retV fl) H1) (fun x _ H1 => X x H1) .next [some (rv r), some (.ref H.length), t2, none, none, none] H2 := fun a b r' e g' h8' t2 H2 hp hl => by
    simp only [↓X_lit, ↓X_loc, ↓X_bin, ↓negX_int, ↓X_neg, ↓X_not, ↓Y_not, ↓X_and, ↓Y_and, ↓X_or, ↓Y_or, ↓X_cmp, ↓X_cmp2, ↓X_ite, ↓Y_ite, ↓X_tup, ↓X_lst, ↓X_call, ↓X_meth, ↓X_sub, ↓X_comp, ↓Y_lit, ↓Y_loc, ↓Y_cmp, ↓Y_cmp2, ↓Y_call, ↓Y_sub, ↓XEs_nil, ↓XEs_cons, ↓XIfs_nil, ↓XIfs_cons, ↓Z_expr, ↓Z_assign, ↓Z_ret, ↓Z_retNone, ↓Z_ite, ↓Z_for, ↓Z_raise, ↓Z_pass, ↓Z_brk, ↓Z_cont, ↓Zs_nil, ↓sqX_next, ↓sqX_brk, ↓sqX_cont, ↓sqX_ret, ↓Zs_cons, ↓wkX_next, ↓wkX_cont, ↓wkX_brk, ↓wkX_ret, ↓fkX_next, ↓fkX_cont, ↓fkX_brk, ↓fkX_ret, ↓xb_one, ↓oKK_some, ↓oK_some, ↓tX_bool, ↓iX_t, ↓iX_f, ↓iX_d, ↓q_add, ↓q_sub, ↓q_mul, ↓q_div, ↓q_mod, ↓q_pow, ↓q_list, ↓q_eq, ↓q_ne, ↓q_eqs, ↓q_nes, ↓q_eqb, ↓q_lt, ↓q_le, ↓q_gt, ↓q_ge, ↓q_in, ↓q_inl, ↓q_nin, ↓q_is, ↓q_isnot, ↓q_stup, ↓q_sref, ↓q_sscr, ↓q_fn, ↓q_lentup, ↓q_lenref, ↓q_lenscr, ↓q_isi, ↓q_all, ↓q_max, ↓q_min, ↓q_int, ↓q_tuple, ↓q_listc, ↓q_append, ↓q_clear, ↓q_index, ↓q_pop, ↓q_slicet, ↓q_revt, ↓q_revl, ↓q_set, ↓q_repr, ↓q_eqo, ↓X_rev, ↓Z_set, ↓q_addt, ↓q_listt, ↓q_ninl, ↓u_tup, ↓u_ref, ↓u_range, ↓q_slice, ↓oi_none, ↓oi_int, ↓X_slice, ↓XO_none, ↓XO_some, ↓u_rev, ↓u_zip, ↓xb_two, ↓u_range2, ↓retV_ret, ↓retV_next, List.getElem?_cons_zero, List.getElem?_cons_succ, List.set_cons_zero, List.set_cons_succ, Bool.not_true, Bool.not_false, idx_0, idx_1, idx_2, idx_3, idx_4, idx_5, Int.reduceAdd, Int.reduceSub, Int.reduceMul, Int.reduceNeg, Int.reducePow, Int.reduceLT, Int.reduceLE, Int.reduceEq, Int.reduceNe, Int.reduceToNat, Int.reduceAbs, Nat.reduceAdd, Nat.reduceLT, Nat.reduceLeDiff, Nat.reducePow, Nat.reduceLT, List.length_cons, List.length_nil, true_implies, false_implies, not_true_eq_false, not_false_eq_true, and_true, true_and, and_self, or_true, true_or, decide_true, decide_false, exists_eq_left', Option.some.injEq, ↓X_strm, ↓sV_str, ↓q_join, ↓q_split, ↓q_strint, ↓q_strstr, ↓q_intstr, ↓q_lenstr, ↓q_slices, ↓q_ins, ↓q_nins, ↓u_str, hl, strs_map]
    have e1 := words_ok g a (by rw [e]; simp)
    have e2 := words_ok g b (by rw [e]; simp)
    have e3 := text_len g' h8'
    refine ⟨?_, ?_⟩
    · have := e1.2; have := e2.2
      have e4 : [a.length, b.length, r'.text.length].sum = a.length + (b.length + (r'.text.length + 0)) := rfl
      show [a.length, b.length, r'.text.length].sum + 3 * (Str.ofString " ").length ≤ 1000000
      rw [sp_len, e4]
      omega
    · rw [text_two, ← e]; exact q H2 hp
  have st : ∀ {l : List V}, rv r = .tup l → ShGo (SH n) (rv r) H.length l none none H [] (sqX (SH n) [IS.ret (.strm (.lit (.str " ")) true (.loc 1))] (fun fl _ H1 => Q (retV fl) H1) (fun x _ H1 => X x H1)) →
      wpS (SH n) (.for [2] .val [(.loc 0)] shB) [some (rv r), some (.ref H.length), none, none, none, none] (H ++ [.list []]) (sqX (SH n) [IS.ret (.strm (.lit (.str " ")) true (.loc 1))] (fun fl _ H1 => Q (retV fl) H1) (fun x _ H1 => X x H1)) (fun x _ H1 => X x H1) := fun {l} e h => by
    rw [Z_for]
    have := h none (H ++ [.list []]) pre_new listAt_new
    rw [e] at this ⊢
    exact this
  have hk : H.length ≤ H.length := Nat.le_refl _
  cases r with
  | once h s => exact st rfl (sh_str hk (by simp) (sh_num g.1.small hk (by simp) (sh_num g.2.small hk (by simp) (sh_end fin))))
  | every h s p => exact st rfl (sh_str hk (by simp) (sh_num g.1.small hk (by simp) (sh_num g.2.1.small hk (by simp) (sh_num (by have := g.2.2; unfold small; omega) hk (by simp) (sh_end fin)))))
  | week ds t s => exact st rfl (sh_str hk (by simp) (sg_ints g.1.1 (g.1.small (by decide)) (Nat.le_trans g.1.2.1 (by decide)) hk (by simp) (sh_num (by have := g.2.1; unfold small; omega) hk (by simp) (sh_num g.2.2.small hk (by simp) (sh_end fin)))))
  | month d t s => exact st rfl (sh_str hk (by simp) (sh_num (by have := g.1; unfold small; omega) hk (by simp) (sh_num (by have := g.2.1; unfold small; omega) hk (by simp) (sh_num g.2.2.small hk (by simp) (sh_end fin)))))
  | frm h r =>
    cases n with
    | zero => cases hd
    | succ n => exact st rfl (sh_str hk (by simp) (sh_num g.1.small hk (by simp) (sh_in g.2 (Nat.le_of_succ_le_succ hd) (Nat.le_of_succ_le h8) hk (by omega) (by simp) (sh_end (fin2 _ _ r rfl g.2 (Nat.le_of_succ_le h8))))))
  | til h r =>
    cases n with
    | zero => cases hd
    | succ n => exact st rfl (sh_str hk (by simp) (sh_num g.1.small hk (by simp) (sh_in g.2 (Nat.le_of_succ_le_succ hd) (Nat.le_of_succ_le h8) hk (by omega) (by simp) (sh_end (fin2 _ _ r rfl g.2 (Nat.le_of_succ_le h8))))))
  | als h r =>
    cases n with
    | zero => cases hd
    | succ n => exact st rfl (sh_str hk (by simp) (sh_num g.1.small hk (by simp) (sh_in g.2 (Nat.le_of_succ_le_succ hd) (Nat.le_of_succ_le h8) hk (by omega) (by simp) (sh_end (fin2 _ _ r rfl g.2 (Nat.le_of_succ_le h8))))))
  | but ds r =>
    cases n with
    | zero => cases hd
    | succ n => exact st rfl (sh_str hk (by simp) (sg_ints g.1.1 (g.1.small (by decide)) g.1.2.1 hk (by simp) (sh_in g.2 (Nat.le_of_succ_le_succ hd) (Nat.le_of_succ_le h8) hk (by omega) (by simp) (sh_end (fin2 _ _ r rfl g.2 (Nat.le_of_succ_le h8))))))
end Mine

set_option autoImplicit false
set_option linter.unusedSimpArgs false
set_option maxRecDepth 20000
/- Law 06: number_of, numbers_of, plain_of, rule_of, read. -/
namespace Mine
open PySem

theorem beq_one (a b : Nat) : ((one a) == (one b)) = decide (a = b) := by
  by_cases h : a = b
  · subst h; simp
  · have : ¬ (one a = one b) := fun e => h (by have := congrArg chs e; simpa [chs, one] using this)
    rw [decide_eq_false h]
    exact beq_false_of_ne this
theorem mi_eq : (Str.ofString "-") = one 45 := by decide
theorem slice_to {x : Str} {c : Nat} {cs : List Nat} (h : chs x = c :: cs) : Txt.slice x none (some 1) = one c := by
  have hl : (1 : Int) ≤ x.cps.toList.length := by show (1 : Int) ≤ (chs x).length; rw [h]; simp only [List.length_cons]; omega
  have e := StrLaws.sliceText_to (x := x) (j := 1) ⟨by decide, hl⟩
  have e2 : Txt.slice x none (some 1) = StrLaws.sliceText x none (some 1) := rfl
  rw [e2, e]
  apply str_ext
  show ((chs x).drop 0).take 1 = [c]
  rw [h]; rfl
theorem slice_from {x : Str} {c : Nat} {cs : List Nat} (h : chs x = c :: cs) : chs (Txt.slice x (some 1) none) = cs := by
  have hl : (1 : Int) ≤ x.cps.toList.length := by show (1 : Int) ≤ (chs x).length; rw [h]; simp only [List.length_cons]; omega
  have e := StrLaws.sliceText_from (x := x) (i := 1) ⟨by decide, hl⟩
  have e2 : Txt.slice x (some 1) none = StrLaws.sliceText x (some 1) none := rfl
  rw [e2, e]
  simp only [chs] at h ⊢
  rw [h]
  simp
theorem fig_in {c : Nat} (h : 48 ≤ c ∧ c ≤ 57) : Txt.contains "0123456789" (one c) = true := by
  have : c = 48 ∨ c = 49 ∨ c = 50 ∨ c = 51 ∨ c = 52 ∨ c = 53 ∨ c = 54 ∨ c = 55 ∨ c = 56 ∨ c = 57 := by omega
  rcases this with rfl | rfl | rfl | rfl | rfl | rfl | rfl | rfl | rfl | rfl <;> decide +kernel
noncomputable def C_no : Ctr := fun vs H Q _ => ∃ i : Int, vs = [.str (numS i)] ∧ small i ∧ Q (.int i) H
noncomputable def N0 : Orc := SH 9
theorem no_loop {a b : V} {t3 t4 t5 : Option V} {H : Hp} {Q : QS} (hq : ∀ t2, Q .next [some a, some b, t2, t3, t4, t5] H) : ∀ (cs : List Nat) (t2 : Option V), (∀ c ∈ cs, 48 ≤ c ∧ c ≤ 57) →
    forGo (whBX N0 [(.ite (.cmp (.loc 2) .NotIn (.lit (.str "0123456789"))) [(.raise "" [])] [])] noXS) (fun _ => True) [2] (cs.map fun c => V.str ⟨#[c]⟩) [some a, some b, t2, t3, t4, t5] H Q
  | [], t2, _ => hq t2
  | c :: r, t2, h => by
    rw [List.map_cons, foX_cons]
    simp only [↓X_lit, ↓X_loc, ↓X_bin, ↓negX_int, ↓X_neg, ↓X_not, ↓Y_not, ↓X_and, ↓Y_and, ↓X_or, ↓Y_or, ↓X_cmp, ↓X_cmp2, ↓X_ite, ↓Y_ite, ↓X_tup, ↓X_lst, ↓X_call, ↓X_meth, ↓X_sub, ↓X_comp, ↓Y_lit, ↓Y_loc, ↓Y_cmp, ↓Y_cmp2, ↓Y_call, ↓Y_sub, ↓XEs_nil, ↓XEs_cons, ↓XIfs_nil, ↓XIfs_cons, ↓Z_expr, ↓Z_assign, ↓Z_ret, ↓Z_retNone, ↓Z_ite, ↓Z_for, ↓Z_raise, ↓Z_pass, ↓Z_brk, ↓Z_cont, ↓Zs_nil, ↓sqX_next, ↓sqX_brk, ↓sqX_cont, ↓sqX_ret, ↓Zs_cons, ↓wkX_next, ↓wkX_cont, ↓wkX_brk, ↓wkX_ret, ↓fkX_next, ↓fkX_cont, ↓fkX_brk, ↓fkX_ret, ↓xb_one, ↓oKK_some, ↓oK_some, ↓tX_bool, ↓iX_t, ↓iX_f, ↓iX_d, ↓q_add, ↓q_sub, ↓q_mul, ↓q_div, ↓q_mod, ↓q_pow, ↓q_list, ↓q_eq, ↓q_ne, ↓q_eqs, ↓q_nes, ↓q_eqb, ↓q_lt, ↓q_le, ↓q_gt, ↓q_ge, ↓q_in, ↓q_inl, ↓q_nin, ↓q_is, ↓q_isnot, ↓q_stup, ↓q_sref, ↓q_sscr, ↓q_fn, ↓q_lentup, ↓q_lenref, ↓q_lenscr, ↓q_isi, ↓q_all, ↓q_max, ↓q_min, ↓q_int, ↓q_tuple, ↓q_listc, ↓q_append, ↓q_clear, ↓q_index, ↓q_pop, ↓q_slicet, ↓q_revt, ↓q_revl, ↓q_set, ↓q_repr, ↓q_eqo, ↓X_rev, ↓Z_set, ↓q_addt, ↓q_listt, ↓q_ninl, ↓u_tup, ↓u_ref, ↓u_range, ↓q_slice, ↓oi_none, ↓oi_int, ↓X_slice, ↓XO_none, ↓XO_some, ↓u_rev, ↓u_zip, ↓xb_two, ↓u_range2, ↓retV_ret, ↓retV_next, List.getElem?_cons_zero, List.getElem?_cons_succ, List.set_cons_zero, List.set_cons_succ, Bool.not_true, Bool.not_false, idx_0, idx_1, idx_2, idx_3, idx_4, idx_5, Int.reduceAdd, Int.reduceSub, Int.reduceMul, Int.reduceNeg, Int.reducePow, Int.reduceLT, Int.reduceLE, Int.reduceEq, Int.reduceNe, Int.reduceToNat, Int.reduceAbs, Nat.reduceAdd, Nat.reduceLT, Nat.reduceLeDiff, Nat.reducePow, Nat.reduceLT, List.length_cons, List.length_nil, true_implies, false_implies, not_true_eq_false, not_false_eq_true, and_true, true_and, and_self, or_true, true_or, decide_true, decide_false, exists_eq_left', Option.some.injEq, ↓X_strm, ↓sV_str, ↓q_join, ↓q_split, ↓q_strint, ↓q_strstr, ↓q_intstr, ↓q_lenstr, ↓q_slices, ↓q_ins, ↓q_nins, ↓u_str, fig_in (h c (by simp))]
    exact no_loop hq r _ fun d hd => h d (List.mem_cons_of_mem _ hd)
theorem no_end {i : Int} {F : Str} {H : Hp} {Q : V → Hp → Prop} {X : XL} (hi : small i) (hne : chs F ≠ []) (hlen : F.length ≤ 13) (hd : ∀ c ∈ chs F, 48 ≤ c ∧ c ≤ 57) (q : Q (.int i) H) :
    wpSs N0 (f_number_of.body.drop 2) [some (.str (numS i)), some (.str F), none, none, none, none] H (fun fl _ H1 => Q (retV fl) H1) (fun x _ H1 => X x H1) := by
  refine zs_cons ?_
  generalize hK : sqX N0 (_ :: _) = K
  have h1 : (F == Str.ofString "") = false := by
    refine beq_false_of_ne fun e => hne ?_
    rw [e]; decide
  have h2 : ¬ (13 : Int) < (F.length : Int) := by omega
  simp only [↓X_lit, ↓X_loc, ↓X_bin, ↓negX_int, ↓X_neg, ↓X_not, ↓Y_not, ↓X_and, ↓Y_and, ↓X_or, ↓Y_or, ↓X_cmp, ↓X_cmp2, ↓X_ite, ↓Y_ite, ↓X_tup, ↓X_lst, ↓X_call, ↓X_meth, ↓X_sub, ↓X_comp, ↓Y_lit, ↓Y_loc, ↓Y_cmp, ↓Y_cmp2, ↓Y_call, ↓Y_sub, ↓XEs_nil, ↓XEs_cons, ↓XIfs_nil, ↓XIfs_cons, ↓Z_expr, ↓Z_assign, ↓Z_ret, ↓Z_retNone, ↓Z_ite, ↓Z_for, ↓Z_raise, ↓Z_pass, ↓Z_brk, ↓Z_cont, ↓Zs_nil, ↓sqX_next, ↓sqX_brk, ↓sqX_cont, ↓sqX_ret, ↓Zs_cons, ↓wkX_next, ↓wkX_cont, ↓wkX_brk, ↓wkX_ret, ↓fkX_next, ↓fkX_cont, ↓fkX_brk, ↓fkX_ret, ↓xb_one, ↓oKK_some, ↓oK_some, ↓tX_bool, ↓iX_t, ↓iX_f, ↓iX_d, ↓q_add, ↓q_sub, ↓q_mul, ↓q_div, ↓q_mod, ↓q_pow, ↓q_list, ↓q_eq, ↓q_ne, ↓q_eqs, ↓q_nes, ↓q_eqb, ↓q_lt, ↓q_le, ↓q_gt, ↓q_ge, ↓q_in, ↓q_inl, ↓q_nin, ↓q_is, ↓q_isnot, ↓q_stup, ↓q_sref, ↓q_sscr, ↓q_fn, ↓q_lentup, ↓q_lenref, ↓q_lenscr, ↓q_isi, ↓q_all, ↓q_max, ↓q_min, ↓q_int, ↓q_tuple, ↓q_listc, ↓q_append, ↓q_clear, ↓q_index, ↓q_pop, ↓q_slicet, ↓q_revt, ↓q_revl, ↓q_set, ↓q_repr, ↓q_eqo, ↓X_rev, ↓Z_set, ↓q_addt, ↓q_listt, ↓q_ninl, ↓u_tup, ↓u_ref, ↓u_range, ↓q_slice, ↓oi_none, ↓oi_int, ↓X_slice, ↓XO_none, ↓XO_some, ↓u_rev, ↓u_zip, ↓xb_two, ↓u_range2, ↓retV_ret, ↓retV_next, List.getElem?_cons_zero, List.getElem?_cons_succ, List.set_cons_zero, List.set_cons_succ, Bool.not_true, Bool.not_false, idx_0, idx_1, idx_2, idx_3, idx_4, idx_5, Int.reduceAdd, Int.reduceSub, Int.reduceMul, Int.reduceNeg, Int.reducePow, Int.reduceLT, Int.reduceLE, Int.reduceEq, Int.reduceNe, Int.reduceToNat, Int.reduceAbs, Nat.reduceAdd, Nat.reduceLT, Nat.reduceLeDiff, Nat.reducePow, Nat.reduceLT, List.length_cons, List.length_nil, true_implies, false_implies, not_true_eq_false, not_false_eq_true, and_true, true_and, and_self, or_true, true_or, decide_true, decide_false, exists_eq_left', Option.some.injEq, ↓X_strm, ↓sV_str, ↓q_join, ↓q_split, ↓q_strint, ↓q_strstr, ↓q_intstr, ↓q_lenstr, ↓q_slices, ↓q_ins, ↓q_nins, ↓u_str, h1, h2]
  subst hK
  refine zs_cons ?_
  rw [Z_for]
  show F.cps.all (· < 128) = true ∧ _
  refine ⟨?_, no_loop (fun t2 => ?_) _ _ hd⟩
  · rw [← Array.all_toList, List.all_eq_true]
    intro c hc
    have := hd c hc
    exact decide_eq_true (by omega)
  · simp only [↓X_lit, ↓X_loc, ↓X_bin, ↓negX_int, ↓X_neg, ↓X_not, ↓Y_not, ↓X_and, ↓Y_and, ↓X_or, ↓Y_or, ↓X_cmp, ↓X_cmp2, ↓X_ite, ↓Y_ite, ↓X_tup, ↓X_lst, ↓X_call, ↓X_meth, ↓X_sub, ↓X_comp, ↓Y_lit, ↓Y_loc, ↓Y_cmp, ↓Y_cmp2, ↓Y_call, ↓Y_sub, ↓XEs_nil, ↓XEs_cons, ↓XIfs_nil, ↓XIfs_cons, ↓Z_expr, ↓Z_assign, ↓Z_ret, ↓Z_retNone, ↓Z_ite, ↓Z_for, ↓Z_raise, ↓Z_pass, ↓Z_brk, ↓Z_cont, ↓Zs_nil, ↓sqX_next, ↓sqX_brk, ↓sqX_cont, ↓sqX_ret, ↓Zs_cons, ↓wkX_next, ↓wkX_cont, ↓wkX_brk, ↓wkX_ret, ↓fkX_next, ↓fkX_cont, ↓fkX_brk, ↓fkX_ret, ↓xb_one, ↓oKK_some, ↓oK_some, ↓tX_bool, ↓iX_t, ↓iX_f, ↓iX_d, ↓q_add, ↓q_sub, ↓q_mul, ↓q_div, ↓q_mod, ↓q_pow, ↓q_list, ↓q_eq, ↓q_ne, ↓q_eqs, ↓q_nes, ↓q_eqb, ↓q_lt, ↓q_le, ↓q_gt, ↓q_ge, ↓q_in, ↓q_inl, ↓q_nin, ↓q_is, ↓q_isnot, ↓q_stup, ↓q_sref, ↓q_sscr, ↓q_fn, ↓q_lentup, ↓q_lenref, ↓q_lenscr, ↓q_isi, ↓q_all, ↓q_max, ↓q_min, ↓q_int, ↓q_tuple, ↓q_listc, ↓q_append, ↓q_clear, ↓q_index, ↓q_pop, ↓q_slicet, ↓q_revt, ↓q_revl, ↓q_set, ↓q_repr, ↓q_eqo, ↓X_rev, ↓Z_set, ↓q_addt, ↓q_listt, ↓q_ninl, ↓u_tup, ↓u_ref, ↓u_range, ↓q_slice, ↓oi_none, ↓oi_int, ↓X_slice, ↓XO_none, ↓XO_some, ↓u_rev, ↓u_zip, ↓xb_two, ↓u_range2, ↓retV_ret, ↓retV_next, List.getElem?_cons_zero, List.getElem?_cons_succ, List.set_cons_zero, List.set_cons_succ, Bool.not_true, Bool.not_false, idx_0, idx_1, idx_2, idx_3, idx_4, idx_5, Int.reduceAdd, Int.reduceSub, Int.reduceMul, Int.reduceNeg, Int.reducePow, Int.reduceLT, Int.reduceLE, Int.reduceEq, Int.reduceNe, Int.reduceToNat, Int.reduceAbs, Nat.reduceAdd, Nat.reduceLT, Nat.reduceLeDiff, Nat.reducePow, Nat.reduceLT, List.length_cons, List.length_nil, true_implies, false_implies, not_true_eq_false, not_false_eq_true, and_true, true_and, and_self, or_true, true_or, decide_true, decide_false, exists_eq_left', Option.some.injEq, ↓X_strm, ↓sV_str, ↓q_join, ↓q_split, ↓q_strint, ↓q_strstr, ↓q_intstr, ↓q_lenstr, ↓q_slices, ↓q_ins, ↓q_nins, ↓u_str, num_reads hi.1 hi.2]
    exact ⟨Nat.le_trans (num_len hi.1 hi.2) (by decide), q⟩
theorem w_number_of : ∀ vs H Q X, C_no vs H Q X → wpFn N0 f_number_of vs H Q X := by
  rintro vs H Q X ⟨i, rfl, hi, q⟩
  refine fn_of rfl ?_
  change wpSs N0 f_number_of.body [some (.str (numS i)), none, none, none, none, none] H _ _
  refine zs_cons ?_
  generalize hK : sqX N0 (_ :: _) = K
  simp only [↓X_lit, ↓X_loc, ↓X_bin, ↓negX_int, ↓X_neg, ↓X_not, ↓Y_not, ↓X_and, ↓Y_and, ↓X_or, ↓Y_or, ↓X_cmp, ↓X_cmp2, ↓X_ite, ↓Y_ite, ↓X_tup, ↓X_lst, ↓X_call, ↓X_meth, ↓X_sub, ↓X_comp, ↓Y_lit, ↓Y_loc, ↓Y_cmp, ↓Y_cmp2, ↓Y_call, ↓Y_sub, ↓XEs_nil, ↓XEs_cons, ↓XIfs_nil, ↓XIfs_cons, ↓Z_expr, ↓Z_assign, ↓Z_ret, ↓Z_retNone, ↓Z_ite, ↓Z_for, ↓Z_raise, ↓Z_pass, ↓Z_brk, ↓Z_cont, ↓Zs_nil, ↓sqX_next, ↓sqX_brk, ↓sqX_cont, ↓sqX_ret, ↓Zs_cons, ↓wkX_next, ↓wkX_cont, ↓wkX_brk, ↓wkX_ret, ↓fkX_next, ↓fkX_cont, ↓fkX_brk, ↓fkX_ret, ↓xb_one, ↓oKK_some, ↓oK_some, ↓tX_bool, ↓iX_t, ↓iX_f, ↓iX_d, ↓q_add, ↓q_sub, ↓q_mul, ↓q_div, ↓q_mod, ↓q_pow, ↓q_list, ↓q_eq, ↓q_ne, ↓q_eqs, ↓q_nes, ↓q_eqb, ↓q_lt, ↓q_le, ↓q_gt, ↓q_ge, ↓q_in, ↓q_inl, ↓q_nin, ↓q_is, ↓q_isnot, ↓q_stup, ↓q_sref, ↓q_sscr, ↓q_fn, ↓q_lentup, ↓q_lenref, ↓q_lenscr, ↓q_isi, ↓q_all, ↓q_max, ↓q_min, ↓q_int, ↓q_tuple, ↓q_listc, ↓q_append, ↓q_clear, ↓q_index, ↓q_pop, ↓q_slicet, ↓q_revt, ↓q_revl, ↓q_set, ↓q_repr, ↓q_eqo, ↓X_rev, ↓Z_set, ↓q_addt, ↓q_listt, ↓q_ninl, ↓u_tup, ↓u_ref, ↓u_range, ↓q_slice, ↓oi_none, ↓oi_int, ↓X_slice, ↓XO_none, ↓XO_some, ↓u_rev, ↓u_zip, ↓xb_two, ↓u_range2, ↓retV_ret, ↓retV_next, List.getElem?_cons_zero, List.getElem?_cons_succ, List.set_cons_zero, List.set_cons_succ, Bool.not_true, Bool.not_false, idx_0, idx_1, idx_2, idx_3, idx_4, idx_5, Int.reduceAdd, Int.reduceSub, Int.reduceMul, Int.reduceNeg, Int.reducePow, Int.reduceLT, Int.reduceLE, Int.reduceEq, Int.reduceNe, Int.reduceToNat, Int.reduceAbs, Nat.reduceAdd, Nat.reduceLT, Nat.reduceLeDiff, Nat.reducePow, Nat.reduceLT, List.length_cons, List.length_nil, true_implies, false_implies, not_true_eq_false, not_false_eq_true, and_true, true_and, and_self, or_true, true_or, decide_true, decide_false, exists_eq_left', Option.some.injEq, ↓X_strm, ↓sV_str, ↓q_join, ↓q_split, ↓q_strint, ↓q_strstr, ↓q_intstr, ↓q_lenstr, ↓q_slices, ↓q_ins, ↓q_nins, ↓u_str]
  subst hK
  refine zs_cons ?_
  generalize hK : sqX N0 (_ :: _) = K
  have hl := num_len hi.1 hi.2
  cases i with
  | ofNat m =>
    have hc : chs (numS (Int.ofNat m)) = digs m := num_pos m
    obtain ⟨c, cs, e⟩ := List.exists_cons_of_ne_nil (digs_ne m)
    have hcc := digs_are m c (by rw [e]; simp)
    have e0 : (Txt.slice (numS (Int.ofNat m)) none (some 1) == Str.ofString "-") = false := by rw [slice_to (hc.trans e), mi_eq, beq_one]; exact decide_eq_false (by omega)
    simp only [↓X_lit, ↓X_loc, ↓X_bin, ↓negX_int, ↓X_neg, ↓X_not, ↓Y_not, ↓X_and, ↓Y_and, ↓X_or, ↓Y_or, ↓X_cmp, ↓X_cmp2, ↓X_ite, ↓Y_ite, ↓X_tup, ↓X_lst, ↓X_call, ↓X_meth, ↓X_sub, ↓X_comp, ↓Y_lit, ↓Y_loc, ↓Y_cmp, ↓Y_cmp2, ↓Y_call, ↓Y_sub, ↓XEs_nil, ↓XEs_cons, ↓XIfs_nil, ↓XIfs_cons, ↓Z_expr, ↓Z_assign, ↓Z_ret, ↓Z_retNone, ↓Z_ite, ↓Z_for, ↓Z_raise, ↓Z_pass, ↓Z_brk, ↓Z_cont, ↓Zs_nil, ↓sqX_next, ↓sqX_brk, ↓sqX_cont, ↓sqX_ret, ↓Zs_cons, ↓wkX_next, ↓wkX_cont, ↓wkX_brk, ↓wkX_ret, ↓fkX_next, ↓fkX_cont, ↓fkX_brk, ↓fkX_ret, ↓xb_one, ↓oKK_some, ↓oK_some, ↓tX_bool, ↓iX_t, ↓iX_f, ↓iX_d, ↓q_add, ↓q_sub, ↓q_mul, ↓q_div, ↓q_mod, ↓q_pow, ↓q_list, ↓q_eq, ↓q_ne, ↓q_eqs, ↓q_nes, ↓q_eqb, ↓q_lt, ↓q_le, ↓q_gt, ↓q_ge, ↓q_in, ↓q_inl, ↓q_nin, ↓q_is, ↓q_isnot, ↓q_stup, ↓q_sref, ↓q_sscr, ↓q_fn, ↓q_lentup, ↓q_lenref, ↓q_lenscr, ↓q_isi, ↓q_all, ↓q_max, ↓q_min, ↓q_int, ↓q_tuple, ↓q_listc, ↓q_append, ↓q_clear, ↓q_index, ↓q_pop, ↓q_slicet, ↓q_revt, ↓q_revl, ↓q_set, ↓q_repr, ↓q_eqo, ↓X_rev, ↓Z_set, ↓q_addt, ↓q_listt, ↓q_ninl, ↓u_tup, ↓u_ref, ↓u_range, ↓q_slice, ↓oi_none, ↓oi_int, ↓X_slice, ↓XO_none, ↓XO_some, ↓u_rev, ↓u_zip, ↓xb_two, ↓u_range2, ↓retV_ret, ↓retV_next, List.getElem?_cons_zero, List.getElem?_cons_succ, List.set_cons_zero, List.set_cons_succ, Bool.not_true, Bool.not_false, idx_0, idx_1, idx_2, idx_3, idx_4, idx_5, Int.reduceAdd, Int.reduceSub, Int.reduceMul, Int.reduceNeg, Int.reducePow, Int.reduceLT, Int.reduceLE, Int.reduceEq, Int.reduceNe, Int.reduceToNat, Int.reduceAbs, Nat.reduceAdd, Nat.reduceLT, Nat.reduceLeDiff, Nat.reducePow, Nat.reduceLT, List.length_cons, List.length_nil, true_implies, false_implies, not_true_eq_false, not_false_eq_true, and_true, true_and, and_self, or_true, true_or, decide_true, decide_false, exists_eq_left', Option.some.injEq, ↓X_strm, ↓sV_str, ↓q_join, ↓q_split, ↓q_strint, ↓q_strstr, ↓q_intstr, ↓q_lenstr, ↓q_slices, ↓q_ins, ↓q_nins, ↓u_str, e0]
    subst hK
    exact no_end hi (by rw [hc]; exact digs_ne m) hl (by rw [hc]; exact digs_are m) q
  | negSucc m =>
    have hc : chs (numS (Int.negSucc m)) = 45 :: digs (m + 1) := num_neg m
    have e0 : (Txt.slice (numS (Int.negSucc m)) none (some 1) == Str.ofString "-") = true := by rw [slice_to hc, mi_eq, beq_one]; rfl
    simp only [↓X_lit, ↓X_loc, ↓X_bin, ↓negX_int, ↓X_neg, ↓X_not, ↓Y_not, ↓X_and, ↓Y_and, ↓X_or, ↓Y_or, ↓X_cmp, ↓X_cmp2, ↓X_ite, ↓Y_ite, ↓X_tup, ↓X_lst, ↓X_call, ↓X_meth, ↓X_sub, ↓X_comp, ↓Y_lit, ↓Y_loc, ↓Y_cmp, ↓Y_cmp2, ↓Y_call, ↓Y_sub, ↓XEs_nil, ↓XEs_cons, ↓XIfs_nil, ↓XIfs_cons, ↓Z_expr, ↓Z_assign, ↓Z_ret, ↓Z_retNone, ↓Z_ite, ↓Z_for, ↓Z_raise, ↓Z_pass, ↓Z_brk, ↓Z_cont, ↓Zs_nil, ↓sqX_next, ↓sqX_brk, ↓sqX_cont, ↓sqX_ret, ↓Zs_cons, ↓wkX_next, ↓wkX_cont, ↓wkX_brk, ↓wkX_ret, ↓fkX_next, ↓fkX_cont, ↓fkX_brk, ↓fkX_ret, ↓xb_one, ↓oKK_some, ↓oK_some, ↓tX_bool, ↓iX_t, ↓iX_f, ↓iX_d, ↓q_add, ↓q_sub, ↓q_mul, ↓q_div, ↓q_mod, ↓q_pow, ↓q_list, ↓q_eq, ↓q_ne, ↓q_eqs, ↓q_nes, ↓q_eqb, ↓q_lt, ↓q_le, ↓q_gt, ↓q_ge, ↓q_in, ↓q_inl, ↓q_nin, ↓q_is, ↓q_isnot, ↓q_stup, ↓q_sref, ↓q_sscr, ↓q_fn, ↓q_lentup, ↓q_lenref, ↓q_lenscr, ↓q_isi, ↓q_all, ↓q_max, ↓q_min, ↓q_int, ↓q_tuple, ↓q_listc, ↓q_append, ↓q_clear, ↓q_index, ↓q_pop, ↓q_slicet, ↓q_revt, ↓q_revl, ↓q_set, ↓q_repr, ↓q_eqo, ↓X_rev, ↓Z_set, ↓q_addt, ↓q_listt, ↓q_ninl, ↓u_tup, ↓u_ref, ↓u_range, ↓q_slice, ↓oi_none, ↓oi_int, ↓X_slice, ↓XO_none, ↓XO_some, ↓u_rev, ↓u_zip, ↓xb_two, ↓u_range2, ↓retV_ret, ↓retV_next, List.getElem?_cons_zero, List.getElem?_cons_succ, List.set_cons_zero, List.set_cons_succ, Bool.not_true, Bool.not_false, idx_0, idx_1, idx_2, idx_3, idx_4, idx_5, Int.reduceAdd, Int.reduceSub, Int.reduceMul, Int.reduceNeg, Int.reducePow, Int.reduceLT, Int.reduceLE, Int.reduceEq, Int.reduceNe, Int.reduceToNat, Int.reduceAbs, Nat.reduceAdd, Nat.reduceLT, Nat.reduceLeDiff, Nat.reducePow, Nat.reduceLT, List.length_cons, List.length_nil, true_implies, false_implies, not_true_eq_false, not_false_eq_true, and_true, true_and, and_self, or_true, true_or, decide_true, decide_false, exists_eq_left', Option.some.injEq, ↓X_strm, ↓sV_str, ↓q_join, ↓q_split, ↓q_strint, ↓q_strstr, ↓q_intstr, ↓q_lenstr, ↓q_slices, ↓q_ins, ↓q_nins, ↓u_str, e0]
    subst hK
    have e1 := slice_from hc
    refine no_end hi (by rw [e1]; exact digs_ne _) ?_ (by rw [e1]; exact digs_are _) q
    rw [len_chs, e1]
    rw [len_chs, hc, List.length_cons] at hl
    omega
noncomputable def N1 : Orc := ext "number_of" C_no N0
theorem N1_no : N1 "number_of" = C_no := rfl

theorem comp_nums {Φ : Orc} (hΦ : Φ "number_of" = C_no) {j : Nat} {L : Lc} {QL : List V → Hp → Prop} {H : Hp} {st : Hp → Prop} (hj : j < L.length) (hs : st H) : ∀ (ds : List Int) (acc : List V), (∀ d ∈ ds, small d) → QL (acc ++ ds.map V.int) H →
    compGo (coTX Φ [] noX) (coEX Φ (.call (.fn "number_of") [.loc j]) noX) st [j] L (ds.map fun d => V.str (numS d)) acc H QL
  | [], acc, _, q => by
    have q : QL acc H := by simpa using q
    exact q
  | d :: r, acc, h, q => by
    rw [List.map_cons, coX_cons]
    have e : (L.set j (some (V.str (numS d))))[j]? = some (some (V.str (numS d))) := List.getElem?_set_self hj
    simp only [↓X_lit, ↓X_loc, ↓X_bin, ↓negX_int, ↓X_neg, ↓X_not, ↓Y_not, ↓X_and, ↓Y_and, ↓X_or, ↓Y_or, ↓X_cmp, ↓X_cmp2, ↓X_ite, ↓Y_ite, ↓X_tup, ↓X_lst, ↓X_call, ↓X_meth, ↓X_sub, ↓X_comp, ↓Y_lit, ↓Y_loc, ↓Y_cmp, ↓Y_cmp2, ↓Y_call, ↓Y_sub, ↓XEs_nil, ↓XEs_cons, ↓XIfs_nil, ↓XIfs_cons, ↓Z_expr, ↓Z_assign, ↓Z_ret, ↓Z_retNone, ↓Z_ite, ↓Z_for, ↓Z_raise, ↓Z_pass, ↓Z_brk, ↓Z_cont, ↓Zs_nil, ↓sqX_next, ↓sqX_brk, ↓sqX_cont, ↓sqX_ret, ↓Zs_cons, ↓wkX_next, ↓wkX_cont, ↓wkX_brk, ↓wkX_ret, ↓fkX_next, ↓fkX_cont, ↓fkX_brk, ↓fkX_ret, ↓xb_one, ↓oKK_some, ↓oK_some, ↓tX_bool, ↓iX_t, ↓iX_f, ↓iX_d, ↓q_add, ↓q_sub, ↓q_mul, ↓q_div, ↓q_mod, ↓q_pow, ↓q_list, ↓q_eq, ↓q_ne, ↓q_eqs, ↓q_nes, ↓q_eqb, ↓q_lt, ↓q_le, ↓q_gt, ↓q_ge, ↓q_in, ↓q_inl, ↓q_nin, ↓q_is, ↓q_isnot, ↓q_stup, ↓q_sref, ↓q_sscr, ↓q_fn, ↓q_lentup, ↓q_lenref, ↓q_lenscr, ↓q_isi, ↓q_all, ↓q_max, ↓q_min, ↓q_int, ↓q_tuple, ↓q_listc, ↓q_append, ↓q_clear, ↓q_index, ↓q_pop, ↓q_slicet, ↓q_revt, ↓q_revl, ↓q_set, ↓q_repr, ↓q_eqo, ↓X_rev, ↓Z_set, ↓q_addt, ↓q_listt, ↓q_ninl, ↓u_tup, ↓u_ref, ↓u_range, ↓q_slice, ↓oi_none, ↓oi_int, ↓X_slice, ↓XO_none, ↓XO_some, ↓u_rev, ↓u_zip, ↓xb_two, ↓u_range2, ↓retV_ret, ↓retV_next, List.getElem?_cons_zero, List.getElem?_cons_succ, List.set_cons_zero, List.set_cons_succ, Bool.not_true, Bool.not_false, idx_0, idx_1, idx_2, idx_3, idx_4, idx_5, Int.reduceAdd, Int.reduceSub, Int.reduceMul, Int.reduceNeg, Int.reducePow, Int.reduceLT, Int.reduceLE, Int.reduceEq, Int.reduceNe, Int.reduceToNat, Int.reduceAbs, Nat.reduceAdd, Nat.reduceLT, Nat.reduceLeDiff, Nat.reducePow, Nat.reduceLT, List.length_cons, List.length_nil, true_implies, false_implies, not_true_eq_false, not_false_eq_true, and_true, true_and, and_self, or_true, true_or, decide_true, decide_false, exists_eq_left', Option.some.injEq, ↓X_strm, ↓sV_str, ↓q_join, ↓q_split, ↓q_strint, ↓q_strstr, ↓q_intstr, ↓q_lenstr, ↓q_slices, ↓q_ins, ↓q_nins, ↓u_str, e, hΦ]
    refine ⟨d, rfl, h d (by simp), hs, ?_⟩
    refine comp_nums hΦ hj hs r _ (fun x hx => h x (List.mem_cons_of_mem _ hx)) ?_
    simpa using q
noncomputable def C_nos : Ctr := fun vs H Q _ => ∃ ds : List Int, vs = [.str (listS ds)] ∧ ds ≠ [] ∧ ds.length ≤ 20 ∧ (∀ d ∈ ds, small d) ∧ ∀ H', H <+: H' → Q (intsV ds) H'
theorem w_numbers_of : ∀ vs H Q X, C_nos vs H Q X → wpFn N1 f_numbers_of vs H Q X := by
  rintro vs H Q X ⟨ds, rfl, hne, hl, hs, q⟩
  refine fn_of rfl ?_
  have e1 : ((Str.ofString ",").length == 0) = false := by decide
  have e2 : (listS ds).length ≤ 1000000 := Nat.le_trans (list_ok hs hl).2 (by decide)
  simp only [f_numbers_of, initL, List.map_cons, List.map_nil, List.replicate, List.cons_append, List.nil_append, ↓X_lit, ↓X_loc, ↓X_bin, ↓negX_int, ↓X_neg, ↓X_not, ↓Y_not, ↓X_and, ↓Y_and, ↓X_or, ↓Y_or, ↓X_cmp, ↓X_cmp2, ↓X_ite, ↓Y_ite, ↓X_tup, ↓X_lst, ↓X_call, ↓X_meth, ↓X_sub, ↓X_comp, ↓Y_lit, ↓Y_loc, ↓Y_cmp, ↓Y_cmp2, ↓Y_call, ↓Y_sub, ↓XEs_nil, ↓XEs_cons, ↓XIfs_nil, ↓XIfs_cons, ↓Z_expr, ↓Z_assign, ↓Z_ret, ↓Z_retNone, ↓Z_ite, ↓Z_for, ↓Z_raise, ↓Z_pass, ↓Z_brk, ↓Z_cont, ↓Zs_nil, ↓sqX_next, ↓sqX_brk, ↓sqX_cont, ↓sqX_ret, ↓Zs_cons, ↓wkX_next, ↓wkX_cont, ↓wkX_brk, ↓wkX_ret, ↓fkX_next, ↓fkX_cont, ↓fkX_brk, ↓fkX_ret, ↓xb_one, ↓oKK_some, ↓oK_some, ↓tX_bool, ↓iX_t, ↓iX_f, ↓iX_d, ↓q_add, ↓q_sub, ↓q_mul, ↓q_div, ↓q_mod, ↓q_pow, ↓q_eq, ↓q_ne, ↓q_eqs, ↓q_nes, ↓q_eqb, ↓q_lt, ↓q_le, ↓q_gt, ↓q_ge, ↓q_in, ↓q_inl, ↓q_nin, ↓q_is, ↓q_isnot, ↓q_stup, ↓q_sref, ↓q_sscr, ↓q_fn, ↓q_lentup, ↓q_lenref, ↓q_lenscr, ↓q_isi, ↓q_all, ↓q_max, ↓q_min, ↓q_int, ↓q_tuple, ↓q_listc, ↓q_append, ↓q_clear, ↓q_index, ↓q_pop, ↓q_slicet, ↓q_revt, ↓q_revl, ↓q_set, ↓q_repr, ↓q_eqo, ↓X_rev, ↓Z_set, ↓q_addt, ↓q_listt, ↓q_ninl, ↓u_tup, ↓u_ref, ↓u_range, ↓q_slice, ↓oi_none, ↓oi_int, ↓X_slice, ↓XO_none, ↓XO_some, ↓u_rev, ↓u_zip, ↓xb_two, ↓u_range2, ↓retV_ret, ↓retV_next, List.getElem?_cons_zero, List.getElem?_cons_succ, List.set_cons_zero, List.set_cons_succ, Bool.not_true, Bool.not_false, idx_0, idx_1, idx_2, idx_3, idx_4, idx_5, Int.reduceAdd, Int.reduceSub, Int.reduceMul, Int.reduceNeg, Int.reducePow, Int.reduceLT, Int.reduceLE, Int.reduceEq, Int.reduceNe, Int.reduceToNat, Int.reduceAbs, Nat.reduceAdd, Nat.reduceLT, Nat.reduceLeDiff, Nat.reducePow, Nat.reduceLT, List.length_cons, List.length_nil, true_implies, false_implies, not_true_eq_false, not_false_eq_true, and_true, true_and, and_self, or_true, true_or, decide_true, decide_false, exists_eq_left', Option.some.injEq, ↓X_strm, ↓sV_str, ↓q_join, ↓q_split, ↓q_strint, ↓q_strstr, ↓q_intstr, ↓q_lenstr, ↓q_slices, ↓q_ins, ↓q_nins, ↓u_str, e1, e2, listAt_new, split_list hne, List.map_map]
  refine comp_nums N1_no (by simp) listAt_new ds [] hs ?_
  rw [List.nil_append]
  refine ⟨by rw [List.length_map]; omega, ?_⟩
  exact q _ (pre_new.trans pre_new)
noncomputable def N2 : Orc := ext "numbers_of" C_nos N1
theorem N2_no : N2 "number_of" = C_no := rfl
theorem N2_nos : N2 "numbers_of" = C_nos := rfl

theorem sl_1 {a : V} {l : List V} : sliceL (a :: l) (some 1) none = l := by
  show ((a :: l).drop (clampI (l.length + 1) 1)).take (l.length + 1 - clampI (l.length + 1) 1) = l
  have e : clampI (l.length + 1) 1 = 1 := by unfold clampI; rw [if_pos (by decide)]; show min 1 (l.length + 1) = 1; omega
  rw [e]; show l.take l.length = l; exact List.take_length
theorem sl_2 {a b : V} {l : List V} : sliceL (a :: b :: l) (some 2) none = l := by
  show ((a :: b :: l).drop (clampI (l.length + 1 + 1) 2)).take (l.length + 1 + 1 - clampI (l.length + 1 + 1) 2) = l
  have e : clampI (l.length + 1 + 1) 2 = 2 := by unfold clampI; rw [if_pos (by decide)]; show min 2 (l.length + 1 + 1) = 2; omega
  rw [e]; show l.take l.length = l; exact List.take_length
theorem pl_go {u : Str} {ds : List Int} {i : Nat} {H : Hp} {Q : V → Hp → Prop} {X : XL} (hl : listAt H i = some (.str u :: ds.map fun d => V.str (numS d))) (hs : ∀ d ∈ ds, small d) (hn : ds.length ≤ 20) (q : ∀ H', H <+: H' → Q (.tup (.str u :: ds.map V.int)) H') :
    (wp2 N2 (.call (.ty .tuple) [(.bin .Add (.lst [(.sub (.loc 0) (.lit (.int 0)))]) (.comp (.call (.fn "number_of") [(.loc 1)]) [1] .val [(.slice (.loc 0) (some (.lit (.int 1))) none)] []))])).E [some (.ref i), none, none, none] H Q X := by
  have hl1 := listAt_pre (pre_new (o := .list [.str u])) hl
  simp only [↓X_lit, ↓X_loc, ↓X_bin, ↓negX_int, ↓X_neg, ↓X_not, ↓Y_not, ↓X_and, ↓Y_and, ↓X_or, ↓Y_or, ↓X_cmp, ↓X_cmp2, ↓X_ite, ↓Y_ite, ↓X_tup, ↓X_lst, ↓X_call, ↓X_meth, ↓X_sub, ↓X_comp, ↓Y_lit, ↓Y_loc, ↓Y_cmp, ↓Y_cmp2, ↓Y_call, ↓Y_sub, ↓XEs_nil, ↓XEs_cons, ↓XIfs_nil, ↓XIfs_cons, ↓Z_expr, ↓Z_assign, ↓Z_ret, ↓Z_retNone, ↓Z_ite, ↓Z_for, ↓Z_raise, ↓Z_pass, ↓Z_brk, ↓Z_cont, ↓Zs_nil, ↓sqX_next, ↓sqX_brk, ↓sqX_cont, ↓sqX_ret, ↓Zs_cons, ↓wkX_next, ↓wkX_cont, ↓wkX_brk, ↓wkX_ret, ↓fkX_next, ↓fkX_cont, ↓fkX_brk, ↓fkX_ret, ↓xb_one, ↓oKK_some, ↓oK_some, ↓tX_bool, ↓iX_t, ↓iX_f, ↓iX_d, ↓q_add, ↓q_sub, ↓q_mul, ↓q_div, ↓q_mod, ↓q_pow, ↓q_eq, ↓q_ne, ↓q_eqs, ↓q_nes, ↓q_eqb, ↓q_lt, ↓q_le, ↓q_gt, ↓q_ge, ↓q_in, ↓q_inl, ↓q_nin, ↓q_is, ↓q_isnot, ↓q_stup, ↓q_sref, ↓q_sscr, ↓q_fn, ↓q_lentup, ↓q_lenref, ↓q_lenscr, ↓q_isi, ↓q_all, ↓q_max, ↓q_min, ↓q_int, ↓q_tuple, ↓q_listc, ↓q_append, ↓q_clear, ↓q_index, ↓q_pop, ↓q_slicet, ↓q_revt, ↓q_revl, ↓q_set, ↓q_repr, ↓q_eqo, ↓X_rev, ↓Z_set, ↓q_addt, ↓q_listt, ↓q_ninl, ↓u_tup, ↓u_ref, ↓u_range, ↓q_slice, ↓oi_none, ↓oi_int, ↓X_slice, ↓XO_none, ↓XO_some, ↓u_rev, ↓u_zip, ↓xb_two, ↓u_range2, ↓retV_ret, ↓retV_next, List.getElem?_cons_zero, List.getElem?_cons_succ, List.set_cons_zero, List.set_cons_succ, Bool.not_true, Bool.not_false, idx_0, idx_1, idx_2, idx_3, idx_4, idx_5, Int.reduceAdd, Int.reduceSub, Int.reduceMul, Int.reduceNeg, Int.reducePow, Int.reduceLT, Int.reduceLE, Int.reduceEq, Int.reduceNe, Int.reduceToNat, Int.reduceAbs, Nat.reduceAdd, Nat.reduceLT, Nat.reduceLeDiff, Nat.reducePow, Nat.reduceLT, List.length_cons, List.length_nil, true_implies, false_implies, not_true_eq_false, not_false_eq_true, and_true, true_and, and_self, or_true, true_or, decide_true, decide_false, exists_eq_left', Option.some.injEq, ↓X_strm, ↓sV_str, ↓q_join, ↓q_split, ↓q_strint, ↓q_strstr, ↓q_intstr, ↓q_lenstr, ↓q_slices, ↓q_ins, ↓q_nins, ↓u_str, hl, hl1, sl_1, listAt_new]
  refine comp_nums N2_no (by simp) listAt_new ds [] hs ?_
  rw [List.nil_append]
  refine ⟨by rw [List.length_map]; omega, ?_⟩
  have h1 : listAt (((H ++ [.list [.str u]]) ++ [.list (ds.map fun d => V.str (numS d))]) ++ [.list (ds.map V.int)]) H.length = some [.str u] := listAt_pre pre_new (listAt_pre pre_new listAt_new)
  simp only [q_list, q_tuple, oK_some, h1, listAt_new]
  refine ⟨by simp only [List.length_map, List.length_cons, List.length_nil]; omega, ?_⟩
  exact q _ (pre_new.trans (pre_new.trans (pre_new.trans pre_new)))
theorem pl_week {u : Str} {ws ds : List Int} {i : Nat} {H : Hp} {Q : V → Hp → Prop} {X : XL} (hl : listAt H i = some (.str u :: .str (listS ws) :: ds.map fun d => V.str (numS d))) (hs : ∀ d ∈ ds, small d) (hn : ds.length ≤ 20) (h1 : ws ≠ []) (h2 : ws.length ≤ 20) (h3 : ∀ d ∈ ws, small d)
    (q : ∀ H', H <+: H' → Q (.tup (.str u :: intsV ws :: ds.map V.int)) H') :
    (wp2 N2 (.call (.ty .tuple) [(.bin .Add (.lst [(.sub (.loc 0) (.lit (.int 0))), (.call (.fn "numbers_of") [(.sub (.loc 0) (.lit (.int 1)))])]) (.comp (.call (.fn "number_of") [(.loc 1)]) [1] .val [(.slice (.loc 0) (some (.lit (.int 2))) none)] []))])).E [some (.ref i), none, none, none] H Q X := by
  simp only [↓X_lit, ↓X_loc, ↓X_bin, ↓negX_int, ↓X_neg, ↓X_not, ↓Y_not, ↓X_and, ↓Y_and, ↓X_or, ↓Y_or, ↓X_cmp, ↓X_cmp2, ↓X_ite, ↓Y_ite, ↓X_tup, ↓X_lst, ↓X_call, ↓X_meth, ↓X_sub, ↓X_comp, ↓Y_lit, ↓Y_loc, ↓Y_cmp, ↓Y_cmp2, ↓Y_call, ↓Y_sub, ↓XEs_nil, ↓XEs_cons, ↓XIfs_nil, ↓XIfs_cons, ↓Z_expr, ↓Z_assign, ↓Z_ret, ↓Z_retNone, ↓Z_ite, ↓Z_for, ↓Z_raise, ↓Z_pass, ↓Z_brk, ↓Z_cont, ↓Zs_nil, ↓sqX_next, ↓sqX_brk, ↓sqX_cont, ↓sqX_ret, ↓Zs_cons, ↓wkX_next, ↓wkX_cont, ↓wkX_brk, ↓wkX_ret, ↓fkX_next, ↓fkX_cont, ↓fkX_brk, ↓fkX_ret, ↓xb_one, ↓oKK_some, ↓oK_some, ↓tX_bool, ↓iX_t, ↓iX_f, ↓iX_d, ↓q_add, ↓q_sub, ↓q_mul, ↓q_div, ↓q_mod, ↓q_pow, ↓q_eq, ↓q_ne, ↓q_eqs, ↓q_nes, ↓q_eqb, ↓q_lt, ↓q_le, ↓q_gt, ↓q_ge, ↓q_in, ↓q_inl, ↓q_nin, ↓q_is, ↓q_isnot, ↓q_stup, ↓q_sref, ↓q_sscr, ↓q_fn, ↓q_lentup, ↓q_lenref, ↓q_lenscr, ↓q_isi, ↓q_all, ↓q_max, ↓q_min, ↓q_int, ↓q_tuple, ↓q_listc, ↓q_append, ↓q_clear, ↓q_index, ↓q_pop, ↓q_slicet, ↓q_revt, ↓q_revl, ↓q_set, ↓q_repr, ↓q_eqo, ↓X_rev, ↓Z_set, ↓q_addt, ↓q_listt, ↓q_ninl, ↓u_tup, ↓u_ref, ↓u_range, ↓q_slice, ↓oi_none, ↓oi_int, ↓X_slice, ↓XO_none, ↓XO_some, ↓u_rev, ↓u_zip, ↓xb_two, ↓u_range2, ↓retV_ret, ↓retV_next, List.getElem?_cons_zero, List.getElem?_cons_succ, List.set_cons_zero, List.set_cons_succ, Bool.not_true, Bool.not_false, idx_0, idx_1, idx_2, idx_3, idx_4, idx_5, Int.reduceAdd, Int.reduceSub, Int.reduceMul, Int.reduceNeg, Int.reducePow, Int.reduceLT, Int.reduceLE, Int.reduceEq, Int.reduceNe, Int.reduceToNat, Int.reduceAbs, Nat.reduceAdd, Nat.reduceLT, Nat.reduceLeDiff, Nat.reducePow, Nat.reduceLT, List.length_cons, List.length_nil, true_implies, false_implies, not_true_eq_false, not_false_eq_true, and_true, true_and, and_self, or_true, true_or, decide_true, decide_false, exists_eq_left', Option.some.injEq, ↓X_strm, ↓sV_str, ↓q_join, ↓q_split, ↓q_strint, ↓q_strstr, ↓q_intstr, ↓q_lenstr, ↓q_slices, ↓q_ins, ↓q_nins, ↓u_str, hl, ↓N2_nos]
  refine ⟨ws, rfl, h1, h2, h3, fun H' hp => ?_⟩
  have hl1 := listAt_pre (pre_new (o := .list [.str u, intsV ws])) (listAt_pre hp hl)
  simp only [↓X_lit, ↓X_loc, ↓X_bin, ↓negX_int, ↓X_neg, ↓X_not, ↓Y_not, ↓X_and, ↓Y_and, ↓X_or, ↓Y_or, ↓X_cmp, ↓X_cmp2, ↓X_ite, ↓Y_ite, ↓X_tup, ↓X_lst, ↓X_call, ↓X_meth, ↓X_sub, ↓X_comp, ↓Y_lit, ↓Y_loc, ↓Y_cmp, ↓Y_cmp2, ↓Y_call, ↓Y_sub, ↓XEs_nil, ↓XEs_cons, ↓XIfs_nil, ↓XIfs_cons, ↓Z_expr, ↓Z_assign, ↓Z_ret, ↓Z_retNone, ↓Z_ite, ↓Z_for, ↓Z_raise, ↓Z_pass, ↓Z_brk, ↓Z_cont, ↓Zs_nil, ↓sqX_next, ↓sqX_brk, ↓sqX_cont, ↓sqX_ret, ↓Zs_cons, ↓wkX_next, ↓wkX_cont, ↓wkX_brk, ↓wkX_ret, ↓fkX_next, ↓fkX_cont, ↓fkX_brk, ↓fkX_ret, ↓xb_one, ↓oKK_some, ↓oK_some, ↓tX_bool, ↓iX_t, ↓iX_f, ↓iX_d, ↓q_add, ↓q_sub, ↓q_mul, ↓q_div, ↓q_mod, ↓q_pow, ↓q_eq, ↓q_ne, ↓q_eqs, ↓q_nes, ↓q_eqb, ↓q_lt, ↓q_le, ↓q_gt, ↓q_ge, ↓q_in, ↓q_inl, ↓q_nin, ↓q_is, ↓q_isnot, ↓q_stup, ↓q_sref, ↓q_sscr, ↓q_fn, ↓q_lentup, ↓q_lenref, ↓q_lenscr, ↓q_isi, ↓q_all, ↓q_max, ↓q_min, ↓q_int, ↓q_tuple, ↓q_listc, ↓q_append, ↓q_clear, ↓q_index, ↓q_pop, ↓q_slicet, ↓q_revt, ↓q_revl, ↓q_set, ↓q_repr, ↓q_eqo, ↓X_rev, ↓Z_set, ↓q_addt, ↓q_listt, ↓q_ninl, ↓u_tup, ↓u_ref, ↓u_range, ↓q_slice, ↓oi_none, ↓oi_int, ↓X_slice, ↓XO_none, ↓XO_some, ↓u_rev, ↓u_zip, ↓xb_two, ↓u_range2, ↓retV_ret, ↓retV_next, List.getElem?_cons_zero, List.getElem?_cons_succ, List.set_cons_zero, List.set_cons_succ, Bool.not_true, Bool.not_false, idx_0, idx_1, idx_2, idx_3, idx_4, idx_5, Int.reduceAdd, Int.reduceSub, Int.reduceMul, Int.reduceNeg, Int.reducePow, Int.reduceLT, Int.reduceLE, Int.reduceEq, Int.reduceNe, Int.reduceToNat, Int.reduceAbs, Nat.reduceAdd, Nat.reduceLT, Nat.reduceLeDiff, Nat.reducePow, Nat.reduceLT, List.length_cons, List.length_nil, true_implies, false_implies, not_true_eq_false, not_false_eq_true, and_true, true_and, and_self, or_true, true_or, decide_true, decide_false, exists_eq_left', Option.some.injEq, ↓X_strm, ↓sV_str, ↓q_join, ↓q_split, ↓q_strint, ↓q_strstr, ↓q_intstr, ↓q_lenstr, ↓q_slices, ↓q_ins, ↓q_nins, ↓u_str, hl1, sl_2, listAt_new]
  refine comp_nums N2_no (by simp) listAt_new ds [] hs ?_
  rw [List.nil_append]
  refine ⟨by rw [List.length_map]; omega, ?_⟩
  have h1 : listAt (((H' ++ [.list [.str u, intsV ws]]) ++ [.list (ds.map fun d => V.str (numS d))]) ++ [.list (ds.map V.int)]) H'.length = some [.str u, intsV ws] := listAt_pre pre_new (listAt_pre pre_new listAt_new)
  simp only [q_list, q_tuple, oK_some, h1, listAt_new]
  refine ⟨by simp only [List.length_map, List.length_cons, List.length_nil]; omega, ?_⟩
  exact q _ (hp.trans (pre_new.trans (pre_new.trans (pre_new.trans pre_new))))
theorem cast3 : ((3 : Nat) : Int) = 3 := rfl
theorem cast4 : ((4 : Nat) : Int) = 4 := rfl
noncomputable def C_po : Ctr := fun vs H Q _ => ∃ (r : Rl) (i : Nat), vs = [.ref i] ∧ listAt H i = some (r.words.map V.str) ∧ r.plain = true ∧ r.good ∧ ∀ H', H <+: H' → Q (rv r) H'
theorem iw_list {Φ : Orc} {u w : Str} {rest : List V} {i : Nat} {Lr : Lc} {H : Hp} {a b : List IS} {QF : QS} {XF : XS} {c : Bool} (hl : listAt H i = some (.str u :: rest)) (he : (u == w) = c)
    (h : ifP c (wpSs Φ a (some (.ref i) :: Lr) H QF XF) (wpSs Φ b (some (.ref i) :: Lr) H QF XF)) : wpS Φ (.ite (.cmp (.sub (.loc 0) (.lit (.int 0))) .Eq (.lit (.str w))) a b) (some (.ref i) :: Lr) H QF XF := by
  rw [Z_ite]
  simp only [Y_cmp, X_cmp, X_sub, X_loc, X_lit, List.getElem?_cons_zero, oKK_some, q_sref, hl, oK_some, idx_0, q_eqs, he, tX_bool]
  exact h
theorem iw_notin {Φ : Orc} {u : Str} {rest ws : List V} {i : Nat} {Lr : Lc} {H : Hp} {a b : List IS} {QF : QS} {XF : XS} {c : Bool} (hl : listAt H i = some (.str u :: rest)) (he : memV (.str u) ws = some c)
    (h : ifP (!c) (wpSs Φ a (some (.ref i) :: Lr) H QF XF) (wpSs Φ b (some (.ref i) :: Lr) H QF XF)) : wpS Φ (.ite (.cmp (.sub (.loc 0) (.lit (.int 0))) .NotIn (.lit (.tup ws))) a b) (some (.ref i) :: Lr) H QF XF := by
  rw [Z_ite]
  simp only [Y_cmp, X_cmp, X_sub, X_loc, X_lit, List.getElem?_cons_zero, oKK_some, q_sref, hl, oK_some, idx_0, q_nin, he, tX_bool]
  exact h
theorem po_go {u : Str} {ds : List Int} {i : Nat} {H : Hp} {Q : V → Hp → Prop} {X : XL} (hw : (u == "week") = false) (hl : listAt H i = some (.str u :: ds.map fun d => V.str (numS d))) (hs : ∀ d ∈ ds, small d) (hn : ds.length = 2 ∨ ds.length = 3) (q : ∀ H', H <+: H' → Q (.tup (.str u :: ds.map V.int)) H') :
    wpSs N2 f_plain_of.body [some (.ref i), none, none, none] H (fun fl _ H1 => Q (retV fl) H1) (fun x _ H1 => X x H1) := by
  have e1 : ¬ (((ds.map fun d => V.str (numS d)).length + 1 : Nat) : Int) < 3 := by rw [List.length_map]; omega
  have e2 : ¬ (4 : Int) < (((ds.map fun d => V.str (numS d)).length + 1 : Nat) : Int) := by rw [List.length_map]; omega
  refine zs_cons ?_
  generalize hK : sqX N2 (_ :: _) = K
  simp only [↓X_lit, ↓X_loc, ↓X_bin, ↓negX_int, ↓X_neg, ↓X_not, ↓Y_not, ↓X_and, ↓Y_and, ↓X_or, ↓Y_or, ↓X_cmp, ↓X_cmp2, ↓X_ite, ↓Y_ite, ↓X_tup, ↓X_lst, ↓X_call, ↓X_meth, ↓X_sub, ↓X_comp, ↓Y_lit, ↓Y_loc, ↓Y_cmp, ↓Y_cmp2, ↓Y_call, ↓Y_sub, ↓XEs_nil, ↓XEs_cons, ↓XIfs_nil, ↓XIfs_cons, ↓Z_expr, ↓Z_assign, ↓Z_ret, ↓Z_retNone, ↓Z_ite, ↓Z_for, ↓Z_raise, ↓Z_pass, ↓Z_brk, ↓Z_cont, ↓Zs_nil, ↓sqX_next, ↓sqX_brk, ↓sqX_cont, ↓sqX_ret, ↓Zs_cons, ↓wkX_next, ↓wkX_cont, ↓wkX_brk, ↓wkX_ret, ↓fkX_next, ↓fkX_cont, ↓fkX_brk, ↓fkX_ret, ↓xb_one, ↓oKK_some, ↓oK_some, ↓tX_bool, ↓iX_t, ↓iX_f, ↓iX_d, ↓q_add, ↓q_sub, ↓q_mul, ↓q_div, ↓q_mod, ↓q_pow, ↓q_list, ↓q_eq, ↓q_ne, ↓q_eqs, ↓q_nes, ↓q_eqb, ↓q_lt, ↓q_le, ↓q_gt, ↓q_ge, ↓q_in, ↓q_inl, ↓q_nin, ↓q_is, ↓q_isnot, ↓q_stup, ↓q_sref, ↓q_sscr, ↓q_fn, ↓q_lentup, ↓q_lenref, ↓q_lenscr, ↓q_isi, ↓q_all, ↓q_max, ↓q_min, ↓q_int, ↓q_tuple, ↓q_listc, ↓q_append, ↓q_clear, ↓q_index, ↓q_pop, ↓q_slicet, ↓q_revt, ↓q_revl, ↓q_set, ↓q_repr, ↓q_eqo, ↓X_rev, ↓Z_set, ↓q_addt, ↓q_listt, ↓q_ninl, ↓u_tup, ↓u_ref, ↓u_range, ↓q_slice, ↓oi_none, ↓oi_int, ↓X_slice, ↓XO_none, ↓XO_some, ↓u_rev, ↓u_zip, ↓xb_two, ↓u_range2, ↓retV_ret, ↓retV_next, List.getElem?_cons_zero, List.getElem?_cons_succ, List.set_cons_zero, List.set_cons_succ, Bool.not_true, Bool.not_false, idx_0, idx_1, idx_2, idx_3, idx_4, idx_5, Int.reduceAdd, Int.reduceSub, Int.reduceMul, Int.reduceNeg, Int.reducePow, Int.reduceLT, Int.reduceLE, Int.reduceEq, Int.reduceNe, Int.reduceToNat, Int.reduceAbs, Nat.reduceAdd, Nat.reduceLT, Nat.reduceLeDiff, Nat.reducePow, Nat.reduceLT, List.length_cons, List.length_nil, true_implies, false_implies, not_true_eq_false, not_false_eq_true, and_true, true_and, and_self, or_true, true_or, decide_true, decide_false, exists_eq_left', Option.some.injEq, hl, e1, e2]
  subst hK
  refine zs_cons (iw_list hl hw ?_)
  show sqX N2 _ _ _ .next _ _
  refine zs_cons ?_
  rw [Z_ret]
  exact pl_go hl hs (by omega) q
theorem w_plain_of : ∀ vs H Q X, C_po vs H Q X → wpFn N2 f_plain_of vs H Q X := by
  rintro vs H Q X ⟨r, i, rfl, hl, hp, g, q⟩
  refine fn_of rfl ?_
  change wpSs N2 f_plain_of.body [some (.ref i), none, none, none] H _ _
  cases r with
  | once h s => exact po_go (ds := [h, s]) sw_once_week hl (by simp only [List.forall_mem_cons]; exact ⟨g.1.small, g.2.small, fun _ h => nomatch h⟩) (.inl rfl) q
  | every h s p => exact po_go (ds := [h, s, p]) sw_every_week hl (by simp only [List.forall_mem_cons]; exact ⟨g.1.small, g.2.1.small, by have := g.2.2; unfold small; omega, fun _ h => nomatch h⟩) (.inr rfl) q
  | month d t s => exact po_go (ds := [d, t, s]) sw_month_week hl (by simp only [List.forall_mem_cons]; exact ⟨by have := g.1; unfold small; omega, by have := g.2.1; unfold small; omega, g.2.2.small, fun _ h => nomatch h⟩) (.inr rfl) q
  | week ds t s =>
    refine zs_cons ?_
    generalize hK : sqX N2 (_ :: _) = K
    simp only [↓X_lit, ↓X_loc, ↓X_bin, ↓negX_int, ↓X_neg, ↓X_not, ↓Y_not, ↓X_and, ↓Y_and, ↓X_or, ↓Y_or, ↓X_cmp, ↓X_cmp2, ↓X_ite, ↓Y_ite, ↓X_tup, ↓X_lst, ↓X_call, ↓X_meth, ↓X_sub, ↓X_comp, ↓Y_lit, ↓Y_loc, ↓Y_cmp, ↓Y_cmp2, ↓Y_call, ↓Y_sub, ↓XEs_nil, ↓XEs_cons, ↓XIfs_nil, ↓XIfs_cons, ↓Z_expr, ↓Z_assign, ↓Z_ret, ↓Z_retNone, ↓Z_ite, ↓Z_for, ↓Z_raise, ↓Z_pass, ↓Z_brk, ↓Z_cont, ↓Zs_nil, ↓sqX_next, ↓sqX_brk, ↓sqX_cont, ↓sqX_ret, ↓Zs_cons, ↓wkX_next, ↓wkX_cont, ↓wkX_brk, ↓wkX_ret, ↓fkX_next, ↓fkX_cont, ↓fkX_brk, ↓fkX_ret, ↓xb_one, ↓oKK_some, ↓oK_some, ↓tX_bool, ↓iX_t, ↓iX_f, ↓iX_d, ↓q_add, ↓q_sub, ↓q_mul, ↓q_div, ↓q_mod, ↓q_pow, ↓q_list, ↓q_eq, ↓q_ne, ↓q_eqs, ↓q_nes, ↓q_eqb, ↓q_lt, ↓q_le, ↓q_gt, ↓q_ge, ↓q_in, ↓q_inl, ↓q_nin, ↓q_is, ↓q_isnot, ↓q_stup, ↓q_sref, ↓q_sscr, ↓q_fn, ↓q_lentup, ↓q_lenref, ↓q_lenscr, ↓q_isi, ↓q_all, ↓q_max, ↓q_min, ↓q_int, ↓q_tuple, ↓q_listc, ↓q_append, ↓q_clear, ↓q_index, ↓q_pop, ↓q_slicet, ↓q_revt, ↓q_revl, ↓q_set, ↓q_repr, ↓q_eqo, ↓X_rev, ↓Z_set, ↓q_addt, ↓q_listt, ↓q_ninl, ↓u_tup, ↓u_ref, ↓u_range, ↓q_slice, ↓oi_none, ↓oi_int, ↓X_slice, ↓XO_none, ↓XO_some, ↓u_rev, ↓u_zip, ↓xb_two, ↓u_range2, ↓retV_ret, ↓retV_next, List.getElem?_cons_zero, List.getElem?_cons_succ, List.set_cons_zero, List.set_cons_succ, Bool.not_true, Bool.not_false, idx_0, idx_1, idx_2, idx_3, idx_4, idx_5, Int.reduceAdd, Int.reduceSub, Int.reduceMul, Int.reduceNeg, Int.reducePow, Int.reduceLT, Int.reduceLE, Int.reduceEq, Int.reduceNe, Int.reduceToNat, Int.reduceAbs, Nat.reduceAdd, Nat.reduceLT, Nat.reduceLeDiff, Nat.reducePow, Nat.reduceLT, List.length_cons, List.length_nil, true_implies, false_implies, not_true_eq_false, not_false_eq_true, and_true, true_and, and_self, or_true, true_or, decide_true, decide_false, exists_eq_left', Option.some.injEq, hl, Rl.words, List.map_cons, List.map_nil, cast4]
    subst hK
    refine zs_cons (iw_list hl sw_week_week (zs_cons ?_))
    rw [Z_ret]
    exact pl_week (ds := [t, s]) hl (by simp only [List.forall_mem_cons]; exact ⟨by have := g.2.1; unfold small; omega, g.2.2.small, fun _ h => nomatch h⟩) (by simp) g.1.1 (Nat.le_trans g.1.2.1 (by decide)) (g.1.small (by decide)) q
  | frm h r => cases hp
  | til h r => cases hp
  | als h r => cases hp
  | but ds r => cases hp
noncomputable def N3 : Orc := ext "plain_of" C_po N2
theorem N3_po : N3 "plain_of" = C_po := rfl

noncomputable def C_ro (n : Nat) : Ctr := fun vs H Q _ => ∃ (r : Rl) (i : Nat) (k : Int), vs = [.ref i, .int k] ∧ listAt H i = some (r.words.map V.str) ∧ r.good ∧ r.depth ≤ n ∧ (r.depth : Int) < k ∧ ∀ H', H <+: H' → Q (rv r) H'
noncomputable def RO : Nat → Orc
  | 0 => N3
  | n + 1 => ext "rule_of" (C_ro n) (RO n)
theorem RO_ro {n : Nat} : RO (n + 1) "rule_of" = C_ro n := rfl
theorem ro_other {x : Str} (h : (x == Str.ofString "rule_of") = false) : ∀ n, RO n x = N3 x
  | 0 => rfl
  | n + 1 => by
    show ext "rule_of" (C_ro n) (RO n) x = _
    unfold ext
    funext vs H Q X
    rw [if_neg (by rw [h]; decide), ro_other h n]
theorem RO_po (n : Nat) : RO n "plain_of" = C_po := ro_other (by decide) n
theorem RO_no (n : Nat) : RO n "number_of" = C_no := ro_other (by decide) n
theorem RO_nos (n : Nat) : RO n "numbers_of" = C_nos := ro_other (by decide) n
theorem ro_first {n : Nat} {i : Nat} {k : Int} {v : V} {l : List V} {H : Hp} {Q : V → Hp → Prop} {X : XL} (hl : listAt H i = some (v :: l)) (hk : 0 < k)
    (h : wpSs (RO n) (f_rule_of.body.drop 1) [some (.ref i), some (.int k), none, none, none, none] H (fun fl _ H1 => Q (retV fl) H1) (fun x _ H1 => X x H1)) :
    wpSs (RO n) f_rule_of.body [some (.ref i), some (.int k), none, none, none, none] H (fun fl _ H1 => Q (retV fl) H1) (fun x _ H1 => X x H1) := by
  refine zs_cons ?_
  generalize hK : sqX (RO n) (_ :: _) = K
  have e1 : ¬ ((l.length + 1 : Nat) : Int) = 0 := by omega
  have e2 : ¬ k = 0 := by omega
  simp only [↓X_lit, ↓X_loc, ↓X_bin, ↓negX_int, ↓X_neg, ↓X_not, ↓Y_not, ↓X_and, ↓Y_and, ↓X_or, ↓Y_or, ↓X_cmp, ↓X_cmp2, ↓X_ite, ↓Y_ite, ↓X_tup, ↓X_lst, ↓X_call, ↓X_meth, ↓X_sub, ↓X_comp, ↓Y_lit, ↓Y_loc, ↓Y_cmp, ↓Y_cmp2, ↓Y_call, ↓Y_sub, ↓XEs_nil, ↓XEs_cons, ↓XIfs_nil, ↓XIfs_cons, ↓Z_expr, ↓Z_assign, ↓Z_ret, ↓Z_retNone, ↓Z_ite, ↓Z_for, ↓Z_raise, ↓Z_pass, ↓Z_brk, ↓Z_cont, ↓Zs_nil, ↓sqX_next, ↓sqX_brk, ↓sqX_cont, ↓sqX_ret, ↓Zs_cons, ↓wkX_next, ↓wkX_cont, ↓wkX_brk, ↓wkX_ret, ↓fkX_next, ↓fkX_cont, ↓fkX_brk, ↓fkX_ret, ↓xb_one, ↓oKK_some, ↓oK_some, ↓tX_bool, ↓iX_t, ↓iX_f, ↓iX_d, ↓q_add, ↓q_sub, ↓q_mul, ↓q_div, ↓q_mod, ↓q_pow, ↓q_list, ↓q_eq, ↓q_ne, ↓q_eqs, ↓q_nes, ↓q_eqb, ↓q_lt, ↓q_le, ↓q_gt, ↓q_ge, ↓q_in, ↓q_inl, ↓q_nin, ↓q_is, ↓q_isnot, ↓q_stup, ↓q_sref, ↓q_sscr, ↓q_fn, ↓q_lentup, ↓q_lenref, ↓q_lenscr, ↓q_isi, ↓q_all, ↓q_max, ↓q_min, ↓q_int, ↓q_tuple, ↓q_listc, ↓q_append, ↓q_clear, ↓q_index, ↓q_pop, ↓q_slicet, ↓q_revt, ↓q_revl, ↓q_set, ↓q_repr, ↓q_eqo, ↓X_rev, ↓Z_set, ↓q_addt, ↓q_listt, ↓q_ninl, ↓u_tup, ↓u_ref, ↓u_range, ↓q_slice, ↓oi_none, ↓oi_int, ↓X_slice, ↓XO_none, ↓XO_some, ↓u_rev, ↓u_zip, ↓xb_two, ↓u_range2, ↓retV_ret, ↓retV_next, List.getElem?_cons_zero, List.getElem?_cons_succ, List.set_cons_zero, List.set_cons_succ, Bool.not_true, Bool.not_false, idx_0, idx_1, idx_2, idx_3, idx_4, idx_5, Int.reduceAdd, Int.reduceSub, Int.reduceMul, Int.reduceNeg, Int.reducePow, Int.reduceLT, Int.reduceLE, Int.reduceEq, Int.reduceNe, Int.reduceToNat, Int.reduceAbs, Nat.reduceAdd, Nat.reduceLT, Nat.reduceLeDiff, Nat.reducePow, Nat.reduceLT, List.length_cons, List.length_nil, true_implies, false_implies, not_true_eq_false, not_false_eq_true, and_true, true_and, and_self, or_true, true_or, decide_true, decide_false, exists_eq_left', Option.some.injEq, hl, e1, e2]
  subst hK
  exact h
theorem ro_plain {n : Nat} {i : Nat} {k : Int} {u : Str} {l : List V} {H : Hp} {Q : V → Hp → Prop} {X : XL} (hl : listAt H i = some (.str u :: l)) (hk : 0 < k) (hm : memV (.str u) [V.str "from", .str "until", .str "also", .str "but"] = some false)
    (h : C_po [.ref i] H Q X) : wpSs (RO n) f_rule_of.body [some (.ref i), some (.int k), none, none, none, none] H (fun fl _ H1 => Q (retV fl) H1) (fun x _ H1 => X x H1) := by
  refine ro_first hl hk (zs_cons (iw_notin hl hm ?_))
  simp only [↓X_lit, ↓X_loc, ↓X_bin, ↓negX_int, ↓X_neg, ↓X_not, ↓Y_not, ↓X_and, ↓Y_and, ↓X_or, ↓Y_or, ↓X_cmp, ↓X_cmp2, ↓X_ite, ↓Y_ite, ↓X_tup, ↓X_lst, ↓X_call, ↓X_meth, ↓X_sub, ↓X_comp, ↓Y_lit, ↓Y_loc, ↓Y_cmp, ↓Y_cmp2, ↓Y_call, ↓Y_sub, ↓XEs_nil, ↓XEs_cons, ↓XIfs_nil, ↓XIfs_cons, ↓Z_expr, ↓Z_assign, ↓Z_ret, ↓Z_retNone, ↓Z_ite, ↓Z_for, ↓Z_raise, ↓Z_pass, ↓Z_brk, ↓Z_cont, ↓Zs_nil, ↓sqX_next, ↓sqX_brk, ↓sqX_cont, ↓sqX_ret, ↓Zs_cons, ↓wkX_next, ↓wkX_cont, ↓wkX_brk, ↓wkX_ret, ↓fkX_next, ↓fkX_cont, ↓fkX_brk, ↓fkX_ret, ↓xb_one, ↓oKK_some, ↓oK_some, ↓tX_bool, ↓iX_t, ↓iX_f, ↓iX_d, ↓q_add, ↓q_sub, ↓q_mul, ↓q_div, ↓q_mod, ↓q_pow, ↓q_list, ↓q_eq, ↓q_ne, ↓q_eqs, ↓q_nes, ↓q_eqb, ↓q_lt, ↓q_le, ↓q_gt, ↓q_ge, ↓q_in, ↓q_inl, ↓q_nin, ↓q_is, ↓q_isnot, ↓q_stup, ↓q_sref, ↓q_sscr, ↓q_fn, ↓q_lentup, ↓q_lenref, ↓q_lenscr, ↓q_isi, ↓q_all, ↓q_max, ↓q_min, ↓q_int, ↓q_tuple, ↓q_listc, ↓q_append, ↓q_clear, ↓q_index, ↓q_pop, ↓q_slicet, ↓q_revt, ↓q_revl, ↓q_set, ↓q_repr, ↓q_eqo, ↓X_rev, ↓Z_set, ↓q_addt, ↓q_listt, ↓q_ninl, ↓u_tup, ↓u_ref, ↓u_range, ↓q_slice, ↓oi_none, ↓oi_int, ↓X_slice, ↓XO_none, ↓XO_some, ↓u_rev, ↓u_zip, ↓xb_two, ↓u_range2, ↓retV_ret, ↓retV_next, List.getElem?_cons_zero, List.getElem?_cons_succ, List.set_cons_zero, List.set_cons_succ, Bool.not_true, Bool.not_false, idx_0, idx_1, idx_2, idx_3, idx_4, idx_5, Int.reduceAdd, Int.reduceSub, Int.reduceMul, Int.reduceNeg, Int.reducePow, Int.reduceLT, Int.reduceLE, Int.reduceEq, Int.reduceNe, Int.reduceToNat, Int.reduceAbs, Nat.reduceAdd, Nat.reduceLT, Nat.reduceLeDiff, Nat.reducePow, Nat.reduceLT, List.length_cons, List.length_nil, true_implies, false_implies, not_true_eq_false, not_false_eq_true, and_true, true_and, and_self, or_true, true_or, decide_true, decide_false, exists_eq_left', Option.some.injEq, RO_po]
  exact h
theorem ro_head {n : Nat} {i : Nat} {k : Int} {u w : Str} {x : V} {r : Rl} {H : Hp} {Q : V → Hp → Prop} {X : XL} (hl : listAt H i = some (.str u :: .str w :: r.words.map V.str)) (hk : ((r.depth + 1 : Nat) : Int) < k) (hm : memV (.str u) [V.str "from", .str "until", .str "also", .str "but"] = some true)
    (hg : r.good) (hd : r.depth ≤ n) (hx : ((u == "but") = true ∧ ∃ ds, x = intsV ds ∧ w = listS ds ∧ days 20 99999999999 ds) ∨ ((u == "but") = false ∧ ∃ h, x = .int h ∧ w = numS h ∧ small h))
    (q : ∀ H', H <+: H' → Q (.tup [.str u, x, rv r]) H') : wpSs (RO (n + 1)) f_rule_of.body [some (.ref i), some (.int k), none, none, none, none] H (fun fl _ H1 => Q (retV fl) H1) (fun x _ H1 => X x H1) := by
  refine ro_first hl (by omega) (zs_cons (iw_notin hl hm ?_))
  show sqX (RO (n + 1)) _ _ _ .next _ _
  refine zs_cons ?_
  generalize hK : sqX (RO (n + 1)) (_ :: _) = K
  have e1 : ¬ ((((r.words.map V.str).length + 1 + 1 : Nat)) : Int) < 3 := by
    have := List.length_pos_iff.mpr (words_ne r)
    rw [List.length_map]; omega
  simp only [↓X_lit, ↓X_loc, ↓X_bin, ↓negX_int, ↓X_neg, ↓X_not, ↓Y_not, ↓X_and, ↓Y_and, ↓X_or, ↓Y_or, ↓X_cmp, ↓X_cmp2, ↓X_ite, ↓Y_ite, ↓X_tup, ↓X_lst, ↓X_call, ↓X_meth, ↓X_sub, ↓X_comp, ↓Y_lit, ↓Y_loc, ↓Y_cmp, ↓Y_cmp2, ↓Y_call, ↓Y_sub, ↓XEs_nil, ↓XEs_cons, ↓XIfs_nil, ↓XIfs_cons, ↓Z_expr, ↓Z_assign, ↓Z_ret, ↓Z_retNone, ↓Z_ite, ↓Z_for, ↓Z_raise, ↓Z_pass, ↓Z_brk, ↓Z_cont, ↓Zs_nil, ↓sqX_next, ↓sqX_brk, ↓sqX_cont, ↓sqX_ret, ↓Zs_cons, ↓wkX_next, ↓wkX_cont, ↓wkX_brk, ↓wkX_ret, ↓fkX_next, ↓fkX_cont, ↓fkX_brk, ↓fkX_ret, ↓xb_one, ↓oKK_some, ↓oK_some, ↓tX_bool, ↓iX_t, ↓iX_f, ↓iX_d, ↓q_add, ↓q_sub, ↓q_mul, ↓q_div, ↓q_mod, ↓q_pow, ↓q_list, ↓q_eq, ↓q_ne, ↓q_eqs, ↓q_nes, ↓q_eqb, ↓q_lt, ↓q_le, ↓q_gt, ↓q_ge, ↓q_in, ↓q_inl, ↓q_nin, ↓q_is, ↓q_isnot, ↓q_stup, ↓q_sref, ↓q_sscr, ↓q_fn, ↓q_lentup, ↓q_lenref, ↓q_lenscr, ↓q_isi, ↓q_all, ↓q_max, ↓q_min, ↓q_int, ↓q_tuple, ↓q_listc, ↓q_append, ↓q_clear, ↓q_index, ↓q_pop, ↓q_slicet, ↓q_revt, ↓q_revl, ↓q_set, ↓q_repr, ↓q_eqo, ↓X_rev, ↓Z_set, ↓q_addt, ↓q_listt, ↓q_ninl, ↓u_tup, ↓u_ref, ↓u_range, ↓q_slice, ↓oi_none, ↓oi_int, ↓X_slice, ↓XO_none, ↓XO_some, ↓u_rev, ↓u_zip, ↓xb_two, ↓u_range2, ↓retV_ret, ↓retV_next, List.getElem?_cons_zero, List.getElem?_cons_succ, List.set_cons_zero, List.set_cons_succ, Bool.not_true, Bool.not_false, idx_0, idx_1, idx_2, idx_3, idx_4, idx_5, Int.reduceAdd, Int.reduceSub, Int.reduceMul, Int.reduceNeg, Int.reducePow, Int.reduceLT, Int.reduceLE, Int.reduceEq, Int.reduceNe, Int.reduceToNat, Int.reduceAbs, Nat.reduceAdd, Nat.reduceLT, Nat.reduceLeDiff, Nat.reducePow, Nat.reduceLT, List.length_cons, List.length_nil, true_implies, false_implies, not_true_eq_false, not_false_eq_true, and_true, true_and, and_self, or_true, true_or, decide_true, decide_false, exists_eq_left', Option.some.injEq, hl, e1]
  subst hK
  refine zs_cons ?_
  generalize hK : sqX (RO (n + 1)) (_ :: _) = K
  simp only [↓X_lit, ↓X_loc, ↓X_bin, ↓negX_int, ↓X_neg, ↓X_not, ↓Y_not, ↓X_and, ↓Y_and, ↓X_or, ↓Y_or, ↓X_cmp, ↓X_cmp2, ↓X_ite, ↓Y_ite, ↓X_tup, ↓X_lst, ↓X_call, ↓X_meth, ↓X_sub, ↓X_comp, ↓Y_lit, ↓Y_loc, ↓Y_cmp, ↓Y_cmp2, ↓Y_call, ↓Y_sub, ↓XEs_nil, ↓XEs_cons, ↓XIfs_nil, ↓XIfs_cons, ↓Z_expr, ↓Z_assign, ↓Z_ret, ↓Z_retNone, ↓Z_ite, ↓Z_for, ↓Z_raise, ↓Z_pass, ↓Z_brk, ↓Z_cont, ↓Zs_nil, ↓sqX_next, ↓sqX_brk, ↓sqX_cont, ↓sqX_ret, ↓Zs_cons, ↓wkX_next, ↓wkX_cont, ↓wkX_brk, ↓wkX_ret, ↓fkX_next, ↓fkX_cont, ↓fkX_brk, ↓fkX_ret, ↓xb_one, ↓oKK_some, ↓oK_some, ↓tX_bool, ↓iX_t, ↓iX_f, ↓iX_d, ↓q_add, ↓q_sub, ↓q_mul, ↓q_div, ↓q_mod, ↓q_pow, ↓q_list, ↓q_eq, ↓q_ne, ↓q_eqs, ↓q_nes, ↓q_eqb, ↓q_lt, ↓q_le, ↓q_gt, ↓q_ge, ↓q_in, ↓q_inl, ↓q_nin, ↓q_is, ↓q_isnot, ↓q_stup, ↓q_sref, ↓q_sscr, ↓q_fn, ↓q_lentup, ↓q_lenref, ↓q_lenscr, ↓q_isi, ↓q_all, ↓q_max, ↓q_min, ↓q_int, ↓q_tuple, ↓q_listc, ↓q_append, ↓q_clear, ↓q_index, ↓q_pop, ↓q_slicet, ↓q_revt, ↓q_revl, ↓q_set, ↓q_repr, ↓q_eqo, ↓X_rev, ↓Z_set, ↓q_addt, ↓q_listt, ↓q_ninl, ↓u_tup, ↓u_ref, ↓u_range, ↓q_slice, ↓oi_none, ↓oi_int, ↓X_slice, ↓XO_none, ↓XO_some, ↓u_rev, ↓u_zip, ↓xb_two, ↓u_range2, ↓retV_ret, ↓retV_next, List.getElem?_cons_zero, List.getElem?_cons_succ, List.set_cons_zero, List.set_cons_succ, Bool.not_true, Bool.not_false, idx_0, idx_1, idx_2, idx_3, idx_4, idx_5, Int.reduceAdd, Int.reduceSub, Int.reduceMul, Int.reduceNeg, Int.reducePow, Int.reduceLT, Int.reduceLE, Int.reduceEq, Int.reduceNe, Int.reduceToNat, Int.reduceAbs, Nat.reduceAdd, Nat.reduceLT, Nat.reduceLeDiff, Nat.reducePow, Nat.reduceLT, List.length_cons, List.length_nil, true_implies, false_implies, not_true_eq_false, not_false_eq_true, and_true, true_and, and_self, or_true, true_or, decide_true, decide_false, exists_eq_left', Option.some.injEq, hl, sl_2, ↓RO_ro]
  subst hK
  refine ⟨r, _, _, rfl, listAt_new, hg, hd, by omega, fun H' hp => ?_⟩
  have hl' := listAt_pre (pre_new.trans hp) hl
  rcases hx with ⟨hb, ds, rfl, rfl, hds⟩ | ⟨hb, h, rfl, rfl, hh⟩
  · refine zs_cons (iw_list hl' hb (zs_cons ?_))
    simp only [↓X_lit, ↓X_loc, ↓X_bin, ↓negX_int, ↓X_neg, ↓X_not, ↓Y_not, ↓X_and, ↓Y_and, ↓X_or, ↓Y_or, ↓X_cmp, ↓X_cmp2, ↓X_ite, ↓Y_ite, ↓X_tup, ↓X_lst, ↓X_call, ↓X_meth, ↓X_sub, ↓X_comp, ↓Y_lit, ↓Y_loc, ↓Y_cmp, ↓Y_cmp2, ↓Y_call, ↓Y_sub, ↓XEs_nil, ↓XEs_cons, ↓XIfs_nil, ↓XIfs_cons, ↓Z_expr, ↓Z_assign, ↓Z_ret, ↓Z_retNone, ↓Z_ite, ↓Z_for, ↓Z_raise, ↓Z_pass, ↓Z_brk, ↓Z_cont, ↓Zs_nil, ↓sqX_next, ↓sqX_brk, ↓sqX_cont, ↓sqX_ret, ↓Zs_cons, ↓wkX_next, ↓wkX_cont, ↓wkX_brk, ↓wkX_ret, ↓fkX_next, ↓fkX_cont, ↓fkX_brk, ↓fkX_ret, ↓xb_one, ↓oKK_some, ↓oK_some, ↓tX_bool, ↓iX_t, ↓iX_f, ↓iX_d, ↓q_add, ↓q_sub, ↓q_mul, ↓q_div, ↓q_mod, ↓q_pow, ↓q_list, ↓q_eq, ↓q_ne, ↓q_eqs, ↓q_nes, ↓q_eqb, ↓q_lt, ↓q_le, ↓q_gt, ↓q_ge, ↓q_in, ↓q_inl, ↓q_nin, ↓q_is, ↓q_isnot, ↓q_stup, ↓q_sref, ↓q_sscr, ↓q_fn, ↓q_lentup, ↓q_lenref, ↓q_lenscr, ↓q_isi, ↓q_all, ↓q_max, ↓q_min, ↓q_int, ↓q_tuple, ↓q_listc, ↓q_append, ↓q_clear, ↓q_index, ↓q_pop, ↓q_slicet, ↓q_revt, ↓q_revl, ↓q_set, ↓q_repr, ↓q_eqo, ↓X_rev, ↓Z_set, ↓q_addt, ↓q_listt, ↓q_ninl, ↓u_tup, ↓u_ref, ↓u_range, ↓q_slice, ↓oi_none, ↓oi_int, ↓X_slice, ↓XO_none, ↓XO_some, ↓u_rev, ↓u_zip, ↓xb_two, ↓u_range2, ↓retV_ret, ↓retV_next, List.getElem?_cons_zero, List.getElem?_cons_succ, List.set_cons_zero, List.set_cons_succ, Bool.not_true, Bool.not_false, idx_0, idx_1, idx_2, idx_3, idx_4, idx_5, Int.reduceAdd, Int.reduceSub, Int.reduceMul, Int.reduceNeg, Int.reducePow, Int.reduceLT, Int.reduceLE, Int.reduceEq, Int.reduceNe, Int.reduceToNat, Int.reduceAbs, Nat.reduceAdd, Nat.reduceLT, Nat.reduceLeDiff, Nat.reducePow, Nat.reduceLT, List.length_cons, List.length_nil, true_implies, false_implies, not_true_eq_false, not_false_eq_true, and_true, true_and, and_self, or_true, true_or, decide_true, decide_false, exists_eq_left', Option.some.injEq, hl', RO_nos]
    refine ⟨ds, rfl, hds.1, hds.2.1, hds.small (by decide), fun H2 hp2 => ?_⟩
    simp only [↓X_lit, ↓X_loc, ↓X_bin, ↓negX_int, ↓X_neg, ↓X_not, ↓Y_not, ↓X_and, ↓Y_and, ↓X_or, ↓Y_or, ↓X_cmp, ↓X_cmp2, ↓X_ite, ↓Y_ite, ↓X_tup, ↓X_lst, ↓X_call, ↓X_meth, ↓X_sub, ↓X_comp, ↓Y_lit, ↓Y_loc, ↓Y_cmp, ↓Y_cmp2, ↓Y_call, ↓Y_sub, ↓XEs_nil, ↓XEs_cons, ↓XIfs_nil, ↓XIfs_cons, ↓Z_expr, ↓Z_assign, ↓Z_ret, ↓Z_retNone, ↓Z_ite, ↓Z_for, ↓Z_raise, ↓Z_pass, ↓Z_brk, ↓Z_cont, ↓Zs_nil, ↓sqX_next, ↓sqX_brk, ↓sqX_cont, ↓sqX_ret, ↓Zs_cons, ↓wkX_next, ↓wkX_cont, ↓wkX_brk, ↓wkX_ret, ↓fkX_next, ↓fkX_cont, ↓fkX_brk, ↓fkX_ret, ↓xb_one, ↓oKK_some, ↓oK_some, ↓tX_bool, ↓iX_t, ↓iX_f, ↓iX_d, ↓q_add, ↓q_sub, ↓q_mul, ↓q_div, ↓q_mod, ↓q_pow, ↓q_list, ↓q_eq, ↓q_ne, ↓q_eqs, ↓q_nes, ↓q_eqb, ↓q_lt, ↓q_le, ↓q_gt, ↓q_ge, ↓q_in, ↓q_inl, ↓q_nin, ↓q_is, ↓q_isnot, ↓q_stup, ↓q_sref, ↓q_sscr, ↓q_fn, ↓q_lentup, ↓q_lenref, ↓q_lenscr, ↓q_isi, ↓q_all, ↓q_max, ↓q_min, ↓q_int, ↓q_tuple, ↓q_listc, ↓q_append, ↓q_clear, ↓q_index, ↓q_pop, ↓q_slicet, ↓q_revt, ↓q_revl, ↓q_set, ↓q_repr, ↓q_eqo, ↓X_rev, ↓Z_set, ↓q_addt, ↓q_listt, ↓q_ninl, ↓u_tup, ↓u_ref, ↓u_range, ↓q_slice, ↓oi_none, ↓oi_int, ↓X_slice, ↓XO_none, ↓XO_some, ↓u_rev, ↓u_zip, ↓xb_two, ↓u_range2, ↓retV_ret, ↓retV_next, List.getElem?_cons_zero, List.getElem?_cons_succ, List.set_cons_zero, List.set_cons_succ, Bool.not_true, Bool.not_false, idx_0, idx_1, idx_2, idx_3, idx_4, idx_5, Int.reduceAdd, Int.reduceSub, Int.reduceMul, Int.reduceNeg, Int.reducePow, Int.reduceLT, Int.reduceLE, Int.reduceEq, Int.reduceNe, Int.reduceToNat, Int.reduceAbs, Nat.reduceAdd, Nat.reduceLT, Nat.reduceLeDiff, Nat.reducePow, Nat.reduceLT, List.length_cons, List.length_nil, true_implies, false_implies, not_true_eq_false, not_false_eq_true, and_true, true_and, and_self, or_true, true_or, decide_true, decide_false, exists_eq_left', Option.some.injEq]
    exact q _ (pre_new.trans (hp.trans hp2))
  · refine zs_cons (iw_list hl' hb ?_)
    show sqX (RO (n + 1)) _ _ _ .next _ _
    refine zs_cons ?_
    simp only [↓X_lit, ↓X_loc, ↓X_bin, ↓negX_int, ↓X_neg, ↓X_not, ↓Y_not, ↓X_and, ↓Y_and, ↓X_or, ↓Y_or, ↓X_cmp, ↓X_cmp2, ↓X_ite, ↓Y_ite, ↓X_tup, ↓X_lst, ↓X_call, ↓X_meth, ↓X_sub, ↓X_comp, ↓Y_lit, ↓Y_loc, ↓Y_cmp, ↓Y_cmp2, ↓Y_call, ↓Y_sub, ↓XEs_nil, ↓XEs_cons, ↓XIfs_nil, ↓XIfs_cons, ↓Z_expr, ↓Z_assign, ↓Z_ret, ↓Z_retNone, ↓Z_ite, ↓Z_for, ↓Z_raise, ↓Z_pass, ↓Z_brk, ↓Z_cont, ↓Zs_nil, ↓sqX_next, ↓sqX_brk, ↓sqX_cont, ↓sqX_ret, ↓Zs_cons, ↓wkX_next, ↓wkX_cont, ↓wkX_brk, ↓wkX_ret, ↓fkX_next, ↓fkX_cont, ↓fkX_brk, ↓fkX_ret, ↓xb_one, ↓oKK_some, ↓oK_some, ↓tX_bool, ↓iX_t, ↓iX_f, ↓iX_d, ↓q_add, ↓q_sub, ↓q_mul, ↓q_div, ↓q_mod, ↓q_pow, ↓q_list, ↓q_eq, ↓q_ne, ↓q_eqs, ↓q_nes, ↓q_eqb, ↓q_lt, ↓q_le, ↓q_gt, ↓q_ge, ↓q_in, ↓q_inl, ↓q_nin, ↓q_is, ↓q_isnot, ↓q_stup, ↓q_sref, ↓q_sscr, ↓q_fn, ↓q_lentup, ↓q_lenref, ↓q_lenscr, ↓q_isi, ↓q_all, ↓q_max, ↓q_min, ↓q_int, ↓q_tuple, ↓q_listc, ↓q_append, ↓q_clear, ↓q_index, ↓q_pop, ↓q_slicet, ↓q_revt, ↓q_revl, ↓q_set, ↓q_repr, ↓q_eqo, ↓X_rev, ↓Z_set, ↓q_addt, ↓q_listt, ↓q_ninl, ↓u_tup, ↓u_ref, ↓u_range, ↓q_slice, ↓oi_none, ↓oi_int, ↓X_slice, ↓XO_none, ↓XO_some, ↓u_rev, ↓u_zip, ↓xb_two, ↓u_range2, ↓retV_ret, ↓retV_next, List.getElem?_cons_zero, List.getElem?_cons_succ, List.set_cons_zero, List.set_cons_succ, Bool.not_true, Bool.not_false, idx_0, idx_1, idx_2, idx_3, idx_4, idx_5, Int.reduceAdd, Int.reduceSub, Int.reduceMul, Int.reduceNeg, Int.reducePow, Int.reduceLT, Int.reduceLE, Int.reduceEq, Int.reduceNe, Int.reduceToNat, Int.reduceAbs, Nat.reduceAdd, Nat.reduceLT, Nat.reduceLeDiff, Nat.reducePow, Nat.reduceLT, List.length_cons, List.length_nil, true_implies, false_implies, not_true_eq_false, not_false_eq_true, and_true, true_and, and_self, or_true, true_or, decide_true, decide_false, exists_eq_left', Option.some.injEq, hl', RO_no]
    refine ⟨h, rfl, hh, ?_⟩
    simp only [↓X_lit, ↓X_loc, ↓X_bin, ↓negX_int, ↓X_neg, ↓X_not, ↓Y_not, ↓X_and, ↓Y_and, ↓X_or, ↓Y_or, ↓X_cmp, ↓X_cmp2, ↓X_ite, ↓Y_ite, ↓X_tup, ↓X_lst, ↓X_call, ↓X_meth, ↓X_sub, ↓X_comp, ↓Y_lit, ↓Y_loc, ↓Y_cmp, ↓Y_cmp2, ↓Y_call, ↓Y_sub, ↓XEs_nil, ↓XEs_cons, ↓XIfs_nil, ↓XIfs_cons, ↓Z_expr, ↓Z_assign, ↓Z_ret, ↓Z_retNone, ↓Z_ite, ↓Z_for, ↓Z_raise, ↓Z_pass, ↓Z_brk, ↓Z_cont, ↓Zs_nil, ↓sqX_next, ↓sqX_brk, ↓sqX_cont, ↓sqX_ret, ↓Zs_cons, ↓wkX_next, ↓wkX_cont, ↓wkX_brk, ↓wkX_ret, ↓fkX_next, ↓fkX_cont, ↓fkX_brk, ↓fkX_ret, ↓xb_one, ↓oKK_some, ↓oK_some, ↓tX_bool, ↓iX_t, ↓iX_f, ↓iX_d, ↓q_add, ↓q_sub, ↓q_mul, ↓q_div, ↓q_mod, ↓q_pow, ↓q_list, ↓q_eq, ↓q_ne, ↓q_eqs, ↓q_nes, ↓q_eqb, ↓q_lt, ↓q_le, ↓q_gt, ↓q_ge, ↓q_in, ↓q_inl, ↓q_nin, ↓q_is, ↓q_isnot, ↓q_stup, ↓q_sref, ↓q_sscr, ↓q_fn, ↓q_lentup, ↓q_lenref, ↓q_lenscr, ↓q_isi, ↓q_all, ↓q_max, ↓q_min, ↓q_int, ↓q_tuple, ↓q_listc, ↓q_append, ↓q_clear, ↓q_index, ↓q_pop, ↓q_slicet, ↓q_revt, ↓q_revl, ↓q_set, ↓q_repr, ↓q_eqo, ↓X_rev, ↓Z_set, ↓q_addt, ↓q_listt, ↓q_ninl, ↓u_tup, ↓u_ref, ↓u_range, ↓q_slice, ↓oi_none, ↓oi_int, ↓X_slice, ↓XO_none, ↓XO_some, ↓u_rev, ↓u_zip, ↓xb_two, ↓u_range2, ↓retV_ret, ↓retV_next, List.getElem?_cons_zero, List.getElem?_cons_succ, List.set_cons_zero, List.set_cons_succ, Bool.not_true, Bool.not_false, idx_0, idx_1, idx_2, idx_3, idx_4, idx_5, Int.reduceAdd, Int.reduceSub, Int.reduceMul, Int.reduceNeg, Int.reducePow, Int.reduceLT, Int.reduceLE, Int.reduceEq, Int.reduceNe, Int.reduceToNat, Int.reduceAbs, Nat.reduceAdd, Nat.reduceLT, Nat.reduceLeDiff, Nat.reducePow, Nat.reduceLT, List.length_cons, List.length_nil, true_implies, false_implies, not_true_eq_false, not_false_eq_true, and_true, true_and, and_self, or_true, true_or, decide_true, decide_false, exists_eq_left', Option.some.injEq]
    exact q _ (pre_new.trans hp)
theorem w_rule_of (n : Nat) : ∀ vs H Q X, C_ro n vs H Q X → wpFn (RO n) f_rule_of vs H Q X := by
  rintro vs H Q X ⟨r, i, k, rfl, hl, g, hd, hk, q⟩
  refine fn_of rfl ?_
  change wpSs (RO n) f_rule_of.body [some (.ref i), some (.int k), none, none, none, none] H _ _
  have hk0 : 0 < k := by omega
  cases r with
  | once h s => exact ro_plain hl hk0 mo_once ⟨_, _, rfl, hl, rfl, g, q⟩
  | every h s p => exact ro_plain hl hk0 mo_every ⟨_, _, rfl, hl, rfl, g, q⟩
  | week ds t s => exact ro_plain hl hk0 mo_week ⟨_, _, rfl, hl, rfl, g, q⟩
  | month d t s => exact ro_plain hl hk0 mo_month ⟨_, _, rfl, hl, rfl, g, q⟩
  | frm h r => cases n with | zero => cases hd | succ n => exact ro_head hl hk mo_frm g.2 (Nat.le_of_succ_le_succ hd) (.inr ⟨sw_from_but, h, rfl, rfl, g.1.small⟩) q
  | til h r => cases n with | zero => cases hd | succ n => exact ro_head hl hk mo_til g.2 (Nat.le_of_succ_le_succ hd) (.inr ⟨sw_until_but, h, rfl, rfl, g.1.small⟩) q
  | als h r => cases n with | zero => cases hd | succ n => exact ro_head hl hk mo_als g.2 (Nat.le_of_succ_le_succ hd) (.inr ⟨sw_also_but, h, rfl, rfl, g.1.small⟩) q
  | but ds r => cases n with | zero => cases hd | succ n => exact ro_head hl hk mo_but g.2 (Nat.le_of_succ_le_succ hd) (.inl ⟨sw_but_but, ds, rfl, rfl, g.1⟩) q
noncomputable def N4 : Orc := RO 8
theorem N4_ro : N4 "rule_of" = C_ro 7 := rfl
theorem N4_sh : N4 "shown" = C_sh 8 := rfl
theorem N4_ir : N4 "is_rule" = C_ir := rfl
noncomputable def C_rd : Ctr := fun vs H Q _ => ∃ r : Rl, vs = [.str r.text] ∧ r.good ∧ r.depth ≤ 7 ∧ ∀ H', H <+: H' → Q (rv r) H'
theorem w_read : ∀ vs H Q X, C_rd vs H Q X → wpFn N4 f_read vs H Q X := by
  rintro vs H Q X ⟨r, rfl, g, hd, q⟩
  refine fn_of rfl ?_
  change wpSs N4 f_read.body [some (.str r.text), none, none, none, none] H _ _
  have e1 : ((Str.ofString " ").length == 0) = false := by decide
  have e2 : r.text.length ≤ 1000000 := Nat.le_trans (text_len g (by omega)) (by decide)
  refine zs_cons ?_
  generalize hK : sqX N4 (_ :: _) = K
  simp only [↓X_lit, ↓X_loc, ↓X_bin, ↓negX_int, ↓X_neg, ↓X_not, ↓Y_not, ↓X_and, ↓Y_and, ↓X_or, ↓Y_or, ↓X_cmp, ↓X_cmp2, ↓X_ite, ↓Y_ite, ↓X_tup, ↓X_lst, ↓X_call, ↓X_meth, ↓X_sub, ↓X_comp, ↓Y_lit, ↓Y_loc, ↓Y_cmp, ↓Y_cmp2, ↓Y_call, ↓Y_sub, ↓XEs_nil, ↓XEs_cons, ↓XIfs_nil, ↓XIfs_cons, ↓Z_expr, ↓Z_assign, ↓Z_ret, ↓Z_retNone, ↓Z_ite, ↓Z_for, ↓Z_raise, ↓Z_pass, ↓Z_brk, ↓Z_cont, ↓Zs_nil, ↓sqX_next, ↓sqX_brk, ↓sqX_cont, ↓sqX_ret, ↓Zs_cons, ↓wkX_next, ↓wkX_cont, ↓wkX_brk, ↓wkX_ret, ↓fkX_next, ↓fkX_cont, ↓fkX_brk, ↓fkX_ret, ↓xb_one, ↓oKK_some, ↓oK_some, ↓tX_bool, ↓iX_t, ↓iX_f, ↓iX_d, ↓q_add, ↓q_sub, ↓q_mul, ↓q_div, ↓q_mod, ↓q_pow, ↓q_list, ↓q_eq, ↓q_ne, ↓q_eqs, ↓q_nes, ↓q_eqb, ↓q_lt, ↓q_le, ↓q_gt, ↓q_ge, ↓q_in, ↓q_inl, ↓q_nin, ↓q_is, ↓q_isnot, ↓q_stup, ↓q_sref, ↓q_sscr, ↓q_fn, ↓q_lentup, ↓q_lenref, ↓q_lenscr, ↓q_isi, ↓q_all, ↓q_max, ↓q_min, ↓q_int, ↓q_tuple, ↓q_listc, ↓q_append, ↓q_clear, ↓q_index, ↓q_pop, ↓q_slicet, ↓q_revt, ↓q_revl, ↓q_set, ↓q_repr, ↓q_eqo, ↓X_rev, ↓Z_set, ↓q_addt, ↓q_listt, ↓q_ninl, ↓u_tup, ↓u_ref, ↓u_range, ↓q_slice, ↓oi_none, ↓oi_int, ↓X_slice, ↓XO_none, ↓XO_some, ↓u_rev, ↓u_zip, ↓xb_two, ↓u_range2, ↓retV_ret, ↓retV_next, List.getElem?_cons_zero, List.getElem?_cons_succ, List.set_cons_zero, List.set_cons_succ, Bool.not_true, Bool.not_false, idx_0, idx_1, idx_2, idx_3, idx_4, idx_5, Int.reduceAdd, Int.reduceSub, Int.reduceMul, Int.reduceNeg, Int.reducePow, Int.reduceLT, Int.reduceLE, Int.reduceEq, Int.reduceNe, Int.reduceToNat, Int.reduceAbs, Nat.reduceAdd, Nat.reduceLT, Nat.reduceLeDiff, Nat.reducePow, Nat.reduceLT, List.length_cons, List.length_nil, true_implies, false_implies, not_true_eq_false, not_false_eq_true, and_true, true_and, and_self, or_true, true_or, decide_true, decide_false, exists_eq_left', Option.some.injEq, ↓X_strm, ↓sV_str, ↓q_join, ↓q_split, ↓q_strint, ↓q_strstr, ↓q_intstr, ↓q_lenstr, ↓q_slices, ↓q_ins, ↓q_nins, ↓u_str, e1, e2, split_text g, ↓N4_ro]
  subst hK
  refine ⟨r, _, _, rfl, listAt_new, g, hd, by omega, fun H' hp => zs_cons ?_⟩
  generalize hK : sqX N4 (_ :: _) = K
  simp only [↓X_lit, ↓X_loc, ↓X_bin, ↓negX_int, ↓X_neg, ↓X_not, ↓Y_not, ↓X_and, ↓Y_and, ↓X_or, ↓Y_or, ↓X_cmp, ↓X_cmp2, ↓X_ite, ↓Y_ite, ↓X_tup, ↓X_lst, ↓X_call, ↓X_meth, ↓X_sub, ↓X_comp, ↓Y_lit, ↓Y_loc, ↓Y_cmp, ↓Y_cmp2, ↓Y_call, ↓Y_sub, ↓XEs_nil, ↓XEs_cons, ↓XIfs_nil, ↓XIfs_cons, ↓Z_expr, ↓Z_assign, ↓Z_ret, ↓Z_retNone, ↓Z_ite, ↓Z_for, ↓Z_raise, ↓Z_pass, ↓Z_brk, ↓Z_cont, ↓Zs_nil, ↓sqX_next, ↓sqX_brk, ↓sqX_cont, ↓sqX_ret, ↓Zs_cons, ↓wkX_next, ↓wkX_cont, ↓wkX_brk, ↓wkX_ret, ↓fkX_next, ↓fkX_cont, ↓fkX_brk, ↓fkX_ret, ↓xb_one, ↓oKK_some, ↓oK_some, ↓tX_bool, ↓iX_t, ↓iX_f, ↓iX_d, ↓q_add, ↓q_sub, ↓q_mul, ↓q_div, ↓q_mod, ↓q_pow, ↓q_list, ↓q_eq, ↓q_ne, ↓q_eqs, ↓q_nes, ↓q_eqb, ↓q_lt, ↓q_le, ↓q_gt, ↓q_ge, ↓q_in, ↓q_inl, ↓q_nin, ↓q_is, ↓q_isnot, ↓q_stup, ↓q_sref, ↓q_sscr, ↓q_fn, ↓q_lentup, ↓q_lenref, ↓q_lenscr, ↓q_isi, ↓q_all, ↓q_max, ↓q_min, ↓q_int, ↓q_tuple, ↓q_listc, ↓q_append, ↓q_clear, ↓q_index, ↓q_pop, ↓q_slicet, ↓q_revt, ↓q_revl, ↓q_set, ↓q_repr, ↓q_eqo, ↓X_rev, ↓Z_set, ↓q_addt, ↓q_listt, ↓q_ninl, ↓u_tup, ↓u_ref, ↓u_range, ↓q_slice, ↓oi_none, ↓oi_int, ↓X_slice, ↓XO_none, ↓XO_some, ↓u_rev, ↓u_zip, ↓xb_two, ↓u_range2, ↓retV_ret, ↓retV_next, List.getElem?_cons_zero, List.getElem?_cons_succ, List.set_cons_zero, List.set_cons_succ, Bool.not_true, Bool.not_false, idx_0, idx_1, idx_2, idx_3, idx_4, idx_5, Int.reduceAdd, Int.reduceSub, Int.reduceMul, Int.reduceNeg, Int.reducePow, Int.reduceLT, Int.reduceLE, Int.reduceEq, Int.reduceNe, Int.reduceToNat, Int.reduceAbs, Nat.reduceAdd, Nat.reduceLT, Nat.reduceLeDiff, Nat.reducePow, Nat.reduceLT, List.length_cons, List.length_nil, true_implies, false_implies, not_true_eq_false, not_false_eq_true, and_true, true_and, and_self, or_true, true_or, decide_true, decide_false, exists_eq_left', Option.some.injEq, ↓X_strm, ↓sV_str, ↓q_join, ↓q_split, ↓q_strint, ↓q_strstr, ↓q_intstr, ↓q_lenstr, ↓q_slices, ↓q_ins, ↓q_nins, ↓u_str, ↓N4_ir, ↓N4_sh]
  refine ⟨r, rfl, hd, g, ?_⟩
  simp only [↓X_lit, ↓X_loc, ↓X_bin, ↓negX_int, ↓X_neg, ↓X_not, ↓Y_not, ↓X_and, ↓Y_and, ↓X_or, ↓Y_or, ↓X_cmp, ↓X_cmp2, ↓X_ite, ↓Y_ite, ↓X_tup, ↓X_lst, ↓X_call, ↓X_meth, ↓X_sub, ↓X_comp, ↓Y_lit, ↓Y_loc, ↓Y_cmp, ↓Y_cmp2, ↓Y_call, ↓Y_sub, ↓XEs_nil, ↓XEs_cons, ↓XIfs_nil, ↓XIfs_cons, ↓Z_expr, ↓Z_assign, ↓Z_ret, ↓Z_retNone, ↓Z_ite, ↓Z_for, ↓Z_raise, ↓Z_pass, ↓Z_brk, ↓Z_cont, ↓Zs_nil, ↓sqX_next, ↓sqX_brk, ↓sqX_cont, ↓sqX_ret, ↓Zs_cons, ↓wkX_next, ↓wkX_cont, ↓wkX_brk, ↓wkX_ret, ↓fkX_next, ↓fkX_cont, ↓fkX_brk, ↓fkX_ret, ↓xb_one, ↓oKK_some, ↓oK_some, ↓tX_bool, ↓iX_t, ↓iX_f, ↓iX_d, ↓q_add, ↓q_sub, ↓q_mul, ↓q_div, ↓q_mod, ↓q_pow, ↓q_list, ↓q_eq, ↓q_ne, ↓q_eqs, ↓q_nes, ↓q_eqb, ↓q_lt, ↓q_le, ↓q_gt, ↓q_ge, ↓q_in, ↓q_inl, ↓q_nin, ↓q_is, ↓q_isnot, ↓q_stup, ↓q_sref, ↓q_sscr, ↓q_fn, ↓q_lentup, ↓q_lenref, ↓q_lenscr, ↓q_isi, ↓q_all, ↓q_max, ↓q_min, ↓q_int, ↓q_tuple, ↓q_listc, ↓q_append, ↓q_clear, ↓q_index, ↓q_pop, ↓q_slicet, ↓q_revt, ↓q_revl, ↓q_set, ↓q_repr, ↓q_eqo, ↓X_rev, ↓Z_set, ↓q_addt, ↓q_listt, ↓q_ninl, ↓u_tup, ↓u_ref, ↓u_range, ↓q_slice, ↓oi_none, ↓oi_int, ↓X_slice, ↓XO_none, ↓XO_some, ↓u_rev, ↓u_zip, ↓xb_two, ↓u_range2, ↓retV_ret, ↓retV_next, List.getElem?_cons_zero, List.getElem?_cons_succ, List.set_cons_zero, List.set_cons_succ, Bool.not_true, Bool.not_false, idx_0, idx_1, idx_2, idx_3, idx_4, idx_5, Int.reduceAdd, Int.reduceSub, Int.reduceMul, Int.reduceNeg, Int.reducePow, Int.reduceLT, Int.reduceLE, Int.reduceEq, Int.reduceNe, Int.reduceToNat, Int.reduceAbs, Nat.reduceAdd, Nat.reduceLT, Nat.reduceLeDiff, Nat.reducePow, Nat.reduceLT, List.length_cons, List.length_nil, true_implies, false_implies, not_true_eq_false, not_false_eq_true, and_true, true_and, and_self, or_true, true_or, decide_true, decide_false, exists_eq_left', Option.some.injEq, ↓X_strm, ↓sV_str, ↓q_join, ↓q_split, ↓q_strint, ↓q_strstr, ↓q_intstr, ↓q_lenstr, ↓q_slices, ↓q_ins, ↓q_nins, ↓u_str, ↓N4_ir, ↓N4_sh]
  refine ⟨r, rfl, g, by omega, by omega, fun H2 hp2 => ?_⟩
  have e3 : (r.text == r.text) = true := beq_self_eq_true _
  simp only [↓X_lit, ↓X_loc, ↓X_bin, ↓negX_int, ↓X_neg, ↓X_not, ↓Y_not, ↓X_and, ↓Y_and, ↓X_or, ↓Y_or, ↓X_cmp, ↓X_cmp2, ↓X_ite, ↓Y_ite, ↓X_tup, ↓X_lst, ↓X_call, ↓X_meth, ↓X_sub, ↓X_comp, ↓Y_lit, ↓Y_loc, ↓Y_cmp, ↓Y_cmp2, ↓Y_call, ↓Y_sub, ↓XEs_nil, ↓XEs_cons, ↓XIfs_nil, ↓XIfs_cons, ↓Z_expr, ↓Z_assign, ↓Z_ret, ↓Z_retNone, ↓Z_ite, ↓Z_for, ↓Z_raise, ↓Z_pass, ↓Z_brk, ↓Z_cont, ↓Zs_nil, ↓sqX_next, ↓sqX_brk, ↓sqX_cont, ↓sqX_ret, ↓Zs_cons, ↓wkX_next, ↓wkX_cont, ↓wkX_brk, ↓wkX_ret, ↓fkX_next, ↓fkX_cont, ↓fkX_brk, ↓fkX_ret, ↓xb_one, ↓oKK_some, ↓oK_some, ↓tX_bool, ↓iX_t, ↓iX_f, ↓iX_d, ↓q_add, ↓q_sub, ↓q_mul, ↓q_div, ↓q_mod, ↓q_pow, ↓q_list, ↓q_eq, ↓q_ne, ↓q_eqs, ↓q_nes, ↓q_eqb, ↓q_lt, ↓q_le, ↓q_gt, ↓q_ge, ↓q_in, ↓q_inl, ↓q_nin, ↓q_is, ↓q_isnot, ↓q_stup, ↓q_sref, ↓q_sscr, ↓q_fn, ↓q_lentup, ↓q_lenref, ↓q_lenscr, ↓q_isi, ↓q_all, ↓q_max, ↓q_min, ↓q_int, ↓q_tuple, ↓q_listc, ↓q_append, ↓q_clear, ↓q_index, ↓q_pop, ↓q_slicet, ↓q_revt, ↓q_revl, ↓q_set, ↓q_repr, ↓q_eqo, ↓X_rev, ↓Z_set, ↓q_addt, ↓q_listt, ↓q_ninl, ↓u_tup, ↓u_ref, ↓u_range, ↓q_slice, ↓oi_none, ↓oi_int, ↓X_slice, ↓XO_none, ↓XO_some, ↓u_rev, ↓u_zip, ↓xb_two, ↓u_range2, ↓retV_ret, ↓retV_next, List.getElem?_cons_zero, List.getElem?_cons_succ, List.set_cons_zero, List.set_cons_succ, Bool.not_true, Bool.not_false, idx_0, idx_1, idx_2, idx_3, idx_4, idx_5, Int.reduceAdd, Int.reduceSub, Int.reduceMul, Int.reduceNeg, Int.reducePow, Int.reduceLT, Int.reduceLE, Int.reduceEq, Int.reduceNe, Int.reduceToNat, Int.reduceAbs, Nat.reduceAdd, Nat.reduceLT, Nat.reduceLeDiff, Nat.reducePow, Nat.reduceLT, List.length_cons, List.length_nil, true_implies, false_implies, not_true_eq_false, not_false_eq_true, and_true, true_and, and_self, or_true, true_or, decide_true, decide_false, exists_eq_left', Option.some.injEq, ↓X_strm, ↓sV_str, ↓q_join, ↓q_split, ↓q_strint, ↓q_strstr, ↓q_intstr, ↓q_lenstr, ↓q_slices, ↓q_ins, ↓q_nins, ↓u_str, e3]
  subst hK
  exact q H2 (pre_new.trans (hp.trans hp2))
noncomputable def N5 : Orc := ext "read" C_rd N4
end Mine

set_option autoImplicit false
set_option linter.unusedSimpArgs false
set_option maxRecDepth 20000
/- Law 06: what the law builds. -/
namespace Mine
open PySem

noncomputable def cell (ns : List Int) (k : Int) : Int := ns.getD k.toNat 0
noncomputable def C_cell_at : Ctr := fun vs H Q _ => ∃ ns k, vs = [.scr ns, .int k] ∧ 0 ≤ k ∧ Q (.int (cell ns k)) H
theorem cc_cell {ns : List Int} {k : Int} {H : Hp} {Q : V → Hp → Prop} {X : XL} : C_cell_at [.scr ns, .int k] H Q X = (0 ≤ k ∧ Q (.int (cell ns k)) H) := by
  refine propext ⟨?_, fun ⟨a, b⟩ => ⟨ns, k, rfl, a, b⟩⟩
  rintro ⟨ns', k', e, a, b⟩
  cases e
  exact ⟨a, b⟩
theorem w_cell_at : ∀ vs H Q X, C_cell_at vs H Q X → wpFn N5 f_l_cell_at vs H Q X := by
  rintro vs H Q X ⟨ns, k, rfl, h0, q⟩
  refine fn_of rfl ?_
  simp only [f_l_cell_at, initL, List.map_cons, List.map_nil, List.replicate, List.cons_append, List.nil_append, ↓X_lit, ↓X_loc, ↓X_bin, ↓negX_int, ↓X_neg, ↓X_not, ↓Y_not, ↓X_and, ↓Y_and, ↓X_or, ↓Y_or, ↓X_cmp, ↓X_cmp2, ↓X_ite, ↓Y_ite, ↓X_tup, ↓X_lst, ↓X_call, ↓X_meth, ↓X_sub, ↓X_comp, ↓Y_lit, ↓Y_loc, ↓Y_cmp, ↓Y_cmp2, ↓Y_call, ↓Y_sub, ↓XEs_nil, ↓XEs_cons, ↓XIfs_nil, ↓XIfs_cons, ↓Z_expr, ↓Z_assign, ↓Z_ret, ↓Z_retNone, ↓Z_ite, ↓Z_for, ↓Z_raise, ↓Z_pass, ↓Z_brk, ↓Z_cont, ↓Zs_nil, ↓sqX_next, ↓sqX_brk, ↓sqX_cont, ↓sqX_ret, ↓Zs_cons, ↓wkX_next, ↓wkX_cont, ↓wkX_brk, ↓wkX_ret, ↓fkX_next, ↓fkX_cont, ↓fkX_brk, ↓fkX_ret, ↓xb_one, ↓oKK_some, ↓oK_some, ↓tX_bool, ↓iX_t, ↓iX_f, ↓iX_d, ↓q_add, ↓q_sub, ↓q_mul, ↓q_div, ↓q_mod, ↓q_pow, ↓q_list, ↓q_eq, ↓q_ne, ↓q_eqs, ↓q_nes, ↓q_eqb, ↓q_lt, ↓q_le, ↓q_gt, ↓q_ge, ↓q_in, ↓q_inl, ↓q_nin, ↓q_is, ↓q_isnot, ↓q_stup, ↓q_sref, ↓q_sscr, ↓q_fn, ↓q_lentup, ↓q_lenref, ↓q_lenscr, ↓q_isi, ↓q_all, ↓q_max, ↓q_min, ↓q_int, ↓q_tuple, ↓q_listc, ↓q_append, ↓q_clear, ↓q_index, ↓q_pop, ↓q_slicet, ↓q_revt, ↓q_revl, ↓q_set, ↓q_repr, ↓q_eqo, ↓X_rev, ↓Z_set, ↓q_addt, ↓q_listt, ↓q_ninl, ↓u_tup, ↓u_ref, ↓u_range, ↓q_slice, ↓oi_none, ↓oi_int, ↓X_slice, ↓XO_none, ↓XO_some, ↓u_rev, ↓u_zip, ↓xb_two, ↓u_range2, ↓retV_ret, ↓retV_next, List.getElem?_cons_zero, List.getElem?_cons_succ, List.set_cons_zero, List.set_cons_succ, Bool.not_true, Bool.not_false, idx_0, idx_1, idx_2, idx_3, idx_4, idx_5, Int.reduceAdd, Int.reduceSub, Int.reduceMul, Int.reduceNeg, Int.reducePow, Int.reduceLT, Int.reduceLE, Int.reduceEq, Int.reduceNe, Int.reduceToNat, Int.reduceAbs, Nat.reduceAdd, Nat.reduceLT, Nat.reduceLeDiff, Nat.reducePow, Nat.reduceLT, List.length_cons, List.length_nil, true_implies, false_implies, not_true_eq_false, not_false_eq_true, and_true, true_and, and_self, or_true, true_or, decide_true, decide_false, exists_eq_left', Option.some.injEq]
  refine ⟨fun h => ?_, fun h => ?_⟩
  · have hl : k.toNat < ns.length := by omega
    have e : idx ns k = some (cell ns k) := by simp [idx, h0, cell, hl]
    rw [e]; exact q
  · have hl : ¬ k.toNat < ns.length := by omega
    simpa [cell, hl] using q
noncomputable def O1 : Orc := ext "_law_cell_at" C_cell_at N5

/- weekdays -/
noncomputable def riseB (most : Int) : Int → List Int → Bool
  | _, [] => true
  | a, d :: r => (decide (a + 1 ≤ d) && decide (d ≤ most)) && riseB most d r
theorem riseB_ok {most : Int} : ∀ {a : Int} {l : List Int}, riseB most a l = true → rise most a l
  | _, [], _ => trivial
  | a, d :: r, h => by
    simp only [riseB, Bool.and_eq_true, decide_eq_true_eq] at h
    exact ⟨h.1, riseB_ok h.2⟩
noncomputable def wdGo : List Int → Int → List Int
  | [], _ => []
  | k :: ks, b => (if b % 2 = 1 then [k] else []) ++ wdGo ks (b / 2)
noncomputable def wdOk (b : Int) : Bool := (!(wdGo [0, 1, 2, 3, 4, 5, 6] b).isEmpty && decide ((wdGo [0, 1, 2, 3, 4, 5, 6] b).length ≤ 7)) && riseB 6 (-1) (wdGo [0, 1, 2, 3, 4, 5, 6] b)
theorem wd_all : ∀ b : Fin 127, wdOk ((b.val : Int) + 1) = true := by decide +kernel
theorem wd_days {b : Int} (h1 : 1 ≤ b) (h2 : b ≤ 127) : days 7 6 (wdGo [0, 1, 2, 3, 4, 5, 6] b) := by
  have h := wd_all ⟨(b - 1).toNat, by omega⟩
  have e : (((b - 1).toNat : Nat) : Int) + 1 = b := by omega
  simp only [e, wdOk, Bool.and_eq_true, Bool.not_eq_true', decide_eq_true_eq] at h
  exact ⟨fun e => (by rw [e] at h; cases h.1.1), h.1.2, riseB_ok h.2⟩
noncomputable def C_wd : Ctr := fun vs H Q _ => ∃ b : Int, vs = [.int b] ∧ (1 ≤ b ∧ b ≤ 127) ∧ ∀ ds H', H <+: H' → days 7 6 ds → Q (intsV ds) H'
theorem wd_loop {H0 : Hp} {t3 t4 t5 : Option V} {Q : QS} : ∀ (ks : List Int) (b : Int) (l : List Int) (t2 : Option V), l.length + ks.length ≤ 1000 →
    (∀ b' t2', Q .next [some (V.int b'), some (.ref H0.length), t2', t3, t4, t5] (H0 ++ [.list ((l ++ wdGo ks b).map V.int)])) →
    forGo (whBX O1 [(.ite (.cmp (.bin .Mod (.loc 0) (.lit (.int 2))) .Eq (.lit (.int 1))) [(.expr (.meth (.loc 1) .append [(.loc 2)]))] []), (.assign 0 (.bin .FloorDiv (.loc 0) (.lit (.int 2))))] noXS) (fun _ => True) [2] (ks.map V.int) [some (V.int b), some (.ref H0.length), t2, t3, t4, t5] (H0 ++ [.list (l.map V.int)]) Q
  | [], b, l, t2, _, q => by
    have this : Q .next [some (V.int b), some (V.ref (List.length H0)), t2, t3, t4, t5] (H0 ++ [O.list (List.map V.int l)]) := by simpa [wdGo] using q b t2
    exact this
  | k :: ks, b, l, t2, hl, q => by
    rw [List.map_cons, foX_cons]
    simp only [List.length_cons] at hl
    have hlen : (l.map V.int).length ≤ 1000000 := by rw [List.length_map]; omega
    simp only [↓X_lit, ↓X_loc, ↓X_bin, ↓negX_int, ↓X_neg, ↓X_not, ↓Y_not, ↓X_and, ↓Y_and, ↓X_or, ↓Y_or, ↓X_cmp, ↓X_cmp2, ↓X_ite, ↓Y_ite, ↓X_tup, ↓X_lst, ↓X_call, ↓X_meth, ↓X_sub, ↓X_comp, ↓Y_lit, ↓Y_loc, ↓Y_cmp, ↓Y_cmp2, ↓Y_call, ↓Y_sub, ↓XEs_nil, ↓XEs_cons, ↓XIfs_nil, ↓XIfs_cons, ↓Z_expr, ↓Z_assign, ↓Z_ret, ↓Z_retNone, ↓Z_ite, ↓Z_for, ↓Z_raise, ↓Z_pass, ↓Z_brk, ↓Z_cont, ↓Zs_nil, ↓sqX_next, ↓sqX_brk, ↓sqX_cont, ↓sqX_ret, ↓Zs_cons, ↓wkX_next, ↓wkX_cont, ↓wkX_brk, ↓wkX_ret, ↓fkX_next, ↓fkX_cont, ↓fkX_brk, ↓fkX_ret, ↓xb_one, ↓oKK_some, ↓oK_some, ↓tX_bool, ↓iX_t, ↓iX_f, ↓iX_d, ↓q_add, ↓q_sub, ↓q_mul, ↓q_div, ↓q_mod, ↓q_pow, ↓q_list, ↓q_eq, ↓q_ne, ↓q_eqs, ↓q_nes, ↓q_eqb, ↓q_lt, ↓q_le, ↓q_gt, ↓q_ge, ↓q_in, ↓q_inl, ↓q_nin, ↓q_is, ↓q_isnot, ↓q_stup, ↓q_sref, ↓q_sscr, ↓q_fn, ↓q_lentup, ↓q_lenref, ↓q_lenscr, ↓q_isi, ↓q_all, ↓q_max, ↓q_min, ↓q_int, ↓q_tuple, ↓q_listc, ↓q_append, ↓q_clear, ↓q_index, ↓q_pop, ↓q_slicet, ↓q_revt, ↓q_revl, ↓q_set, ↓q_repr, ↓q_eqo, ↓X_rev, ↓Z_set, ↓q_addt, ↓q_listt, ↓q_ninl, ↓u_tup, ↓u_ref, ↓u_range, ↓q_slice, ↓oi_none, ↓oi_int, ↓X_slice, ↓XO_none, ↓XO_some, ↓u_rev, ↓u_zip, ↓xb_two, ↓u_range2, ↓retV_ret, ↓retV_next, List.getElem?_cons_zero, List.getElem?_cons_succ, List.set_cons_zero, List.set_cons_succ, Bool.not_true, Bool.not_false, idx_0, idx_1, idx_2, idx_3, idx_4, idx_5, Int.reduceAdd, Int.reduceSub, Int.reduceMul, Int.reduceNeg, Int.reducePow, Int.reduceLT, Int.reduceLE, Int.reduceEq, Int.reduceNe, Int.reduceToNat, Int.reduceAbs, Nat.reduceAdd, Nat.reduceLT, Nat.reduceLeDiff, Nat.reducePow, Nat.reduceLT, List.length_cons, List.length_nil, true_implies, false_implies, not_true_eq_false, not_false_eq_true, and_true, true_and, and_self, or_true, true_or, decide_true, decide_false, exists_eq_left', Option.some.injEq, listAt_new, set_new, hlen]
    refine ⟨fun hb => ⟨⟨_, listAt_new⟩, ?_⟩, fun hb => ?_⟩
    · have e : l.map V.int ++ [V.int k] = (l ++ [k]).map V.int := by simp
      rw [e]
      refine wd_loop ks (b / 2) (l ++ [k]) _ (by simp; omega) fun b' t2' => ?_
      have := q b' t2'
      simp only [wdGo, hb, if_true] at this
      simpa using this
    · refine wd_loop ks (b / 2) l _ (by omega) fun b' t2' => ?_
      have := q b' t2'
      simp only [wdGo, hb, if_false] at this
      simpa using this
theorem w_weekdays : ∀ vs H Q X, C_wd vs H Q X → wpFn O1 f_l_weekdays vs H Q X := by
  rintro vs H Q X ⟨b, rfl, hb, q⟩
  refine fn_of rfl ?_
  change wpSs O1 f_l_weekdays.body [some (V.int b), none, none, none, none, none] H _ _
  refine zs_cons ?_
  generalize hK : sqX O1 (_ :: _) = K
  simp only [↓X_lit, ↓X_loc, ↓X_bin, ↓negX_int, ↓X_neg, ↓X_not, ↓Y_not, ↓X_and, ↓Y_and, ↓X_or, ↓Y_or, ↓X_cmp, ↓X_cmp2, ↓X_ite, ↓Y_ite, ↓X_tup, ↓X_lst, ↓X_call, ↓X_meth, ↓X_sub, ↓X_comp, ↓Y_lit, ↓Y_loc, ↓Y_cmp, ↓Y_cmp2, ↓Y_call, ↓Y_sub, ↓XEs_nil, ↓XEs_cons, ↓XIfs_nil, ↓XIfs_cons, ↓Z_expr, ↓Z_assign, ↓Z_ret, ↓Z_retNone, ↓Z_ite, ↓Z_for, ↓Z_raise, ↓Z_pass, ↓Z_brk, ↓Z_cont, ↓Zs_nil, ↓sqX_next, ↓sqX_brk, ↓sqX_cont, ↓sqX_ret, ↓Zs_cons, ↓wkX_next, ↓wkX_cont, ↓wkX_brk, ↓wkX_ret, ↓fkX_next, ↓fkX_cont, ↓fkX_brk, ↓fkX_ret, ↓xb_one, ↓oKK_some, ↓oK_some, ↓tX_bool, ↓iX_t, ↓iX_f, ↓iX_d, ↓q_add, ↓q_sub, ↓q_mul, ↓q_div, ↓q_mod, ↓q_pow, ↓q_list, ↓q_eq, ↓q_ne, ↓q_eqs, ↓q_nes, ↓q_eqb, ↓q_lt, ↓q_le, ↓q_gt, ↓q_ge, ↓q_in, ↓q_inl, ↓q_nin, ↓q_is, ↓q_isnot, ↓q_stup, ↓q_sref, ↓q_sscr, ↓q_fn, ↓q_lentup, ↓q_lenref, ↓q_lenscr, ↓q_isi, ↓q_all, ↓q_max, ↓q_min, ↓q_int, ↓q_tuple, ↓q_listc, ↓q_append, ↓q_clear, ↓q_index, ↓q_pop, ↓q_slicet, ↓q_revt, ↓q_revl, ↓q_set, ↓q_repr, ↓q_eqo, ↓X_rev, ↓Z_set, ↓q_addt, ↓q_listt, ↓q_ninl, ↓u_tup, ↓u_ref, ↓u_range, ↓q_slice, ↓oi_none, ↓oi_int, ↓X_slice, ↓XO_none, ↓XO_some, ↓u_rev, ↓u_zip, ↓xb_two, ↓u_range2, ↓retV_ret, ↓retV_next, List.getElem?_cons_zero, List.getElem?_cons_succ, List.set_cons_zero, List.set_cons_succ, Bool.not_true, Bool.not_false, idx_0, idx_1, idx_2, idx_3, idx_4, idx_5, Int.reduceAdd, Int.reduceSub, Int.reduceMul, Int.reduceNeg, Int.reducePow, Int.reduceLT, Int.reduceLE, Int.reduceEq, Int.reduceNe, Int.reduceToNat, Int.reduceAbs, Nat.reduceAdd, Nat.reduceLT, Nat.reduceLeDiff, Nat.reducePow, Nat.reduceLT, List.length_cons, List.length_nil, true_implies, false_implies, not_true_eq_false, not_false_eq_true, and_true, true_and, and_self, or_true, true_or, decide_true, decide_false, exists_eq_left', Option.some.injEq]
  subst hK
  refine zs_cons ?_
  rw [Z_for]
  show (-(2 ^ 62) ≤ (7 : Int) ∧ (7 : Int) ≤ 1000000) ∧ _
  refine ⟨by decide, ?_⟩
  refine wd_loop [0, 1, 2, 3, 4, 5, 6] b [] _ (by decide) fun b' t2' => ?_
  simp only [↓X_lit, ↓X_loc, ↓X_bin, ↓negX_int, ↓X_neg, ↓X_not, ↓Y_not, ↓X_and, ↓Y_and, ↓X_or, ↓Y_or, ↓X_cmp, ↓X_cmp2, ↓X_ite, ↓Y_ite, ↓X_tup, ↓X_lst, ↓X_call, ↓X_meth, ↓X_sub, ↓X_comp, ↓Y_lit, ↓Y_loc, ↓Y_cmp, ↓Y_cmp2, ↓Y_call, ↓Y_sub, ↓XEs_nil, ↓XEs_cons, ↓XIfs_nil, ↓XIfs_cons, ↓Z_expr, ↓Z_assign, ↓Z_ret, ↓Z_retNone, ↓Z_ite, ↓Z_for, ↓Z_raise, ↓Z_pass, ↓Z_brk, ↓Z_cont, ↓Zs_nil, ↓sqX_next, ↓sqX_brk, ↓sqX_cont, ↓sqX_ret, ↓Zs_cons, ↓wkX_next, ↓wkX_cont, ↓wkX_brk, ↓wkX_ret, ↓fkX_next, ↓fkX_cont, ↓fkX_brk, ↓fkX_ret, ↓xb_one, ↓oKK_some, ↓oK_some, ↓tX_bool, ↓iX_t, ↓iX_f, ↓iX_d, ↓q_add, ↓q_sub, ↓q_mul, ↓q_div, ↓q_mod, ↓q_pow, ↓q_list, ↓q_eq, ↓q_ne, ↓q_eqs, ↓q_nes, ↓q_eqb, ↓q_lt, ↓q_le, ↓q_gt, ↓q_ge, ↓q_in, ↓q_inl, ↓q_nin, ↓q_is, ↓q_isnot, ↓q_stup, ↓q_sref, ↓q_sscr, ↓q_fn, ↓q_lentup, ↓q_lenref, ↓q_lenscr, ↓q_isi, ↓q_all, ↓q_max, ↓q_min, ↓q_int, ↓q_tuple, ↓q_listc, ↓q_append, ↓q_clear, ↓q_index, ↓q_pop, ↓q_slicet, ↓q_revt, ↓q_revl, ↓q_set, ↓q_repr, ↓q_eqo, ↓X_rev, ↓Z_set, ↓q_addt, ↓q_listt, ↓q_ninl, ↓u_tup, ↓u_ref, ↓u_range, ↓q_slice, ↓oi_none, ↓oi_int, ↓X_slice, ↓XO_none, ↓XO_some, ↓u_rev, ↓u_zip, ↓xb_two, ↓u_range2, ↓retV_ret, ↓retV_next, List.getElem?_cons_zero, List.getElem?_cons_succ, List.set_cons_zero, List.set_cons_succ, Bool.not_true, Bool.not_false, idx_0, idx_1, idx_2, idx_3, idx_4, idx_5, Int.reduceAdd, Int.reduceSub, Int.reduceMul, Int.reduceNeg, Int.reducePow, Int.reduceLT, Int.reduceLE, Int.reduceEq, Int.reduceNe, Int.reduceToNat, Int.reduceAbs, Nat.reduceAdd, Nat.reduceLT, Nat.reduceLeDiff, Nat.reducePow, Nat.reduceLT, List.length_cons, List.length_nil, true_implies, false_implies, not_true_eq_false, not_false_eq_true, and_true, true_and, and_self, or_true, true_or, decide_true, decide_false, exists_eq_left', Option.some.injEq, listAt_new, List.nil_append]
  exact q _ _ pre_new (wd_days hb.1 hb.2)
noncomputable def O2 : Orc := ext "_law_weekdays" C_wd O1

noncomputable def C_tm : Ctr := fun vs H Q _ => ∃ c : Int, vs = [.int c] ∧ ∀ i H', H <+: H' → tm i → Q (.int i) H'
theorem at3 {a b c k : Int} {P : Int → Prop} (ha : P a) (hb : P b) (hc : P c) (h1 : 0 ≤ k) (h2 : k < 3) : ∃ v, idx [V.int a, .int b, .int c] k = some (.int v) ∧ P v := by
  have : k = 0 ∨ k = 1 ∨ k = 2 := by omega
  rcases this with rfl | rfl | rfl
  · exact ⟨_, rfl, ha⟩
  · exact ⟨_, rfl, hb⟩
  · exact ⟨_, rfl, hc⟩
theorem w_time : ∀ vs H Q X, C_tm vs H Q X → wpFn O2 f_l_time vs H Q X := by
  rintro vs H Q X ⟨c, rfl, q⟩
  refine fn_of rfl ?_
  obtain ⟨v, hv, ht⟩ := at3 (P := tm) (a := c / 3 % 200) (b := c / 3 % 1000000000000) (c := 999999999999 - c / 3 % 3) (k := c % 3) (by unfold tm; omega) (by unfold tm; omega) (by unfold tm; omega) (by omega) (by omega)
  simp only [f_l_time, initL, List.map_cons, List.map_nil, List.replicate, List.cons_append, List.nil_append, ↓X_lit, ↓X_loc, ↓X_bin, ↓negX_int, ↓X_neg, ↓X_not, ↓Y_not, ↓X_and, ↓Y_and, ↓X_or, ↓Y_or, ↓X_cmp, ↓X_cmp2, ↓X_ite, ↓Y_ite, ↓X_tup, ↓X_lst, ↓X_call, ↓X_meth, ↓X_sub, ↓X_comp, ↓Y_lit, ↓Y_loc, ↓Y_cmp, ↓Y_cmp2, ↓Y_call, ↓Y_sub, ↓XEs_nil, ↓XEs_cons, ↓XIfs_nil, ↓XIfs_cons, ↓Z_expr, ↓Z_assign, ↓Z_ret, ↓Z_retNone, ↓Z_ite, ↓Z_for, ↓Z_raise, ↓Z_pass, ↓Z_brk, ↓Z_cont, ↓Zs_nil, ↓sqX_next, ↓sqX_brk, ↓sqX_cont, ↓sqX_ret, ↓Zs_cons, ↓wkX_next, ↓wkX_cont, ↓wkX_brk, ↓wkX_ret, ↓fkX_next, ↓fkX_cont, ↓fkX_brk, ↓fkX_ret, ↓xb_one, ↓oKK_some, ↓oK_some, ↓tX_bool, ↓iX_t, ↓iX_f, ↓iX_d, ↓q_add, ↓q_sub, ↓q_mul, ↓q_div, ↓q_mod, ↓q_pow, ↓q_list, ↓q_eq, ↓q_ne, ↓q_eqs, ↓q_nes, ↓q_eqb, ↓q_lt, ↓q_le, ↓q_gt, ↓q_ge, ↓q_in, ↓q_inl, ↓q_nin, ↓q_is, ↓q_isnot, ↓q_stup, ↓q_sref, ↓q_sscr, ↓q_fn, ↓q_lentup, ↓q_lenref, ↓q_lenscr, ↓q_isi, ↓q_all, ↓q_max, ↓q_min, ↓q_int, ↓q_tuple, ↓q_listc, ↓q_append, ↓q_clear, ↓q_index, ↓q_pop, ↓q_slicet, ↓q_revt, ↓q_revl, ↓q_set, ↓q_repr, ↓q_eqo, ↓X_rev, ↓Z_set, ↓q_addt, ↓q_listt, ↓q_ninl, ↓u_tup, ↓u_ref, ↓u_range, ↓q_slice, ↓oi_none, ↓oi_int, ↓X_slice, ↓XO_none, ↓XO_some, ↓u_rev, ↓u_zip, ↓xb_two, ↓u_range2, ↓retV_ret, ↓retV_next, List.getElem?_cons_zero, List.getElem?_cons_succ, List.set_cons_zero, List.set_cons_succ, Bool.not_true, Bool.not_false, idx_0, idx_1, idx_2, idx_3, idx_4, idx_5, Int.reduceAdd, Int.reduceSub, Int.reduceMul, Int.reduceNeg, Int.reducePow, Int.reduceLT, Int.reduceLE, Int.reduceEq, Int.reduceNe, Int.reduceToNat, Int.reduceAbs, Nat.reduceAdd, Nat.reduceLT, Nat.reduceLeDiff, Nat.reducePow, Nat.reduceLT, List.length_cons, List.length_nil, true_implies, false_implies, not_true_eq_false, not_false_eq_true, and_true, true_and, and_self, or_true, true_or, decide_true, decide_false, exists_eq_left', Option.some.injEq, listAt_new, hv]
  exact q _ _ pre_new ht
noncomputable def O3 : Orc := ext "_law_time" C_tm O2
theorem O3_tm : O3 "_law_time" = C_tm := rfl
theorem O3_wd : O3 "_law_weekdays" = C_wd := rfl

noncomputable def C_wp : Ctr := fun vs H Q _ => ∃ i a b c, vs = [.ref i] ∧ listAt H i = some [.int a, .int b, .int c] ∧ ∀ r H', H <+: H' → r.plain = true → r.good → Q (rv r) H'
theorem w_wide_plain : ∀ vs H Q X, C_wp vs H Q X → wpFn O3 f_l_wide_plain vs H Q X := by
  rintro vs H Q X ⟨i, a, b, c, rfl, hl, q⟩
  refine fn_of rfl ?_
  change wpSs O3 f_l_wide_plain.body [some (.ref i), none, none, none, none, none, none] H _ _
  refine zs_cons ?_
  generalize hK : sqX O3 (_ :: _) = K
  simp only [↓X_lit, ↓X_loc, ↓X_bin, ↓negX_int, ↓X_neg, ↓X_not, ↓Y_not, ↓X_and, ↓Y_and, ↓X_or, ↓Y_or, ↓X_cmp, ↓X_cmp2, ↓X_ite, ↓Y_ite, ↓X_tup, ↓X_lst, ↓X_call, ↓X_meth, ↓X_sub, ↓X_comp, ↓Y_lit, ↓Y_loc, ↓Y_cmp, ↓Y_cmp2, ↓Y_call, ↓Y_sub, ↓XEs_nil, ↓XEs_cons, ↓XIfs_nil, ↓XIfs_cons, ↓Z_expr, ↓Z_assign, ↓Z_ret, ↓Z_retNone, ↓Z_ite, ↓Z_for, ↓Z_raise, ↓Z_pass, ↓Z_brk, ↓Z_cont, ↓Zs_nil, ↓sqX_next, ↓sqX_brk, ↓sqX_cont, ↓sqX_ret, ↓Zs_cons, ↓wkX_next, ↓wkX_cont, ↓wkX_brk, ↓wkX_ret, ↓fkX_next, ↓fkX_cont, ↓fkX_brk, ↓fkX_ret, ↓xb_one, ↓oKK_some, ↓oK_some, ↓tX_bool, ↓iX_t, ↓iX_f, ↓iX_d, ↓q_add, ↓q_sub, ↓q_mul, ↓q_div, ↓q_mod, ↓q_pow, ↓q_list, ↓q_eq, ↓q_ne, ↓q_eqs, ↓q_nes, ↓q_eqb, ↓q_lt, ↓q_le, ↓q_gt, ↓q_ge, ↓q_in, ↓q_inl, ↓q_nin, ↓q_is, ↓q_isnot, ↓q_stup, ↓q_sref, ↓q_sscr, ↓q_fn, ↓q_lentup, ↓q_lenref, ↓q_lenscr, ↓q_isi, ↓q_all, ↓q_max, ↓q_min, ↓q_int, ↓q_tuple, ↓q_listc, ↓q_append, ↓q_clear, ↓q_index, ↓q_pop, ↓q_slicet, ↓q_revt, ↓q_revl, ↓q_set, ↓q_repr, ↓q_eqo, ↓X_rev, ↓Z_set, ↓q_addt, ↓q_listt, ↓q_ninl, ↓u_tup, ↓u_ref, ↓u_range, ↓q_slice, ↓oi_none, ↓oi_int, ↓X_slice, ↓XO_none, ↓XO_some, ↓u_rev, ↓u_zip, ↓xb_two, ↓u_range2, ↓retV_ret, ↓retV_next, List.getElem?_cons_zero, List.getElem?_cons_succ, List.set_cons_zero, List.set_cons_succ, Bool.not_true, Bool.not_false, idx_0, idx_1, idx_2, idx_3, idx_4, idx_5, Int.reduceAdd, Int.reduceSub, Int.reduceMul, Int.reduceNeg, Int.reducePow, Int.reduceLT, Int.reduceLE, Int.reduceEq, Int.reduceNe, Int.reduceToNat, Int.reduceAbs, Nat.reduceAdd, Nat.reduceLT, Nat.reduceLeDiff, Nat.reducePow, Nat.reduceLT, List.length_cons, List.length_nil, true_implies, false_implies, not_true_eq_false, not_false_eq_true, and_true, true_and, and_self, or_true, true_or, decide_true, decide_false, exists_eq_left', Option.some.injEq, hl]
  subst hK
  generalize a % 4 = kind
  refine zs_cons ?_
  generalize hK : sqX O3 (_ :: _) = K
  simp only [↓X_lit, ↓X_loc, ↓X_bin, ↓negX_int, ↓X_neg, ↓X_not, ↓Y_not, ↓X_and, ↓Y_and, ↓X_or, ↓Y_or, ↓X_cmp, ↓X_cmp2, ↓X_ite, ↓Y_ite, ↓X_tup, ↓X_lst, ↓X_call, ↓X_meth, ↓X_sub, ↓X_comp, ↓Y_lit, ↓Y_loc, ↓Y_cmp, ↓Y_cmp2, ↓Y_call, ↓Y_sub, ↓XEs_nil, ↓XEs_cons, ↓XIfs_nil, ↓XIfs_cons, ↓Z_expr, ↓Z_assign, ↓Z_ret, ↓Z_retNone, ↓Z_ite, ↓Z_for, ↓Z_raise, ↓Z_pass, ↓Z_brk, ↓Z_cont, ↓Zs_nil, ↓sqX_next, ↓sqX_brk, ↓sqX_cont, ↓sqX_ret, ↓Zs_cons, ↓wkX_next, ↓wkX_cont, ↓wkX_brk, ↓wkX_ret, ↓fkX_next, ↓fkX_cont, ↓fkX_brk, ↓fkX_ret, ↓xb_one, ↓oKK_some, ↓oK_some, ↓tX_bool, ↓iX_t, ↓iX_f, ↓iX_d, ↓q_add, ↓q_sub, ↓q_mul, ↓q_div, ↓q_mod, ↓q_pow, ↓q_list, ↓q_eq, ↓q_ne, ↓q_eqs, ↓q_nes, ↓q_eqb, ↓q_lt, ↓q_le, ↓q_gt, ↓q_ge, ↓q_in, ↓q_inl, ↓q_nin, ↓q_is, ↓q_isnot, ↓q_stup, ↓q_sref, ↓q_sscr, ↓q_fn, ↓q_lentup, ↓q_lenref, ↓q_lenscr, ↓q_isi, ↓q_all, ↓q_max, ↓q_min, ↓q_int, ↓q_tuple, ↓q_listc, ↓q_append, ↓q_clear, ↓q_index, ↓q_pop, ↓q_slicet, ↓q_revt, ↓q_revl, ↓q_set, ↓q_repr, ↓q_eqo, ↓X_rev, ↓Z_set, ↓q_addt, ↓q_listt, ↓q_ninl, ↓u_tup, ↓u_ref, ↓u_range, ↓q_slice, ↓oi_none, ↓oi_int, ↓X_slice, ↓XO_none, ↓XO_some, ↓u_rev, ↓u_zip, ↓xb_two, ↓u_range2, ↓retV_ret, ↓retV_next, List.getElem?_cons_zero, List.getElem?_cons_succ, List.set_cons_zero, List.set_cons_succ, Bool.not_true, Bool.not_false, idx_0, idx_1, idx_2, idx_3, idx_4, idx_5, Int.reduceAdd, Int.reduceSub, Int.reduceMul, Int.reduceNeg, Int.reducePow, Int.reduceLT, Int.reduceLE, Int.reduceEq, Int.reduceNe, Int.reduceToNat, Int.reduceAbs, Nat.reduceAdd, Nat.reduceLT, Nat.reduceLeDiff, Nat.reducePow, Nat.reduceLT, List.length_cons, List.length_nil, true_implies, false_implies, not_true_eq_false, not_false_eq_true, and_true, true_and, and_self, or_true, true_or, decide_true, decide_false, exists_eq_left', Option.some.injEq, hl]
  subst hK
  have hs : sz (1 + a / 4 % 48) := by unfold sz; omega
  generalize 1 + a / 4 % 48 = s at hs ⊢
  refine zs_cons ?_
  generalize hK : sqX O3 (_ :: _) = K
  simp only [↓X_lit, ↓X_loc, ↓X_bin, ↓negX_int, ↓X_neg, ↓X_not, ↓Y_not, ↓X_and, ↓Y_and, ↓X_or, ↓Y_or, ↓X_cmp, ↓X_cmp2, ↓X_ite, ↓Y_ite, ↓X_tup, ↓X_lst, ↓X_call, ↓X_meth, ↓X_sub, ↓X_comp, ↓Y_lit, ↓Y_loc, ↓Y_cmp, ↓Y_cmp2, ↓Y_call, ↓Y_sub, ↓XEs_nil, ↓XEs_cons, ↓XIfs_nil, ↓XIfs_cons, ↓Z_expr, ↓Z_assign, ↓Z_ret, ↓Z_retNone, ↓Z_ite, ↓Z_for, ↓Z_raise, ↓Z_pass, ↓Z_brk, ↓Z_cont, ↓Zs_nil, ↓sqX_next, ↓sqX_brk, ↓sqX_cont, ↓sqX_ret, ↓Zs_cons, ↓wkX_next, ↓wkX_cont, ↓wkX_brk, ↓wkX_ret, ↓fkX_next, ↓fkX_cont, ↓fkX_brk, ↓fkX_ret, ↓xb_one, ↓oKK_some, ↓oK_some, ↓tX_bool, ↓iX_t, ↓iX_f, ↓iX_d, ↓q_add, ↓q_sub, ↓q_mul, ↓q_div, ↓q_mod, ↓q_pow, ↓q_list, ↓q_eq, ↓q_ne, ↓q_eqs, ↓q_nes, ↓q_eqb, ↓q_lt, ↓q_le, ↓q_gt, ↓q_ge, ↓q_in, ↓q_inl, ↓q_nin, ↓q_is, ↓q_isnot, ↓q_stup, ↓q_sref, ↓q_sscr, ↓q_fn, ↓q_lentup, ↓q_lenref, ↓q_lenscr, ↓q_isi, ↓q_all, ↓q_max, ↓q_min, ↓q_int, ↓q_tuple, ↓q_listc, ↓q_append, ↓q_clear, ↓q_index, ↓q_pop, ↓q_slicet, ↓q_revt, ↓q_revl, ↓q_set, ↓q_repr, ↓q_eqo, ↓X_rev, ↓Z_set, ↓q_addt, ↓q_listt, ↓q_ninl, ↓u_tup, ↓u_ref, ↓u_range, ↓q_slice, ↓oi_none, ↓oi_int, ↓X_slice, ↓XO_none, ↓XO_some, ↓u_rev, ↓u_zip, ↓xb_two, ↓u_range2, ↓retV_ret, ↓retV_next, List.getElem?_cons_zero, List.getElem?_cons_succ, List.set_cons_zero, List.set_cons_succ, Bool.not_true, Bool.not_false, idx_0, idx_1, idx_2, idx_3, idx_4, idx_5, Int.reduceAdd, Int.reduceSub, Int.reduceMul, Int.reduceNeg, Int.reducePow, Int.reduceLT, Int.reduceLE, Int.reduceEq, Int.reduceNe, Int.reduceToNat, Int.reduceAbs, Nat.reduceAdd, Nat.reduceLT, Nat.reduceLeDiff, Nat.reducePow, Nat.reduceLT, List.length_cons, List.length_nil, true_implies, false_implies, not_true_eq_false, not_false_eq_true, and_true, true_and, and_self, or_true, true_or, decide_true, decide_false, exists_eq_left', Option.some.injEq, hl, ↓O3_tm]
  subst hK
  refine ⟨fun _ => ⟨b, rfl, fun h H' hp hh => ?_⟩, fun _ => zs_cons ?_⟩
  · simp only [↓X_lit, ↓X_loc, ↓X_bin, ↓negX_int, ↓X_neg, ↓X_not, ↓Y_not, ↓X_and, ↓Y_and, ↓X_or, ↓Y_or, ↓X_cmp, ↓X_cmp2, ↓X_ite, ↓Y_ite, ↓X_tup, ↓X_lst, ↓X_call, ↓X_meth, ↓X_sub, ↓X_comp, ↓Y_lit, ↓Y_loc, ↓Y_cmp, ↓Y_cmp2, ↓Y_call, ↓Y_sub, ↓XEs_nil, ↓XEs_cons, ↓XIfs_nil, ↓XIfs_cons, ↓Z_expr, ↓Z_assign, ↓Z_ret, ↓Z_retNone, ↓Z_ite, ↓Z_for, ↓Z_raise, ↓Z_pass, ↓Z_brk, ↓Z_cont, ↓Zs_nil, ↓sqX_next, ↓sqX_brk, ↓sqX_cont, ↓sqX_ret, ↓Zs_cons, ↓wkX_next, ↓wkX_cont, ↓wkX_brk, ↓wkX_ret, ↓fkX_next, ↓fkX_cont, ↓fkX_brk, ↓fkX_ret, ↓xb_one, ↓oKK_some, ↓oK_some, ↓tX_bool, ↓iX_t, ↓iX_f, ↓iX_d, ↓q_add, ↓q_sub, ↓q_mul, ↓q_div, ↓q_mod, ↓q_pow, ↓q_list, ↓q_eq, ↓q_ne, ↓q_eqs, ↓q_nes, ↓q_eqb, ↓q_lt, ↓q_le, ↓q_gt, ↓q_ge, ↓q_in, ↓q_inl, ↓q_nin, ↓q_is, ↓q_isnot, ↓q_stup, ↓q_sref, ↓q_sscr, ↓q_fn, ↓q_lentup, ↓q_lenref, ↓q_lenscr, ↓q_isi, ↓q_all, ↓q_max, ↓q_min, ↓q_int, ↓q_tuple, ↓q_listc, ↓q_append, ↓q_clear, ↓q_index, ↓q_pop, ↓q_slicet, ↓q_revt, ↓q_revl, ↓q_set, ↓q_repr, ↓q_eqo, ↓X_rev, ↓Z_set, ↓q_addt, ↓q_listt, ↓q_ninl, ↓u_tup, ↓u_ref, ↓u_range, ↓q_slice, ↓oi_none, ↓oi_int, ↓X_slice, ↓XO_none, ↓XO_some, ↓u_rev, ↓u_zip, ↓xb_two, ↓u_range2, ↓retV_ret, ↓retV_next, List.getElem?_cons_zero, List.getElem?_cons_succ, List.set_cons_zero, List.set_cons_succ, Bool.not_true, Bool.not_false, idx_0, idx_1, idx_2, idx_3, idx_4, idx_5, Int.reduceAdd, Int.reduceSub, Int.reduceMul, Int.reduceNeg, Int.reducePow, Int.reduceLT, Int.reduceLE, Int.reduceEq, Int.reduceNe, Int.reduceToNat, Int.reduceAbs, Nat.reduceAdd, Nat.reduceLT, Nat.reduceLeDiff, Nat.reducePow, Nat.reduceLT, List.length_cons, List.length_nil, true_implies, false_implies, not_true_eq_false, not_false_eq_true, and_true, true_and, and_self, or_true, true_or, decide_true, decide_false, exists_eq_left', Option.some.injEq]
    exact q (.once h s) H' hp rfl ⟨hh, hs⟩
  generalize hK : sqX O3 (_ :: _) = K
  simp only [↓X_lit, ↓X_loc, ↓X_bin, ↓negX_int, ↓X_neg, ↓X_not, ↓Y_not, ↓X_and, ↓Y_and, ↓X_or, ↓Y_or, ↓X_cmp, ↓X_cmp2, ↓X_ite, ↓Y_ite, ↓X_tup, ↓X_lst, ↓X_call, ↓X_meth, ↓X_sub, ↓X_comp, ↓Y_lit, ↓Y_loc, ↓Y_cmp, ↓Y_cmp2, ↓Y_call, ↓Y_sub, ↓XEs_nil, ↓XEs_cons, ↓XIfs_nil, ↓XIfs_cons, ↓Z_expr, ↓Z_assign, ↓Z_ret, ↓Z_retNone, ↓Z_ite, ↓Z_for, ↓Z_raise, ↓Z_pass, ↓Z_brk, ↓Z_cont, ↓Zs_nil, ↓sqX_next, ↓sqX_brk, ↓sqX_cont, ↓sqX_ret, ↓Zs_cons, ↓wkX_next, ↓wkX_cont, ↓wkX_brk, ↓wkX_ret, ↓fkX_next, ↓fkX_cont, ↓fkX_brk, ↓fkX_ret, ↓xb_one, ↓oKK_some, ↓oK_some, ↓tX_bool, ↓iX_t, ↓iX_f, ↓iX_d, ↓q_add, ↓q_sub, ↓q_mul, ↓q_div, ↓q_mod, ↓q_pow, ↓q_list, ↓q_eq, ↓q_ne, ↓q_eqs, ↓q_nes, ↓q_eqb, ↓q_lt, ↓q_le, ↓q_gt, ↓q_ge, ↓q_in, ↓q_inl, ↓q_nin, ↓q_is, ↓q_isnot, ↓q_stup, ↓q_sref, ↓q_sscr, ↓q_fn, ↓q_lentup, ↓q_lenref, ↓q_lenscr, ↓q_isi, ↓q_all, ↓q_max, ↓q_min, ↓q_int, ↓q_tuple, ↓q_listc, ↓q_append, ↓q_clear, ↓q_index, ↓q_pop, ↓q_slicet, ↓q_revt, ↓q_revl, ↓q_set, ↓q_repr, ↓q_eqo, ↓X_rev, ↓Z_set, ↓q_addt, ↓q_listt, ↓q_ninl, ↓u_tup, ↓u_ref, ↓u_range, ↓q_slice, ↓oi_none, ↓oi_int, ↓X_slice, ↓XO_none, ↓XO_some, ↓u_rev, ↓u_zip, ↓xb_two, ↓u_range2, ↓retV_ret, ↓retV_next, List.getElem?_cons_zero, List.getElem?_cons_succ, List.set_cons_zero, List.set_cons_succ, Bool.not_true, Bool.not_false, idx_0, idx_1, idx_2, idx_3, idx_4, idx_5, Int.reduceAdd, Int.reduceSub, Int.reduceMul, Int.reduceNeg, Int.reducePow, Int.reduceLT, Int.reduceLE, Int.reduceEq, Int.reduceNe, Int.reduceToNat, Int.reduceAbs, Nat.reduceAdd, Nat.reduceLT, Nat.reduceLeDiff, Nat.reducePow, Nat.reduceLT, List.length_cons, List.length_nil, true_implies, false_implies, not_true_eq_false, not_false_eq_true, and_true, true_and, and_self, or_true, true_or, decide_true, decide_false, exists_eq_left', Option.some.injEq, hl, ↓O3_tm]
  subst hK
  refine ⟨fun _ => ⟨b, rfl, fun h H' hp hh => ?_⟩, fun _ => zs_cons ?_⟩
  · have hl' := listAt_pre hp hl
    have e2 : ∃ v, idx [V.int (c / 2 % 30), .int (c / 2 % 1000000)] (c % 2) = some (.int v) ∧ 0 ≤ v ∧ v < 1000000 := by
      have : c % 2 = 0 ∨ c % 2 = 1 := by omega
      rcases this with e | e <;> rw [e]
      · exact ⟨_, rfl, by omega, by omega⟩
      · exact ⟨_, rfl, by omega, by omega⟩
    obtain ⟨v, hv, v1, v2⟩ := e2
    have hl2 := listAt_pre (pre_new (o := .list [.int (c / 2 % 30), .int (c / 2 % 1000000)])) hl'
    simp only [↓X_lit, ↓X_loc, ↓X_bin, ↓negX_int, ↓X_neg, ↓X_not, ↓Y_not, ↓X_and, ↓Y_and, ↓X_or, ↓Y_or, ↓X_cmp, ↓X_cmp2, ↓X_ite, ↓Y_ite, ↓X_tup, ↓X_lst, ↓X_call, ↓X_meth, ↓X_sub, ↓X_comp, ↓Y_lit, ↓Y_loc, ↓Y_cmp, ↓Y_cmp2, ↓Y_call, ↓Y_sub, ↓XEs_nil, ↓XEs_cons, ↓XIfs_nil, ↓XIfs_cons, ↓Z_expr, ↓Z_assign, ↓Z_ret, ↓Z_retNone, ↓Z_ite, ↓Z_for, ↓Z_raise, ↓Z_pass, ↓Z_brk, ↓Z_cont, ↓Zs_nil, ↓sqX_next, ↓sqX_brk, ↓sqX_cont, ↓sqX_ret, ↓Zs_cons, ↓wkX_next, ↓wkX_cont, ↓wkX_brk, ↓wkX_ret, ↓fkX_next, ↓fkX_cont, ↓fkX_brk, ↓fkX_ret, ↓xb_one, ↓oKK_some, ↓oK_some, ↓tX_bool, ↓iX_t, ↓iX_f, ↓iX_d, ↓q_add, ↓q_sub, ↓q_mul, ↓q_div, ↓q_mod, ↓q_pow, ↓q_list, ↓q_eq, ↓q_ne, ↓q_eqs, ↓q_nes, ↓q_eqb, ↓q_lt, ↓q_le, ↓q_gt, ↓q_ge, ↓q_in, ↓q_inl, ↓q_nin, ↓q_is, ↓q_isnot, ↓q_stup, ↓q_sref, ↓q_sscr, ↓q_fn, ↓q_lentup, ↓q_lenref, ↓q_lenscr, ↓q_isi, ↓q_all, ↓q_max, ↓q_min, ↓q_int, ↓q_tuple, ↓q_listc, ↓q_append, ↓q_clear, ↓q_index, ↓q_pop, ↓q_slicet, ↓q_revt, ↓q_revl, ↓q_set, ↓q_repr, ↓q_eqo, ↓X_rev, ↓Z_set, ↓q_addt, ↓q_listt, ↓q_ninl, ↓u_tup, ↓u_ref, ↓u_range, ↓q_slice, ↓oi_none, ↓oi_int, ↓X_slice, ↓XO_none, ↓XO_some, ↓u_rev, ↓u_zip, ↓xb_two, ↓u_range2, ↓retV_ret, ↓retV_next, List.getElem?_cons_zero, List.getElem?_cons_succ, List.set_cons_zero, List.set_cons_succ, Bool.not_true, Bool.not_false, idx_0, idx_1, idx_2, idx_3, idx_4, idx_5, Int.reduceAdd, Int.reduceSub, Int.reduceMul, Int.reduceNeg, Int.reducePow, Int.reduceLT, Int.reduceLE, Int.reduceEq, Int.reduceNe, Int.reduceToNat, Int.reduceAbs, Nat.reduceAdd, Nat.reduceLT, Nat.reduceLeDiff, Nat.reducePow, Nat.reduceLT, List.length_cons, List.length_nil, true_implies, false_implies, not_true_eq_false, not_false_eq_true, and_true, true_and, and_self, or_true, true_or, decide_true, decide_false, exists_eq_left', Option.some.injEq, hl', hl2, listAt_new, hv]
    exact q (.every h s (1 + v)) _ (hp.trans pre_new) rfl ⟨hh, hs, by omega, by omega⟩
  generalize hK : sqX O3 (_ :: _) = K
  simp only [↓X_lit, ↓X_loc, ↓X_bin, ↓negX_int, ↓X_neg, ↓X_not, ↓Y_not, ↓X_and, ↓Y_and, ↓X_or, ↓Y_or, ↓X_cmp, ↓X_cmp2, ↓X_ite, ↓Y_ite, ↓X_tup, ↓X_lst, ↓X_call, ↓X_meth, ↓X_sub, ↓X_comp, ↓Y_lit, ↓Y_loc, ↓Y_cmp, ↓Y_cmp2, ↓Y_call, ↓Y_sub, ↓XEs_nil, ↓XEs_cons, ↓XIfs_nil, ↓XIfs_cons, ↓Z_expr, ↓Z_assign, ↓Z_ret, ↓Z_retNone, ↓Z_ite, ↓Z_for, ↓Z_raise, ↓Z_pass, ↓Z_brk, ↓Z_cont, ↓Zs_nil, ↓sqX_next, ↓sqX_brk, ↓sqX_cont, ↓sqX_ret, ↓Zs_cons, ↓wkX_next, ↓wkX_cont, ↓wkX_brk, ↓wkX_ret, ↓fkX_next, ↓fkX_cont, ↓fkX_brk, ↓fkX_ret, ↓xb_one, ↓oKK_some, ↓oK_some, ↓tX_bool, ↓iX_t, ↓iX_f, ↓iX_d, ↓q_add, ↓q_sub, ↓q_mul, ↓q_div, ↓q_mod, ↓q_pow, ↓q_list, ↓q_eq, ↓q_ne, ↓q_eqs, ↓q_nes, ↓q_eqb, ↓q_lt, ↓q_le, ↓q_gt, ↓q_ge, ↓q_in, ↓q_inl, ↓q_nin, ↓q_is, ↓q_isnot, ↓q_stup, ↓q_sref, ↓q_sscr, ↓q_fn, ↓q_lentup, ↓q_lenref, ↓q_lenscr, ↓q_isi, ↓q_all, ↓q_max, ↓q_min, ↓q_int, ↓q_tuple, ↓q_listc, ↓q_append, ↓q_clear, ↓q_index, ↓q_pop, ↓q_slicet, ↓q_revt, ↓q_revl, ↓q_set, ↓q_repr, ↓q_eqo, ↓X_rev, ↓Z_set, ↓q_addt, ↓q_listt, ↓q_ninl, ↓u_tup, ↓u_ref, ↓u_range, ↓q_slice, ↓oi_none, ↓oi_int, ↓X_slice, ↓XO_none, ↓XO_some, ↓u_rev, ↓u_zip, ↓xb_two, ↓u_range2, ↓retV_ret, ↓retV_next, List.getElem?_cons_zero, List.getElem?_cons_succ, List.set_cons_zero, List.set_cons_succ, Bool.not_true, Bool.not_false, idx_0, idx_1, idx_2, idx_3, idx_4, idx_5, Int.reduceAdd, Int.reduceSub, Int.reduceMul, Int.reduceNeg, Int.reducePow, Int.reduceLT, Int.reduceLE, Int.reduceEq, Int.reduceNe, Int.reduceToNat, Int.reduceAbs, Nat.reduceAdd, Nat.reduceLT, Nat.reduceLeDiff, Nat.reducePow, Nat.reduceLT, List.length_cons, List.length_nil, true_implies, false_implies, not_true_eq_false, not_false_eq_true, and_true, true_and, and_self, or_true, true_or, decide_true, decide_false, exists_eq_left', Option.some.injEq, hl, ↓O3_wd]
  subst hK
  refine ⟨fun _ => ⟨_, rfl, ⟨by omega, by omega⟩, fun ds H' hp hh => ?_⟩, fun _ => zs_cons ?_⟩
  · have hl' := listAt_pre hp hl
    simp only [↓X_lit, ↓X_loc, ↓X_bin, ↓negX_int, ↓X_neg, ↓X_not, ↓Y_not, ↓X_and, ↓Y_and, ↓X_or, ↓Y_or, ↓X_cmp, ↓X_cmp2, ↓X_ite, ↓Y_ite, ↓X_tup, ↓X_lst, ↓X_call, ↓X_meth, ↓X_sub, ↓X_comp, ↓Y_lit, ↓Y_loc, ↓Y_cmp, ↓Y_cmp2, ↓Y_call, ↓Y_sub, ↓XEs_nil, ↓XEs_cons, ↓XIfs_nil, ↓XIfs_cons, ↓Z_expr, ↓Z_assign, ↓Z_ret, ↓Z_retNone, ↓Z_ite, ↓Z_for, ↓Z_raise, ↓Z_pass, ↓Z_brk, ↓Z_cont, ↓Zs_nil, ↓sqX_next, ↓sqX_brk, ↓sqX_cont, ↓sqX_ret, ↓Zs_cons, ↓wkX_next, ↓wkX_cont, ↓wkX_brk, ↓wkX_ret, ↓fkX_next, ↓fkX_cont, ↓fkX_brk, ↓fkX_ret, ↓xb_one, ↓oKK_some, ↓oK_some, ↓tX_bool, ↓iX_t, ↓iX_f, ↓iX_d, ↓q_add, ↓q_sub, ↓q_mul, ↓q_div, ↓q_mod, ↓q_pow, ↓q_list, ↓q_eq, ↓q_ne, ↓q_eqs, ↓q_nes, ↓q_eqb, ↓q_lt, ↓q_le, ↓q_gt, ↓q_ge, ↓q_in, ↓q_inl, ↓q_nin, ↓q_is, ↓q_isnot, ↓q_stup, ↓q_sref, ↓q_sscr, ↓q_fn, ↓q_lentup, ↓q_lenref, ↓q_lenscr, ↓q_isi, ↓q_all, ↓q_max, ↓q_min, ↓q_int, ↓q_tuple, ↓q_listc, ↓q_append, ↓q_clear, ↓q_index, ↓q_pop, ↓q_slicet, ↓q_revt, ↓q_revl, ↓q_set, ↓q_repr, ↓q_eqo, ↓X_rev, ↓Z_set, ↓q_addt, ↓q_listt, ↓q_ninl, ↓u_tup, ↓u_ref, ↓u_range, ↓q_slice, ↓oi_none, ↓oi_int, ↓X_slice, ↓XO_none, ↓XO_some, ↓u_rev, ↓u_zip, ↓xb_two, ↓u_range2, ↓retV_ret, ↓retV_next, List.getElem?_cons_zero, List.getElem?_cons_succ, List.set_cons_zero, List.set_cons_succ, Bool.not_true, Bool.not_false, idx_0, idx_1, idx_2, idx_3, idx_4, idx_5, Int.reduceAdd, Int.reduceSub, Int.reduceMul, Int.reduceNeg, Int.reducePow, Int.reduceLT, Int.reduceLE, Int.reduceEq, Int.reduceNe, Int.reduceToNat, Int.reduceAbs, Nat.reduceAdd, Nat.reduceLT, Nat.reduceLeDiff, Nat.reducePow, Nat.reduceLT, List.length_cons, List.length_nil, true_implies, false_implies, not_true_eq_false, not_false_eq_true, and_true, true_and, and_self, or_true, true_or, decide_true, decide_false, exists_eq_left', Option.some.injEq, hl']
    exact q (.week ds (b % 24) s) H' hp rfl ⟨hh, ⟨by omega, by omega⟩, hs⟩
  generalize hK : sqX O3 (_ :: _) = K
  simp only [↓X_lit, ↓X_loc, ↓X_bin, ↓negX_int, ↓X_neg, ↓X_not, ↓Y_not, ↓X_and, ↓Y_and, ↓X_or, ↓Y_or, ↓X_cmp, ↓X_cmp2, ↓X_ite, ↓Y_ite, ↓X_tup, ↓X_lst, ↓X_call, ↓X_meth, ↓X_sub, ↓X_comp, ↓Y_lit, ↓Y_loc, ↓Y_cmp, ↓Y_cmp2, ↓Y_call, ↓Y_sub, ↓XEs_nil, ↓XEs_cons, ↓XIfs_nil, ↓XIfs_cons, ↓Z_expr, ↓Z_assign, ↓Z_ret, ↓Z_retNone, ↓Z_ite, ↓Z_for, ↓Z_raise, ↓Z_pass, ↓Z_brk, ↓Z_cont, ↓Zs_nil, ↓sqX_next, ↓sqX_brk, ↓sqX_cont, ↓sqX_ret, ↓Zs_cons, ↓wkX_next, ↓wkX_cont, ↓wkX_brk, ↓wkX_ret, ↓fkX_next, ↓fkX_cont, ↓fkX_brk, ↓fkX_ret, ↓xb_one, ↓oKK_some, ↓oK_some, ↓tX_bool, ↓iX_t, ↓iX_f, ↓iX_d, ↓q_add, ↓q_sub, ↓q_mul, ↓q_div, ↓q_mod, ↓q_pow, ↓q_list, ↓q_eq, ↓q_ne, ↓q_eqs, ↓q_nes, ↓q_eqb, ↓q_lt, ↓q_le, ↓q_gt, ↓q_ge, ↓q_in, ↓q_inl, ↓q_nin, ↓q_is, ↓q_isnot, ↓q_stup, ↓q_sref, ↓q_sscr, ↓q_fn, ↓q_lentup, ↓q_lenref, ↓q_lenscr, ↓q_isi, ↓q_all, ↓q_max, ↓q_min, ↓q_int, ↓q_tuple, ↓q_listc, ↓q_append, ↓q_clear, ↓q_index, ↓q_pop, ↓q_slicet, ↓q_revt, ↓q_revl, ↓q_set, ↓q_repr, ↓q_eqo, ↓X_rev, ↓Z_set, ↓q_addt, ↓q_listt, ↓q_ninl, ↓u_tup, ↓u_ref, ↓u_range, ↓q_slice, ↓oi_none, ↓oi_int, ↓X_slice, ↓XO_none, ↓XO_some, ↓u_rev, ↓u_zip, ↓xb_two, ↓u_range2, ↓retV_ret, ↓retV_next, List.getElem?_cons_zero, List.getElem?_cons_succ, List.set_cons_zero, List.set_cons_succ, Bool.not_true, Bool.not_false, idx_0, idx_1, idx_2, idx_3, idx_4, idx_5, Int.reduceAdd, Int.reduceSub, Int.reduceMul, Int.reduceNeg, Int.reducePow, Int.reduceLT, Int.reduceLE, Int.reduceEq, Int.reduceNe, Int.reduceToNat, Int.reduceAbs, Nat.reduceAdd, Nat.reduceLT, Nat.reduceLeDiff, Nat.reducePow, Nat.reduceLT, List.length_cons, List.length_nil, true_implies, false_implies, not_true_eq_false, not_false_eq_true, and_true, true_and, and_self, or_true, true_or, decide_true, decide_false, exists_eq_left', Option.some.injEq, hl]
  subst hK
  refine zs_cons ?_
  simp only [↓X_lit, ↓X_loc, ↓X_bin, ↓negX_int, ↓X_neg, ↓X_not, ↓Y_not, ↓X_and, ↓Y_and, ↓X_or, ↓Y_or, ↓X_cmp, ↓X_cmp2, ↓X_ite, ↓Y_ite, ↓X_tup, ↓X_lst, ↓X_call, ↓X_meth, ↓X_sub, ↓X_comp, ↓Y_lit, ↓Y_loc, ↓Y_cmp, ↓Y_cmp2, ↓Y_call, ↓Y_sub, ↓XEs_nil, ↓XEs_cons, ↓XIfs_nil, ↓XIfs_cons, ↓Z_expr, ↓Z_assign, ↓Z_ret, ↓Z_retNone, ↓Z_ite, ↓Z_for, ↓Z_raise, ↓Z_pass, ↓Z_brk, ↓Z_cont, ↓Zs_nil, ↓sqX_next, ↓sqX_brk, ↓sqX_cont, ↓sqX_ret, ↓Zs_cons, ↓wkX_next, ↓wkX_cont, ↓wkX_brk, ↓wkX_ret, ↓fkX_next, ↓fkX_cont, ↓fkX_brk, ↓fkX_ret, ↓xb_one, ↓oKK_some, ↓oK_some, ↓tX_bool, ↓iX_t, ↓iX_f, ↓iX_d, ↓q_add, ↓q_sub, ↓q_mul, ↓q_div, ↓q_mod, ↓q_pow, ↓q_list, ↓q_eq, ↓q_ne, ↓q_eqs, ↓q_nes, ↓q_eqb, ↓q_lt, ↓q_le, ↓q_gt, ↓q_ge, ↓q_in, ↓q_inl, ↓q_nin, ↓q_is, ↓q_isnot, ↓q_stup, ↓q_sref, ↓q_sscr, ↓q_fn, ↓q_lentup, ↓q_lenref, ↓q_lenscr, ↓q_isi, ↓q_all, ↓q_max, ↓q_min, ↓q_int, ↓q_tuple, ↓q_listc, ↓q_append, ↓q_clear, ↓q_index, ↓q_pop, ↓q_slicet, ↓q_revt, ↓q_revl, ↓q_set, ↓q_repr, ↓q_eqo, ↓X_rev, ↓Z_set, ↓q_addt, ↓q_listt, ↓q_ninl, ↓u_tup, ↓u_ref, ↓u_range, ↓q_slice, ↓oi_none, ↓oi_int, ↓X_slice, ↓XO_none, ↓XO_some, ↓u_rev, ↓u_zip, ↓xb_two, ↓u_range2, ↓retV_ret, ↓retV_next, List.getElem?_cons_zero, List.getElem?_cons_succ, List.set_cons_zero, List.set_cons_succ, Bool.not_true, Bool.not_false, idx_0, idx_1, idx_2, idx_3, idx_4, idx_5, Int.reduceAdd, Int.reduceSub, Int.reduceMul, Int.reduceNeg, Int.reducePow, Int.reduceLT, Int.reduceLE, Int.reduceEq, Int.reduceNe, Int.reduceToNat, Int.reduceAbs, Nat.reduceAdd, Nat.reduceLT, Nat.reduceLeDiff, Nat.reducePow, Nat.reduceLT, List.length_cons, List.length_nil, true_implies, false_implies, not_true_eq_false, not_false_eq_true, and_true, true_and, and_self, or_true, true_or, decide_true, decide_false, exists_eq_left', Option.some.injEq, hl]
  refine q (.month (c % 62 - 31 + (if decide (0 ≤ c % 62 - 31) = true then 1 else 0)) (b % 24) s) H (List.prefix_refl _) rfl ⟨?_, ⟨by omega, by omega⟩, hs⟩
  by_cases h0 : 0 ≤ c % 62 - 31
  · rw [if_pos (decide_eq_true h0)]; omega
  · rw [if_neg (by simpa using h0)]; omega
noncomputable def O4 : Orc := ext "_law_wide_plain" C_wp O3
theorem O4_tm : O4 "_law_time" = C_tm := rfl

theorem comp_ap {Φ : Orc} {t3 : Option V} {day step c : Int} {r w : V} {QL : List V → Hp → Prop} {H : Hp} (hs : step = 1 + c / 11 % 3) : ∀ (ks : List Nat) (acc : List V), (∀ k ∈ ks, k < 1000) → QL (acc ++ (ks.map fun k => day + ((k : Nat) : Int) * step).map V.int) H →
    compGo (coTX Φ [] noX) (coEX Φ (.bin .Add (.loc 4) (.bin .Mult (.loc 5) (.bin .Add (.lit (.int 1)) (.bin .Mod (.bin .FloorDiv (.loc 0) (.lit (.int 11))) (.lit (.int 3)))))) noX) (fun _ => True) [5] [some (.int c), some r, some w, t3, some (.int day), none, none, none] (ks.map fun (k : Nat) => V.int (0 + (k : Int))) acc H QL
  | [], acc, _, q => by
    have q : QL acc H := by simpa using q
    exact q
  | k :: ks, acc, h, q => by
    rw [List.map_cons, coX_cons]
    have hk := h k (by simp)
    have hgo := comp_ap (Φ := Φ) (t3 := t3) (day := day) (c := c) (r := r) (w := w) (QL := QL) (H := H) hs ks (acc ++ [V.int (day + ((k : Nat) : Int) * step)]) (fun x hx => h x (List.mem_cons_of_mem _ hx)) (by simpa using q)
    have e0 : (0 : Int) + (k : Int) = (k : Int) := Int.zero_add _
    simp only [↓X_lit, ↓X_loc, ↓X_bin, ↓negX_int, ↓X_neg, ↓X_not, ↓Y_not, ↓X_and, ↓Y_and, ↓X_or, ↓Y_or, ↓X_cmp, ↓X_cmp2, ↓X_ite, ↓Y_ite, ↓X_tup, ↓X_lst, ↓X_call, ↓X_meth, ↓X_sub, ↓X_comp, ↓Y_lit, ↓Y_loc, ↓Y_cmp, ↓Y_cmp2, ↓Y_call, ↓Y_sub, ↓XEs_nil, ↓XEs_cons, ↓XIfs_nil, ↓XIfs_cons, ↓Z_expr, ↓Z_assign, ↓Z_ret, ↓Z_retNone, ↓Z_ite, ↓Z_for, ↓Z_raise, ↓Z_pass, ↓Z_brk, ↓Z_cont, ↓Zs_nil, ↓sqX_next, ↓sqX_brk, ↓sqX_cont, ↓sqX_ret, ↓Zs_cons, ↓wkX_next, ↓wkX_cont, ↓wkX_brk, ↓wkX_ret, ↓fkX_next, ↓fkX_cont, ↓fkX_brk, ↓fkX_ret, ↓xb_one, ↓oKK_some, ↓oK_some, ↓tX_bool, ↓iX_t, ↓iX_f, ↓iX_d, ↓q_add, ↓q_sub, ↓q_mul, ↓q_div, ↓q_mod, ↓q_pow, ↓q_list, ↓q_eq, ↓q_ne, ↓q_eqs, ↓q_nes, ↓q_eqb, ↓q_lt, ↓q_le, ↓q_gt, ↓q_ge, ↓q_in, ↓q_inl, ↓q_nin, ↓q_is, ↓q_isnot, ↓q_stup, ↓q_sref, ↓q_sscr, ↓q_fn, ↓q_lentup, ↓q_lenref, ↓q_lenscr, ↓q_isi, ↓q_all, ↓q_max, ↓q_min, ↓q_int, ↓q_tuple, ↓q_listc, ↓q_append, ↓q_clear, ↓q_index, ↓q_pop, ↓q_slicet, ↓q_revt, ↓q_revl, ↓q_set, ↓q_repr, ↓q_eqo, ↓X_rev, ↓Z_set, ↓q_addt, ↓q_listt, ↓q_ninl, ↓u_tup, ↓u_ref, ↓u_range, ↓q_slice, ↓oi_none, ↓oi_int, ↓X_slice, ↓XO_none, ↓XO_some, ↓u_rev, ↓u_zip, ↓xb_two, ↓u_range2, ↓retV_ret, ↓retV_next, List.getElem?_cons_zero, List.getElem?_cons_succ, List.set_cons_zero, List.set_cons_succ, Bool.not_true, Bool.not_false, idx_0, idx_1, idx_2, idx_3, idx_4, idx_5, Int.reduceAdd, Int.reduceSub, Int.reduceMul, Int.reduceNeg, Int.reducePow, Int.reduceLT, Int.reduceLE, Int.reduceEq, Int.reduceNe, Int.reduceToNat, Int.reduceAbs, Nat.reduceAdd, Nat.reduceLT, Nat.reduceLeDiff, Nat.reducePow, Nat.reduceLT, List.length_cons, List.length_nil, true_implies, false_implies, not_true_eq_false, not_false_eq_true, and_true, true_and, and_self, or_true, true_or, decide_true, decide_false, exists_eq_left', Option.some.injEq, ← hs, e0]
    exact ⟨.inl ⟨by omega, by omega⟩, hgo⟩
theorem rise_run {most day step : Int} (h0 : 1 ≤ step) : ∀ (n j : Nat) (a : Int), a + 1 ≤ day + (j : Int) * step → day + ((j + n : Nat) : Int) * step - step ≤ most → rise most a ((List.range' j n).map fun k => day + ((k : Nat) : Int) * step)
  | 0, _, _, _, _ => trivial
  | n + 1, j, a, h1, h2 => by
    rw [List.range'_succ, List.map_cons]
    have e : day + ((j + 1 : Nat) : Int) * step = day + (j : Int) * step + step := by
      rw [Int.natCast_add, Int.add_mul]; omega
    refine ⟨⟨h1, ?_⟩, rise_run h0 n (j + 1) _ (by rw [e]; omega) (by rw [show j + 1 + n = j + (n + 1) by omega]; exact h2)⟩
    have : ((j + 1 : Nat) : Int) * step ≤ ((j + (n + 1) : Nat) : Int) * step := Int.mul_le_mul_of_nonneg_right (by omega) (by omega)
    omega
noncomputable def C_wh : Ctr := fun vs H Q _ => ∃ c r, vs = [.int c, rv r] ∧ r.good ∧ ∀ r' H', H <+: H' → r'.good → r'.depth = r.depth + 1 → Q (rv r') H'
theorem w_wide_head : ∀ vs H Q X, C_wh vs H Q X → wpFn O4 f_l_wide_head vs H Q X := by
  rintro vs H Q X ⟨c, r, rfl, g, q⟩
  refine fn_of rfl ?_
  change wpSs O4 f_l_wide_head.body [some (.int c), some (rv r), none, none, none, none, none, none] H _ _
  have time : ∀ {u : Str} {mk : Int → Rl}, (u == "but") = false → (∀ h, tm h → (mk h).good ∧ (mk h).depth = r.depth + 1 ∧ rv (mk h) = .tup [.str u, .int h, rv r]) →
      wpSs O4 (f_l_wide_head.body.drop 1) [some (.int c), some (rv r), some (.str u), none, none, none, none, none] (H ++ [.list [.str "from", .str "until", .str "also", .str "but"]]) (fun fl _ H1 => Q (retV fl) H1) (fun x _ H1 => X x H1) := fun {u mk} hu hm => by
    refine zs_cons ?_
    generalize hK : sqX O4 (_ :: _) = K
    simp only [↓X_lit, ↓X_loc, ↓X_bin, ↓negX_int, ↓X_neg, ↓X_not, ↓Y_not, ↓X_and, ↓Y_and, ↓X_or, ↓Y_or, ↓X_cmp, ↓X_cmp2, ↓X_ite, ↓Y_ite, ↓X_tup, ↓X_lst, ↓X_call, ↓X_meth, ↓X_sub, ↓X_comp, ↓Y_lit, ↓Y_loc, ↓Y_cmp, ↓Y_cmp2, ↓Y_call, ↓Y_sub, ↓XEs_nil, ↓XEs_cons, ↓XIfs_nil, ↓XIfs_cons, ↓Z_expr, ↓Z_assign, ↓Z_ret, ↓Z_retNone, ↓Z_ite, ↓Z_for, ↓Z_raise, ↓Z_pass, ↓Z_brk, ↓Z_cont, ↓Zs_nil, ↓sqX_next, ↓sqX_brk, ↓sqX_cont, ↓sqX_ret, ↓Zs_cons, ↓wkX_next, ↓wkX_cont, ↓wkX_brk, ↓wkX_ret, ↓fkX_next, ↓fkX_cont, ↓fkX_brk, ↓fkX_ret, ↓xb_one, ↓oKK_some, ↓oK_some, ↓tX_bool, ↓iX_t, ↓iX_f, ↓iX_d, ↓q_add, ↓q_sub, ↓q_mul, ↓q_div, ↓q_mod, ↓q_pow, ↓q_list, ↓q_eq, ↓q_ne, ↓q_eqs, ↓q_nes, ↓q_eqb, ↓q_lt, ↓q_le, ↓q_gt, ↓q_ge, ↓q_in, ↓q_inl, ↓q_nin, ↓q_is, ↓q_isnot, ↓q_stup, ↓q_sref, ↓q_sscr, ↓q_fn, ↓q_lentup, ↓q_lenref, ↓q_lenscr, ↓q_isi, ↓q_all, ↓q_max, ↓q_min, ↓q_int, ↓q_tuple, ↓q_listc, ↓q_append, ↓q_clear, ↓q_index, ↓q_pop, ↓q_slicet, ↓q_revt, ↓q_revl, ↓q_set, ↓q_repr, ↓q_eqo, ↓X_rev, ↓Z_set, ↓q_addt, ↓q_listt, ↓q_ninl, ↓u_tup, ↓u_ref, ↓u_range, ↓q_slice, ↓oi_none, ↓oi_int, ↓X_slice, ↓XO_none, ↓XO_some, ↓u_rev, ↓u_zip, ↓xb_two, ↓u_range2, ↓retV_ret, ↓retV_next, List.getElem?_cons_zero, List.getElem?_cons_succ, List.set_cons_zero, List.set_cons_succ, Bool.not_true, Bool.not_false, idx_0, idx_1, idx_2, idx_3, idx_4, idx_5, Int.reduceAdd, Int.reduceSub, Int.reduceMul, Int.reduceNeg, Int.reducePow, Int.reduceLT, Int.reduceLE, Int.reduceEq, Int.reduceNe, Int.reduceToNat, Int.reduceAbs, Nat.reduceAdd, Nat.reduceLT, Nat.reduceLeDiff, Nat.reducePow, Nat.reduceLT, List.length_cons, List.length_nil, true_implies, false_implies, not_true_eq_false, not_false_eq_true, and_true, true_and, and_self, or_true, true_or, decide_true, decide_false, exists_eq_left', Option.some.injEq, hu, ↓O4_tm]
    subst hK
    refine ⟨_, rfl, fun h H' hp hh => ?_⟩
    obtain ⟨h1, h2, h3⟩ := hm h hh
    simp only [↓X_lit, ↓X_loc, ↓X_bin, ↓negX_int, ↓X_neg, ↓X_not, ↓Y_not, ↓X_and, ↓Y_and, ↓X_or, ↓Y_or, ↓X_cmp, ↓X_cmp2, ↓X_ite, ↓Y_ite, ↓X_tup, ↓X_lst, ↓X_call, ↓X_meth, ↓X_sub, ↓X_comp, ↓Y_lit, ↓Y_loc, ↓Y_cmp, ↓Y_cmp2, ↓Y_call, ↓Y_sub, ↓XEs_nil, ↓XEs_cons, ↓XIfs_nil, ↓XIfs_cons, ↓Z_expr, ↓Z_assign, ↓Z_ret, ↓Z_retNone, ↓Z_ite, ↓Z_for, ↓Z_raise, ↓Z_pass, ↓Z_brk, ↓Z_cont, ↓Zs_nil, ↓sqX_next, ↓sqX_brk, ↓sqX_cont, ↓sqX_ret, ↓Zs_cons, ↓wkX_next, ↓wkX_cont, ↓wkX_brk, ↓wkX_ret, ↓fkX_next, ↓fkX_cont, ↓fkX_brk, ↓fkX_ret, ↓xb_one, ↓oKK_some, ↓oK_some, ↓tX_bool, ↓iX_t, ↓iX_f, ↓iX_d, ↓q_add, ↓q_sub, ↓q_mul, ↓q_div, ↓q_mod, ↓q_pow, ↓q_list, ↓q_eq, ↓q_ne, ↓q_eqs, ↓q_nes, ↓q_eqb, ↓q_lt, ↓q_le, ↓q_gt, ↓q_ge, ↓q_in, ↓q_inl, ↓q_nin, ↓q_is, ↓q_isnot, ↓q_stup, ↓q_sref, ↓q_sscr, ↓q_fn, ↓q_lentup, ↓q_lenref, ↓q_lenscr, ↓q_isi, ↓q_all, ↓q_max, ↓q_min, ↓q_int, ↓q_tuple, ↓q_listc, ↓q_append, ↓q_clear, ↓q_index, ↓q_pop, ↓q_slicet, ↓q_revt, ↓q_revl, ↓q_set, ↓q_repr, ↓q_eqo, ↓X_rev, ↓Z_set, ↓q_addt, ↓q_listt, ↓q_ninl, ↓u_tup, ↓u_ref, ↓u_range, ↓q_slice, ↓oi_none, ↓oi_int, ↓X_slice, ↓XO_none, ↓XO_some, ↓u_rev, ↓u_zip, ↓xb_two, ↓u_range2, ↓retV_ret, ↓retV_next, List.getElem?_cons_zero, List.getElem?_cons_succ, List.set_cons_zero, List.set_cons_succ, Bool.not_true, Bool.not_false, idx_0, idx_1, idx_2, idx_3, idx_4, idx_5, Int.reduceAdd, Int.reduceSub, Int.reduceMul, Int.reduceNeg, Int.reducePow, Int.reduceLT, Int.reduceLE, Int.reduceEq, Int.reduceNe, Int.reduceToNat, Int.reduceAbs, Nat.reduceAdd, Nat.reduceLT, Nat.reduceLeDiff, Nat.reducePow, Nat.reduceLT, List.length_cons, List.length_nil, true_implies, false_implies, not_true_eq_false, not_false_eq_true, and_true, true_and, and_self, or_true, true_or, decide_true, decide_false, exists_eq_left', Option.some.injEq]
    rw [← h3]
    exact q _ H' (pre_new.trans hp) h1 h2
  refine zs_cons ?_
  generalize hK : sqX O4 (_ :: _) = K
  have h4 : c % 4 = 0 ∨ c % 4 = 1 ∨ c % 4 = 2 ∨ c % 4 = 3 := by omega
  rcases h4 with e | e | e | e
  · simp only [↓X_lit, ↓X_loc, ↓X_bin, ↓negX_int, ↓X_neg, ↓X_not, ↓Y_not, ↓X_and, ↓Y_and, ↓X_or, ↓Y_or, ↓X_cmp, ↓X_cmp2, ↓X_ite, ↓Y_ite, ↓X_tup, ↓X_lst, ↓X_call, ↓X_meth, ↓X_sub, ↓X_comp, ↓Y_lit, ↓Y_loc, ↓Y_cmp, ↓Y_cmp2, ↓Y_call, ↓Y_sub, ↓XEs_nil, ↓XEs_cons, ↓XIfs_nil, ↓XIfs_cons, ↓Z_expr, ↓Z_assign, ↓Z_ret, ↓Z_retNone, ↓Z_ite, ↓Z_for, ↓Z_raise, ↓Z_pass, ↓Z_brk, ↓Z_cont, ↓Zs_nil, ↓sqX_next, ↓sqX_brk, ↓sqX_cont, ↓sqX_ret, ↓Zs_cons, ↓wkX_next, ↓wkX_cont, ↓wkX_brk, ↓wkX_ret, ↓fkX_next, ↓fkX_cont, ↓fkX_brk, ↓fkX_ret, ↓xb_one, ↓oKK_some, ↓oK_some, ↓tX_bool, ↓iX_t, ↓iX_f, ↓iX_d, ↓q_add, ↓q_sub, ↓q_mul, ↓q_div, ↓q_mod, ↓q_pow, ↓q_list, ↓q_eq, ↓q_ne, ↓q_eqs, ↓q_nes, ↓q_eqb, ↓q_lt, ↓q_le, ↓q_gt, ↓q_ge, ↓q_in, ↓q_inl, ↓q_nin, ↓q_is, ↓q_isnot, ↓q_stup, ↓q_sref, ↓q_sscr, ↓q_fn, ↓q_lentup, ↓q_lenref, ↓q_lenscr, ↓q_isi, ↓q_all, ↓q_max, ↓q_min, ↓q_int, ↓q_tuple, ↓q_listc, ↓q_append, ↓q_clear, ↓q_index, ↓q_pop, ↓q_slicet, ↓q_revt, ↓q_revl, ↓q_set, ↓q_repr, ↓q_eqo, ↓X_rev, ↓Z_set, ↓q_addt, ↓q_listt, ↓q_ninl, ↓u_tup, ↓u_ref, ↓u_range, ↓q_slice, ↓oi_none, ↓oi_int, ↓X_slice, ↓XO_none, ↓XO_some, ↓u_rev, ↓u_zip, ↓xb_two, ↓u_range2, ↓retV_ret, ↓retV_next, List.getElem?_cons_zero, List.getElem?_cons_succ, List.set_cons_zero, List.set_cons_succ, Bool.not_true, Bool.not_false, idx_0, idx_1, idx_2, idx_3, idx_4, idx_5, Int.reduceAdd, Int.reduceSub, Int.reduceMul, Int.reduceNeg, Int.reducePow, Int.reduceLT, Int.reduceLE, Int.reduceEq, Int.reduceNe, Int.reduceToNat, Int.reduceAbs, Nat.reduceAdd, Nat.reduceLT, Nat.reduceLeDiff, Nat.reducePow, Nat.reduceLT, List.length_cons, List.length_nil, true_implies, false_implies, not_true_eq_false, not_false_eq_true, and_true, true_and, and_self, or_true, true_or, decide_true, decide_false, exists_eq_left', Option.some.injEq, listAt_new, e]
    subst hK
    exact time (mk := fun h => .frm h r) sw_from_but fun h hh => ⟨⟨hh, g⟩, rfl, rfl⟩
  · simp only [↓X_lit, ↓X_loc, ↓X_bin, ↓negX_int, ↓X_neg, ↓X_not, ↓Y_not, ↓X_and, ↓Y_and, ↓X_or, ↓Y_or, ↓X_cmp, ↓X_cmp2, ↓X_ite, ↓Y_ite, ↓X_tup, ↓X_lst, ↓X_call, ↓X_meth, ↓X_sub, ↓X_comp, ↓Y_lit, ↓Y_loc, ↓Y_cmp, ↓Y_cmp2, ↓Y_call, ↓Y_sub, ↓XEs_nil, ↓XEs_cons, ↓XIfs_nil, ↓XIfs_cons, ↓Z_expr, ↓Z_assign, ↓Z_ret, ↓Z_retNone, ↓Z_ite, ↓Z_for, ↓Z_raise, ↓Z_pass, ↓Z_brk, ↓Z_cont, ↓Zs_nil, ↓sqX_next, ↓sqX_brk, ↓sqX_cont, ↓sqX_ret, ↓Zs_cons, ↓wkX_next, ↓wkX_cont, ↓wkX_brk, ↓wkX_ret, ↓fkX_next, ↓fkX_cont, ↓fkX_brk, ↓fkX_ret, ↓xb_one, ↓oKK_some, ↓oK_some, ↓tX_bool, ↓iX_t, ↓iX_f, ↓iX_d, ↓q_add, ↓q_sub, ↓q_mul, ↓q_div, ↓q_mod, ↓q_pow, ↓q_list, ↓q_eq, ↓q_ne, ↓q_eqs, ↓q_nes, ↓q_eqb, ↓q_lt, ↓q_le, ↓q_gt, ↓q_ge, ↓q_in, ↓q_inl, ↓q_nin, ↓q_is, ↓q_isnot, ↓q_stup, ↓q_sref, ↓q_sscr, ↓q_fn, ↓q_lentup, ↓q_lenref, ↓q_lenscr, ↓q_isi, ↓q_all, ↓q_max, ↓q_min, ↓q_int, ↓q_tuple, ↓q_listc, ↓q_append, ↓q_clear, ↓q_index, ↓q_pop, ↓q_slicet, ↓q_revt, ↓q_revl, ↓q_set, ↓q_repr, ↓q_eqo, ↓X_rev, ↓Z_set, ↓q_addt, ↓q_listt, ↓q_ninl, ↓u_tup, ↓u_ref, ↓u_range, ↓q_slice, ↓oi_none, ↓oi_int, ↓X_slice, ↓XO_none, ↓XO_some, ↓u_rev, ↓u_zip, ↓xb_two, ↓u_range2, ↓retV_ret, ↓retV_next, List.getElem?_cons_zero, List.getElem?_cons_succ, List.set_cons_zero, List.set_cons_succ, Bool.not_true, Bool.not_false, idx_0, idx_1, idx_2, idx_3, idx_4, idx_5, Int.reduceAdd, Int.reduceSub, Int.reduceMul, Int.reduceNeg, Int.reducePow, Int.reduceLT, Int.reduceLE, Int.reduceEq, Int.reduceNe, Int.reduceToNat, Int.reduceAbs, Nat.reduceAdd, Nat.reduceLT, Nat.reduceLeDiff, Nat.reducePow, Nat.reduceLT, List.length_cons, List.length_nil, true_implies, false_implies, not_true_eq_false, not_false_eq_true, and_true, true_and, and_self, or_true, true_or, decide_true, decide_false, exists_eq_left', Option.some.injEq, listAt_new, e]
    subst hK
    exact time (mk := fun h => .til h r) sw_until_but fun h hh => ⟨⟨hh, g⟩, rfl, rfl⟩
  · simp only [↓X_lit, ↓X_loc, ↓X_bin, ↓negX_int, ↓X_neg, ↓X_not, ↓Y_not, ↓X_and, ↓Y_and, ↓X_or, ↓Y_or, ↓X_cmp, ↓X_cmp2, ↓X_ite, ↓Y_ite, ↓X_tup, ↓X_lst, ↓X_call, ↓X_meth, ↓X_sub, ↓X_comp, ↓Y_lit, ↓Y_loc, ↓Y_cmp, ↓Y_cmp2, ↓Y_call, ↓Y_sub, ↓XEs_nil, ↓XEs_cons, ↓XIfs_nil, ↓XIfs_cons, ↓Z_expr, ↓Z_assign, ↓Z_ret, ↓Z_retNone, ↓Z_ite, ↓Z_for, ↓Z_raise, ↓Z_pass, ↓Z_brk, ↓Z_cont, ↓Zs_nil, ↓sqX_next, ↓sqX_brk, ↓sqX_cont, ↓sqX_ret, ↓Zs_cons, ↓wkX_next, ↓wkX_cont, ↓wkX_brk, ↓wkX_ret, ↓fkX_next, ↓fkX_cont, ↓fkX_brk, ↓fkX_ret, ↓xb_one, ↓oKK_some, ↓oK_some, ↓tX_bool, ↓iX_t, ↓iX_f, ↓iX_d, ↓q_add, ↓q_sub, ↓q_mul, ↓q_div, ↓q_mod, ↓q_pow, ↓q_list, ↓q_eq, ↓q_ne, ↓q_eqs, ↓q_nes, ↓q_eqb, ↓q_lt, ↓q_le, ↓q_gt, ↓q_ge, ↓q_in, ↓q_inl, ↓q_nin, ↓q_is, ↓q_isnot, ↓q_stup, ↓q_sref, ↓q_sscr, ↓q_fn, ↓q_lentup, ↓q_lenref, ↓q_lenscr, ↓q_isi, ↓q_all, ↓q_max, ↓q_min, ↓q_int, ↓q_tuple, ↓q_listc, ↓q_append, ↓q_clear, ↓q_index, ↓q_pop, ↓q_slicet, ↓q_revt, ↓q_revl, ↓q_set, ↓q_repr, ↓q_eqo, ↓X_rev, ↓Z_set, ↓q_addt, ↓q_listt, ↓q_ninl, ↓u_tup, ↓u_ref, ↓u_range, ↓q_slice, ↓oi_none, ↓oi_int, ↓X_slice, ↓XO_none, ↓XO_some, ↓u_rev, ↓u_zip, ↓xb_two, ↓u_range2, ↓retV_ret, ↓retV_next, List.getElem?_cons_zero, List.getElem?_cons_succ, List.set_cons_zero, List.set_cons_succ, Bool.not_true, Bool.not_false, idx_0, idx_1, idx_2, idx_3, idx_4, idx_5, Int.reduceAdd, Int.reduceSub, Int.reduceMul, Int.reduceNeg, Int.reducePow, Int.reduceLT, Int.reduceLE, Int.reduceEq, Int.reduceNe, Int.reduceToNat, Int.reduceAbs, Nat.reduceAdd, Nat.reduceLT, Nat.reduceLeDiff, Nat.reducePow, Nat.reduceLT, List.length_cons, List.length_nil, true_implies, false_implies, not_true_eq_false, not_false_eq_true, and_true, true_and, and_self, or_true, true_or, decide_true, decide_false, exists_eq_left', Option.some.injEq, listAt_new, e]
    subst hK
    exact time (mk := fun h => .als h r) sw_also_but fun h hh => ⟨⟨hh, g⟩, rfl, rfl⟩
  · simp only [↓X_lit, ↓X_loc, ↓X_bin, ↓negX_int, ↓X_neg, ↓X_not, ↓Y_not, ↓X_and, ↓Y_and, ↓X_or, ↓Y_or, ↓X_cmp, ↓X_cmp2, ↓X_ite, ↓Y_ite, ↓X_tup, ↓X_lst, ↓X_call, ↓X_meth, ↓X_sub, ↓X_comp, ↓Y_lit, ↓Y_loc, ↓Y_cmp, ↓Y_cmp2, ↓Y_call, ↓Y_sub, ↓XEs_nil, ↓XEs_cons, ↓XIfs_nil, ↓XIfs_cons, ↓Z_expr, ↓Z_assign, ↓Z_ret, ↓Z_retNone, ↓Z_ite, ↓Z_for, ↓Z_raise, ↓Z_pass, ↓Z_brk, ↓Z_cont, ↓Zs_nil, ↓sqX_next, ↓sqX_brk, ↓sqX_cont, ↓sqX_ret, ↓Zs_cons, ↓wkX_next, ↓wkX_cont, ↓wkX_brk, ↓wkX_ret, ↓fkX_next, ↓fkX_cont, ↓fkX_brk, ↓fkX_ret, ↓xb_one, ↓oKK_some, ↓oK_some, ↓tX_bool, ↓iX_t, ↓iX_f, ↓iX_d, ↓q_add, ↓q_sub, ↓q_mul, ↓q_div, ↓q_mod, ↓q_pow, ↓q_list, ↓q_eq, ↓q_ne, ↓q_eqs, ↓q_nes, ↓q_eqb, ↓q_lt, ↓q_le, ↓q_gt, ↓q_ge, ↓q_in, ↓q_inl, ↓q_nin, ↓q_is, ↓q_isnot, ↓q_stup, ↓q_sref, ↓q_sscr, ↓q_fn, ↓q_lentup, ↓q_lenref, ↓q_lenscr, ↓q_isi, ↓q_all, ↓q_max, ↓q_min, ↓q_int, ↓q_tuple, ↓q_listc, ↓q_append, ↓q_clear, ↓q_index, ↓q_pop, ↓q_slicet, ↓q_revt, ↓q_revl, ↓q_set, ↓q_repr, ↓q_eqo, ↓X_rev, ↓Z_set, ↓q_addt, ↓q_listt, ↓q_ninl, ↓u_tup, ↓u_ref, ↓u_range, ↓q_slice, ↓oi_none, ↓oi_int, ↓X_slice, ↓XO_none, ↓XO_some, ↓u_rev, ↓u_zip, ↓xb_two, ↓u_range2, ↓retV_ret, ↓retV_next, List.getElem?_cons_zero, List.getElem?_cons_succ, List.set_cons_zero, List.set_cons_succ, Bool.not_true, Bool.not_false, idx_0, idx_1, idx_2, idx_3, idx_4, idx_5, Int.reduceAdd, Int.reduceSub, Int.reduceMul, Int.reduceNeg, Int.reducePow, Int.reduceLT, Int.reduceLE, Int.reduceEq, Int.reduceNe, Int.reduceToNat, Int.reduceAbs, Nat.reduceAdd, Nat.reduceLT, Nat.reduceLeDiff, Nat.reducePow, Nat.reduceLT, List.length_cons, List.length_nil, true_implies, false_implies, not_true_eq_false, not_false_eq_true, and_true, true_and, and_self, or_true, true_or, decide_true, decide_false, exists_eq_left', Option.some.injEq, listAt_new, e]
    subst hK
    refine zs_cons ?_
    generalize hK : sqX O4 (_ :: _) = K
    simp only [↓X_lit, ↓X_loc, ↓X_bin, ↓negX_int, ↓X_neg, ↓X_not, ↓Y_not, ↓X_and, ↓Y_and, ↓X_or, ↓Y_or, ↓X_cmp, ↓X_cmp2, ↓X_ite, ↓Y_ite, ↓X_tup, ↓X_lst, ↓X_call, ↓X_meth, ↓X_sub, ↓X_comp, ↓Y_lit, ↓Y_loc, ↓Y_cmp, ↓Y_cmp2, ↓Y_call, ↓Y_sub, ↓XEs_nil, ↓XEs_cons, ↓XIfs_nil, ↓XIfs_cons, ↓Z_expr, ↓Z_assign, ↓Z_ret, ↓Z_retNone, ↓Z_ite, ↓Z_for, ↓Z_raise, ↓Z_pass, ↓Z_brk, ↓Z_cont, ↓Zs_nil, ↓sqX_next, ↓sqX_brk, ↓sqX_cont, ↓sqX_ret, ↓Zs_cons, ↓wkX_next, ↓wkX_cont, ↓wkX_brk, ↓wkX_ret, ↓fkX_next, ↓fkX_cont, ↓fkX_brk, ↓fkX_ret, ↓xb_one, ↓oKK_some, ↓oK_some, ↓tX_bool, ↓iX_t, ↓iX_f, ↓iX_d, ↓q_add, ↓q_sub, ↓q_mul, ↓q_div, ↓q_mod, ↓q_pow, ↓q_list, ↓q_eq, ↓q_ne, ↓q_eqs, ↓q_nes, ↓q_eqb, ↓q_lt, ↓q_le, ↓q_gt, ↓q_ge, ↓q_in, ↓q_inl, ↓q_nin, ↓q_is, ↓q_isnot, ↓q_stup, ↓q_sref, ↓q_sscr, ↓q_fn, ↓q_lentup, ↓q_lenref, ↓q_lenscr, ↓q_isi, ↓q_all, ↓q_max, ↓q_min, ↓q_int, ↓q_tuple, ↓q_listc, ↓q_append, ↓q_clear, ↓q_index, ↓q_pop, ↓q_slicet, ↓q_revt, ↓q_revl, ↓q_set, ↓q_repr, ↓q_eqo, ↓X_rev, ↓Z_set, ↓q_addt, ↓q_listt, ↓q_ninl, ↓u_tup, ↓u_ref, ↓u_range, ↓q_slice, ↓oi_none, ↓oi_int, ↓X_slice, ↓XO_none, ↓XO_some, ↓u_rev, ↓u_zip, ↓xb_two, ↓u_range2, ↓retV_ret, ↓retV_next, List.getElem?_cons_zero, List.getElem?_cons_succ, List.set_cons_zero, List.set_cons_succ, Bool.not_true, Bool.not_false, idx_0, idx_1, idx_2, idx_3, idx_4, idx_5, Int.reduceAdd, Int.reduceSub, Int.reduceMul, Int.reduceNeg, Int.reducePow, Int.reduceLT, Int.reduceLE, Int.reduceEq, Int.reduceNe, Int.reduceToNat, Int.reduceAbs, Nat.reduceAdd, Nat.reduceLT, Nat.reduceLeDiff, Nat.reducePow, Nat.reduceLT, List.length_cons, List.length_nil, true_implies, false_implies, not_true_eq_false, not_false_eq_true, and_true, true_and, and_self, or_true, true_or, decide_true, decide_false, exists_eq_left', Option.some.injEq, sw_but_but]
    subst hK
    refine zs_cons ?_
    generalize hK : sqX O4 (_ :: _) = K
    simp only [↓X_lit, ↓X_loc, ↓X_bin, ↓negX_int, ↓X_neg, ↓X_not, ↓Y_not, ↓X_and, ↓Y_and, ↓X_or, ↓Y_or, ↓X_cmp, ↓X_cmp2, ↓X_ite, ↓Y_ite, ↓X_tup, ↓X_lst, ↓X_call, ↓X_meth, ↓X_sub, ↓X_comp, ↓Y_lit, ↓Y_loc, ↓Y_cmp, ↓Y_cmp2, ↓Y_call, ↓Y_sub, ↓XEs_nil, ↓XEs_cons, ↓XIfs_nil, ↓XIfs_cons, ↓Z_expr, ↓Z_assign, ↓Z_ret, ↓Z_retNone, ↓Z_ite, ↓Z_for, ↓Z_raise, ↓Z_pass, ↓Z_brk, ↓Z_cont, ↓Zs_nil, ↓sqX_next, ↓sqX_brk, ↓sqX_cont, ↓sqX_ret, ↓Zs_cons, ↓wkX_next, ↓wkX_cont, ↓wkX_brk, ↓wkX_ret, ↓fkX_next, ↓fkX_cont, ↓fkX_brk, ↓fkX_ret, ↓xb_one, ↓oKK_some, ↓oK_some, ↓tX_bool, ↓iX_t, ↓iX_f, ↓iX_d, ↓q_add, ↓q_sub, ↓q_mul, ↓q_div, ↓q_mod, ↓q_pow, ↓q_list, ↓q_eq, ↓q_ne, ↓q_eqs, ↓q_nes, ↓q_eqb, ↓q_lt, ↓q_le, ↓q_gt, ↓q_ge, ↓q_in, ↓q_inl, ↓q_nin, ↓q_is, ↓q_isnot, ↓q_stup, ↓q_sref, ↓q_sscr, ↓q_fn, ↓q_lentup, ↓q_lenref, ↓q_lenscr, ↓q_isi, ↓q_all, ↓q_max, ↓q_min, ↓q_int, ↓q_tuple, ↓q_listc, ↓q_append, ↓q_clear, ↓q_index, ↓q_pop, ↓q_slicet, ↓q_revt, ↓q_revl, ↓q_set, ↓q_repr, ↓q_eqo, ↓X_rev, ↓Z_set, ↓q_addt, ↓q_listt, ↓q_ninl, ↓u_tup, ↓u_ref, ↓u_range, ↓q_slice, ↓oi_none, ↓oi_int, ↓X_slice, ↓XO_none, ↓XO_some, ↓u_rev, ↓u_zip, ↓xb_two, ↓u_range2, ↓retV_ret, ↓retV_next, List.getElem?_cons_zero, List.getElem?_cons_succ, List.set_cons_zero, List.set_cons_succ, Bool.not_true, Bool.not_false, idx_0, idx_1, idx_2, idx_3, idx_4, idx_5, Int.reduceAdd, Int.reduceSub, Int.reduceMul, Int.reduceNeg, Int.reducePow, Int.reduceLT, Int.reduceLE, Int.reduceEq, Int.reduceNe, Int.reduceToNat, Int.reduceAbs, Nat.reduceAdd, Nat.reduceLT, Nat.reduceLeDiff, Nat.reducePow, Nat.reduceLT, List.length_cons, List.length_nil, true_implies, false_implies, not_true_eq_false, not_false_eq_true, and_true, true_and, and_self, or_true, true_or, decide_true, decide_false, exists_eq_left', Option.some.injEq]
    subst hK
    have hm1 : 1 ≤ 1 + c / 4 % 20 := by omega
    have hm2 : 1 + c / 4 % 20 ≤ 20 := by omega
    generalize 1 + c / 4 % 20 = many at hm1 hm2 ⊢
    refine zs_cons ?_
    generalize hK : sqX O4 (_ :: _) = K
    obtain ⟨day, hday, hd1, hd2⟩ := at3 (P := fun d => 0 ≤ d ∧ d ≤ 100000000000 - many * 3) (a := c / 80 % 100) (b := c / 80 % 99999999800) (c := 100000000000 - many * 3) (k := c / 7 % 3) (by omega) (by omega) (by omega) (by omega) (by omega)
    have hmul : (-(2 ^ 64) < many ∧ many < 2 ^ 64) ∨ (-(2 ^ 64) < (3 : Int) ∧ (3 : Int) < 2 ^ 64) := .inr (by decide)
    simp only [↓X_lit, ↓X_loc, ↓X_bin, ↓negX_int, ↓X_neg, ↓X_not, ↓Y_not, ↓X_and, ↓Y_and, ↓X_or, ↓Y_or, ↓X_cmp, ↓X_cmp2, ↓X_ite, ↓Y_ite, ↓X_tup, ↓X_lst, ↓X_call, ↓X_meth, ↓X_sub, ↓X_comp, ↓Y_lit, ↓Y_loc, ↓Y_cmp, ↓Y_cmp2, ↓Y_call, ↓Y_sub, ↓XEs_nil, ↓XEs_cons, ↓XIfs_nil, ↓XIfs_cons, ↓Z_expr, ↓Z_assign, ↓Z_ret, ↓Z_retNone, ↓Z_ite, ↓Z_for, ↓Z_raise, ↓Z_pass, ↓Z_brk, ↓Z_cont, ↓Zs_nil, ↓sqX_next, ↓sqX_brk, ↓sqX_cont, ↓sqX_ret, ↓Zs_cons, ↓wkX_next, ↓wkX_cont, ↓wkX_brk, ↓wkX_ret, ↓fkX_next, ↓fkX_cont, ↓fkX_brk, ↓fkX_ret, ↓xb_one, ↓oKK_some, ↓oK_some, ↓tX_bool, ↓iX_t, ↓iX_f, ↓iX_d, ↓q_add, ↓q_sub, ↓q_mul, ↓q_div, ↓q_mod, ↓q_pow, ↓q_list, ↓q_eq, ↓q_ne, ↓q_eqs, ↓q_nes, ↓q_eqb, ↓q_lt, ↓q_le, ↓q_gt, ↓q_ge, ↓q_in, ↓q_inl, ↓q_nin, ↓q_is, ↓q_isnot, ↓q_stup, ↓q_sref, ↓q_sscr, ↓q_fn, ↓q_lentup, ↓q_lenref, ↓q_lenscr, ↓q_isi, ↓q_all, ↓q_max, ↓q_min, ↓q_int, ↓q_tuple, ↓q_listc, ↓q_append, ↓q_clear, ↓q_index, ↓q_pop, ↓q_slicet, ↓q_revt, ↓q_revl, ↓q_set, ↓q_repr, ↓q_eqo, ↓X_rev, ↓Z_set, ↓q_addt, ↓q_listt, ↓q_ninl, ↓u_tup, ↓u_ref, ↓u_range, ↓q_slice, ↓oi_none, ↓oi_int, ↓X_slice, ↓XO_none, ↓XO_some, ↓u_rev, ↓u_zip, ↓xb_two, ↓u_range2, ↓retV_ret, ↓retV_next, List.getElem?_cons_zero, List.getElem?_cons_succ, List.set_cons_zero, List.set_cons_succ, Bool.not_true, Bool.not_false, idx_0, idx_1, idx_2, idx_3, idx_4, idx_5, Int.reduceAdd, Int.reduceSub, Int.reduceMul, Int.reduceNeg, Int.reducePow, Int.reduceLT, Int.reduceLE, Int.reduceEq, Int.reduceNe, Int.reduceToNat, Int.reduceAbs, Nat.reduceAdd, Nat.reduceLT, Nat.reduceLeDiff, Nat.reducePow, Nat.reduceLT, List.length_cons, List.length_nil, true_implies, false_implies, not_true_eq_false, not_false_eq_true, and_true, true_and, and_self, or_true, true_or, decide_true, decide_false, exists_eq_left', Option.some.injEq, listAt_new, hday]
    subst hK
    refine zs_cons ?_
    obtain ⟨mn, rfl⟩ := Int.eq_ofNat_of_zero_le (show 0 ≤ many by omega)
    have hl20 : mn ≤ 20 := by omega
    simp only [↓X_lit, ↓X_loc, ↓X_bin, ↓negX_int, ↓X_neg, ↓X_not, ↓Y_not, ↓X_and, ↓Y_and, ↓X_or, ↓Y_or, ↓X_cmp, ↓X_cmp2, ↓X_ite, ↓Y_ite, ↓X_tup, ↓X_lst, ↓X_call, ↓X_meth, ↓X_sub, ↓X_comp, ↓Y_lit, ↓Y_loc, ↓Y_cmp, ↓Y_cmp2, ↓Y_call, ↓Y_sub, ↓XEs_nil, ↓XEs_cons, ↓XIfs_nil, ↓XIfs_cons, ↓Z_expr, ↓Z_assign, ↓Z_ret, ↓Z_retNone, ↓Z_ite, ↓Z_for, ↓Z_raise, ↓Z_pass, ↓Z_brk, ↓Z_cont, ↓Zs_nil, ↓sqX_next, ↓sqX_brk, ↓sqX_cont, ↓sqX_ret, ↓Zs_cons, ↓wkX_next, ↓wkX_cont, ↓wkX_brk, ↓wkX_ret, ↓fkX_next, ↓fkX_cont, ↓fkX_brk, ↓fkX_ret, ↓xb_one, ↓oKK_some, ↓oK_some, ↓tX_bool, ↓iX_t, ↓iX_f, ↓iX_d, ↓q_add, ↓q_sub, ↓q_mul, ↓q_div, ↓q_mod, ↓q_pow, ↓q_eq, ↓q_ne, ↓q_eqs, ↓q_nes, ↓q_eqb, ↓q_lt, ↓q_le, ↓q_gt, ↓q_ge, ↓q_in, ↓q_inl, ↓q_nin, ↓q_is, ↓q_isnot, ↓q_stup, ↓q_sref, ↓q_sscr, ↓q_fn, ↓q_lentup, ↓q_lenref, ↓q_lenscr, ↓q_isi, ↓q_all, ↓q_max, ↓q_min, ↓q_int, ↓q_tuple, ↓q_listc, ↓q_append, ↓q_clear, ↓q_index, ↓q_pop, ↓q_slicet, ↓q_revt, ↓q_revl, ↓q_set, ↓q_repr, ↓q_eqo, ↓X_rev, ↓Z_set, ↓q_addt, ↓q_listt, ↓q_ninl, ↓u_tup, ↓u_ref, ↓u_range, ↓q_slice, ↓oi_none, ↓oi_int, ↓X_slice, ↓XO_none, ↓XO_some, ↓u_rev, ↓u_zip, ↓xb_two, ↓u_range2, ↓retV_ret, ↓retV_next, List.getElem?_cons_zero, List.getElem?_cons_succ, List.set_cons_zero, List.set_cons_succ, Bool.not_true, Bool.not_false, idx_0, idx_1, idx_2, idx_3, idx_4, idx_5, Int.reduceAdd, Int.reduceSub, Int.reduceMul, Int.reduceNeg, Int.reducePow, Int.reduceLT, Int.reduceLE, Int.reduceEq, Int.reduceNe, Int.reduceToNat, Int.reduceAbs, Nat.reduceAdd, Nat.reduceLT, Nat.reduceLeDiff, Nat.reducePow, Nat.reduceLT, List.length_cons, List.length_nil, true_implies, false_implies, not_true_eq_false, not_false_eq_true, and_true, true_and, and_self, or_true, true_or, decide_true, decide_false, exists_eq_left', Option.some.injEq]
    refine ⟨⟨by omega, by omega⟩, ?_⟩
    have er : rangeL 0 ((mn : Nat) : Int) = (List.range' 0 mn).map fun (k : Nat) => V.int (0 + (k : Int)) := by
      unfold rangeL
      rw [List.range_eq_range']
      have : ((mn : Int) - 0).toNat = mn := by omega
      rw [this]
    rw [er]
    refine comp_ap rfl _ [] (fun k hk => by have := List.mem_range'_1.mp hk; omega) ?_
    rw [List.nil_append]
    have hlen : (((List.range' 0 mn).map fun k => day + ((k : Nat) : Int) * (1 + c / 11 % 3)).map V.int).length = mn := by simp
    refine ⟨by rw [hlen]; omega, ?_⟩
    simp only [↓X_lit, ↓X_loc, ↓X_bin, ↓negX_int, ↓X_neg, ↓X_not, ↓Y_not, ↓X_and, ↓Y_and, ↓X_or, ↓Y_or, ↓X_cmp, ↓X_cmp2, ↓X_ite, ↓Y_ite, ↓X_tup, ↓X_lst, ↓X_call, ↓X_meth, ↓X_sub, ↓X_comp, ↓Y_lit, ↓Y_loc, ↓Y_cmp, ↓Y_cmp2, ↓Y_call, ↓Y_sub, ↓XEs_nil, ↓XEs_cons, ↓XIfs_nil, ↓XIfs_cons, ↓Z_expr, ↓Z_assign, ↓Z_ret, ↓Z_retNone, ↓Z_ite, ↓Z_for, ↓Z_raise, ↓Z_pass, ↓Z_brk, ↓Z_cont, ↓Zs_nil, ↓sqX_next, ↓sqX_brk, ↓sqX_cont, ↓sqX_ret, ↓Zs_cons, ↓wkX_next, ↓wkX_cont, ↓wkX_brk, ↓wkX_ret, ↓fkX_next, ↓fkX_cont, ↓fkX_brk, ↓fkX_ret, ↓xb_one, ↓oKK_some, ↓oK_some, ↓tX_bool, ↓iX_t, ↓iX_f, ↓iX_d, ↓q_add, ↓q_sub, ↓q_mul, ↓q_div, ↓q_mod, ↓q_pow, ↓q_eq, ↓q_ne, ↓q_eqs, ↓q_nes, ↓q_eqb, ↓q_lt, ↓q_le, ↓q_gt, ↓q_ge, ↓q_in, ↓q_inl, ↓q_nin, ↓q_is, ↓q_isnot, ↓q_stup, ↓q_sref, ↓q_sscr, ↓q_fn, ↓q_lentup, ↓q_lenref, ↓q_lenscr, ↓q_isi, ↓q_all, ↓q_max, ↓q_min, ↓q_int, ↓q_tuple, ↓q_listc, ↓q_append, ↓q_clear, ↓q_index, ↓q_pop, ↓q_slicet, ↓q_revt, ↓q_revl, ↓q_set, ↓q_repr, ↓q_eqo, ↓X_rev, ↓Z_set, ↓q_addt, ↓q_listt, ↓q_ninl, ↓u_tup, ↓u_ref, ↓u_range, ↓q_slice, ↓oi_none, ↓oi_int, ↓X_slice, ↓XO_none, ↓XO_some, ↓u_rev, ↓u_zip, ↓xb_two, ↓u_range2, ↓retV_ret, ↓retV_next, List.getElem?_cons_zero, List.getElem?_cons_succ, List.set_cons_zero, List.set_cons_succ, Bool.not_true, Bool.not_false, idx_0, idx_1, idx_2, idx_3, idx_4, idx_5, Int.reduceAdd, Int.reduceSub, Int.reduceMul, Int.reduceNeg, Int.reducePow, Int.reduceLT, Int.reduceLE, Int.reduceEq, Int.reduceNe, Int.reduceToNat, Int.reduceAbs, Nat.reduceAdd, Nat.reduceLT, Nat.reduceLeDiff, Nat.reducePow, Nat.reduceLT, List.length_cons, List.length_nil, true_implies, false_implies, not_true_eq_false, not_false_eq_true, and_true, true_and, and_self, or_true, true_or, decide_true, decide_false, exists_eq_left', Option.some.injEq, listAt_new]
    refine q (.but ((List.range' 0 mn).map fun k => day + ((k : Nat) : Int) * (1 + c / 11 % 3)) r) _ (pre_new.trans (pre_new.trans pre_new)) ⟨⟨?_, ?_, ?_⟩, g⟩ rfl
    · intro e0
      have := congrArg List.length e0
      simp at this
      omega
    · simp; omega
    · have hb : ((0 + mn : Nat) : Int) * (1 + c / 11 % 3) ≤ (mn : Int) * 3 := by
        rw [Nat.zero_add]
        exact Int.mul_le_mul_of_nonneg_left (by omega) (by omega)
      exact rise_run (by omega) mn 0 (-1) (by simp; omega) (by omega)
noncomputable def O5 : Orc := ext "_law_wide_head" C_wh O4
end Mine

set_option autoImplicit false
set_option linter.unusedSimpArgs false
set_option maxRecDepth 20000
/- Law 06: the text as the law writes it; the law. -/
namespace Mine
open PySem

noncomputable abbrev bearL : List V := [.str "from", .str "until", .str "also", .str "but"]
noncomputable def C_be : Ctr := fun vs H Q _ => vs = [] ∧ Q (.ref H.length) (H ++ [.list bearL])
theorem w_bearing : ∀ vs H Q X, C_be vs H Q X → wpFn O5 f_l_bearing vs H Q X := by
  rintro vs H Q X ⟨rfl, q⟩
  refine fn_of rfl ?_
  simp only [f_l_bearing, initL, List.map_cons, List.map_nil, List.replicate, List.cons_append, List.nil_append, ↓X_lit, ↓X_loc, ↓X_bin, ↓negX_int, ↓X_neg, ↓X_not, ↓Y_not, ↓X_and, ↓Y_and, ↓X_or, ↓Y_or, ↓X_cmp, ↓X_cmp2, ↓X_ite, ↓Y_ite, ↓X_tup, ↓X_lst, ↓X_call, ↓X_meth, ↓X_sub, ↓X_comp, ↓Y_lit, ↓Y_loc, ↓Y_cmp, ↓Y_cmp2, ↓Y_call, ↓Y_sub, ↓XEs_nil, ↓XEs_cons, ↓XIfs_nil, ↓XIfs_cons, ↓Z_expr, ↓Z_assign, ↓Z_ret, ↓Z_retNone, ↓Z_ite, ↓Z_for, ↓Z_raise, ↓Z_pass, ↓Z_brk, ↓Z_cont, ↓Zs_nil, ↓sqX_next, ↓sqX_brk, ↓sqX_cont, ↓sqX_ret, ↓Zs_cons, ↓wkX_next, ↓wkX_cont, ↓wkX_brk, ↓wkX_ret, ↓fkX_next, ↓fkX_cont, ↓fkX_brk, ↓fkX_ret, ↓xb_one, ↓oKK_some, ↓oK_some, ↓tX_bool, ↓iX_t, ↓iX_f, ↓iX_d, ↓q_add, ↓q_sub, ↓q_mul, ↓q_div, ↓q_mod, ↓q_pow, ↓q_list, ↓q_eq, ↓q_ne, ↓q_eqs, ↓q_nes, ↓q_eqb, ↓q_lt, ↓q_le, ↓q_gt, ↓q_ge, ↓q_in, ↓q_inl, ↓q_nin, ↓q_is, ↓q_isnot, ↓q_stup, ↓q_sref, ↓q_sscr, ↓q_fn, ↓q_lentup, ↓q_lenref, ↓q_lenscr, ↓q_isi, ↓q_all, ↓q_max, ↓q_min, ↓q_int, ↓q_tuple, ↓q_listc, ↓q_append, ↓q_clear, ↓q_index, ↓q_pop, ↓q_slicet, ↓q_revt, ↓q_revl, ↓q_set, ↓q_repr, ↓q_eqo, ↓X_rev, ↓Z_set, ↓q_addt, ↓q_listt, ↓q_ninl, ↓u_tup, ↓u_ref, ↓u_range, ↓q_slice, ↓oi_none, ↓oi_int, ↓X_slice, ↓XO_none, ↓XO_some, ↓u_rev, ↓u_zip, ↓xb_two, ↓u_range2, ↓retV_ret, ↓retV_next, List.getElem?_cons_zero, List.getElem?_cons_succ, List.set_cons_zero, List.set_cons_succ, Bool.not_true, Bool.not_false, idx_0, idx_1, idx_2, idx_3, idx_4, idx_5, Int.reduceAdd, Int.reduceSub, Int.reduceMul, Int.reduceNeg, Int.reducePow, Int.reduceLT, Int.reduceLE, Int.reduceEq, Int.reduceNe, Int.reduceToNat, Int.reduceAbs, Nat.reduceAdd, Nat.reduceLT, Nat.reduceLeDiff, Nat.reducePow, Nat.reduceLT, List.length_cons, List.length_nil, true_implies, false_implies, not_true_eq_false, not_false_eq_true, and_true, true_and, and_self, or_true, true_or, decide_true, decide_false, exists_eq_left', Option.some.injEq]
  exact q
noncomputable def O6 : Orc := ext "_law_bearing" C_be O5
theorem O6_be : O6 "_law_bearing" = C_be := rfl

noncomputable def Rl.inner : Rl → Rl
  | .frm _ r => r.inner
  | .til _ r => r.inner
  | .als _ r => r.inner
  | .but _ r => r.inner
  | r => r
noncomputable def Rl.outer : Rl → List Rl
  | .frm h r => .frm h r :: r.outer
  | .til h r => .til h r :: r.outer
  | .als h r => .als h r :: r.outer
  | .but ds r => .but ds r :: r.outer
  | _ => []
theorem outer_length : ∀ r : Rl, r.outer.length = r.depth
  | .once _ _ => rfl
  | .every _ _ _ => rfl
  | .week _ _ _ => rfl
  | .month _ _ _ => rfl
  | .frm _ r => by simp [Rl.outer, Rl.depth, outer_length r]
  | .til _ r => by simp [Rl.outer, Rl.depth, outer_length r]
  | .als _ r => by simp [Rl.outer, Rl.depth, outer_length r]
  | .but _ r => by simp [Rl.outer, Rl.depth, outer_length r]
noncomputable def Rl.heads (r : Rl) : List Rl := r.outer ++ [r.inner]
noncomputable abbrev hdT : IE := .cmp (.sub (.loc 0) (.lit (.int 0))) .In (.call (.fn "_law_bearing") [])
noncomputable abbrev hdB : List IS := [(.expr (.meth (.loc 1) .append [(.loc 0)])), (.assign 0 (.sub (.loc 0) (.lit (.int 2))))]
theorem hd_test {u : Str} {rest : List V} {Lr : Lc} {H : Hp} {P : Bool → Hp → Prop} {X : XL} {b : Bool} (hm : memV (.str u) bearL = some b) (h : P b (H ++ [.list bearL])) : (wp2 O6 hdT).T (some (.tup (.str u :: rest)) :: Lr) H P X := by
  simp only [↓X_lit, ↓X_loc, ↓X_bin, ↓negX_int, ↓X_neg, ↓X_not, ↓Y_not, ↓X_and, ↓Y_and, ↓X_or, ↓Y_or, ↓X_cmp, ↓X_cmp2, ↓X_ite, ↓Y_ite, ↓X_tup, ↓X_lst, ↓X_call, ↓X_meth, ↓X_sub, ↓X_comp, ↓Y_lit, ↓Y_loc, ↓Y_cmp, ↓Y_cmp2, ↓Y_call, ↓Y_sub, ↓XEs_nil, ↓XEs_cons, ↓XIfs_nil, ↓XIfs_cons, ↓Z_expr, ↓Z_assign, ↓Z_ret, ↓Z_retNone, ↓Z_ite, ↓Z_for, ↓Z_raise, ↓Z_pass, ↓Z_brk, ↓Z_cont, ↓Zs_nil, ↓sqX_next, ↓sqX_brk, ↓sqX_cont, ↓sqX_ret, ↓Zs_cons, ↓wkX_next, ↓wkX_cont, ↓wkX_brk, ↓wkX_ret, ↓fkX_next, ↓fkX_cont, ↓fkX_brk, ↓fkX_ret, ↓xb_one, ↓oKK_some, ↓oK_some, ↓tX_bool, ↓iX_t, ↓iX_f, ↓iX_d, ↓q_add, ↓q_sub, ↓q_mul, ↓q_div, ↓q_mod, ↓q_pow, ↓q_list, ↓q_eq, ↓q_ne, ↓q_eqs, ↓q_nes, ↓q_eqb, ↓q_lt, ↓q_le, ↓q_gt, ↓q_ge, ↓q_in, ↓q_inl, ↓q_nin, ↓q_is, ↓q_isnot, ↓q_stup, ↓q_sref, ↓q_sscr, ↓q_fn, ↓q_lentup, ↓q_lenref, ↓q_lenscr, ↓q_isi, ↓q_all, ↓q_max, ↓q_min, ↓q_int, ↓q_tuple, ↓q_listc, ↓q_append, ↓q_clear, ↓q_index, ↓q_pop, ↓q_slicet, ↓q_revt, ↓q_revl, ↓q_set, ↓q_repr, ↓q_eqo, ↓X_rev, ↓Z_set, ↓q_addt, ↓q_listt, ↓q_ninl, ↓u_tup, ↓u_ref, ↓u_range, ↓q_slice, ↓oi_none, ↓oi_int, ↓X_slice, ↓XO_none, ↓XO_some, ↓u_rev, ↓u_zip, ↓xb_two, ↓u_range2, ↓retV_ret, ↓retV_next, List.getElem?_cons_zero, List.getElem?_cons_succ, List.set_cons_zero, List.set_cons_succ, Bool.not_true, Bool.not_false, idx_0, idx_1, idx_2, idx_3, idx_4, idx_5, Int.reduceAdd, Int.reduceSub, Int.reduceMul, Int.reduceNeg, Int.reducePow, Int.reduceLT, Int.reduceLE, Int.reduceEq, Int.reduceNe, Int.reduceToNat, Int.reduceAbs, Nat.reduceAdd, Nat.reduceLT, Nat.reduceLeDiff, Nat.reducePow, Nat.reduceLT, List.length_cons, List.length_nil, true_implies, false_implies, not_true_eq_false, not_false_eq_true, and_true, true_and, and_self, or_true, true_or, decide_true, decide_false, exists_eq_left', Option.some.injEq, ↓O6_be]
  refine ⟨rfl, ?_⟩
  simp only [↓X_lit, ↓X_loc, ↓X_bin, ↓negX_int, ↓X_neg, ↓X_not, ↓Y_not, ↓X_and, ↓Y_and, ↓X_or, ↓Y_or, ↓X_cmp, ↓X_cmp2, ↓X_ite, ↓Y_ite, ↓X_tup, ↓X_lst, ↓X_call, ↓X_meth, ↓X_sub, ↓X_comp, ↓Y_lit, ↓Y_loc, ↓Y_cmp, ↓Y_cmp2, ↓Y_call, ↓Y_sub, ↓XEs_nil, ↓XEs_cons, ↓XIfs_nil, ↓XIfs_cons, ↓Z_expr, ↓Z_assign, ↓Z_ret, ↓Z_retNone, ↓Z_ite, ↓Z_for, ↓Z_raise, ↓Z_pass, ↓Z_brk, ↓Z_cont, ↓Zs_nil, ↓sqX_next, ↓sqX_brk, ↓sqX_cont, ↓sqX_ret, ↓Zs_cons, ↓wkX_next, ↓wkX_cont, ↓wkX_brk, ↓wkX_ret, ↓fkX_next, ↓fkX_cont, ↓fkX_brk, ↓fkX_ret, ↓xb_one, ↓oKK_some, ↓oK_some, ↓tX_bool, ↓iX_t, ↓iX_f, ↓iX_d, ↓q_add, ↓q_sub, ↓q_mul, ↓q_div, ↓q_mod, ↓q_pow, ↓q_list, ↓q_eq, ↓q_ne, ↓q_eqs, ↓q_nes, ↓q_eqb, ↓q_lt, ↓q_le, ↓q_gt, ↓q_ge, ↓q_in, ↓q_inl, ↓q_nin, ↓q_is, ↓q_isnot, ↓q_stup, ↓q_sref, ↓q_sscr, ↓q_fn, ↓q_lentup, ↓q_lenref, ↓q_lenscr, ↓q_isi, ↓q_all, ↓q_max, ↓q_min, ↓q_int, ↓q_tuple, ↓q_listc, ↓q_append, ↓q_clear, ↓q_index, ↓q_pop, ↓q_slicet, ↓q_revt, ↓q_revl, ↓q_set, ↓q_repr, ↓q_eqo, ↓X_rev, ↓Z_set, ↓q_addt, ↓q_listt, ↓q_ninl, ↓u_tup, ↓u_ref, ↓u_range, ↓q_slice, ↓oi_none, ↓oi_int, ↓X_slice, ↓XO_none, ↓XO_some, ↓u_rev, ↓u_zip, ↓xb_two, ↓u_range2, ↓retV_ret, ↓retV_next, List.getElem?_cons_zero, List.getElem?_cons_succ, List.set_cons_zero, List.set_cons_succ, Bool.not_true, Bool.not_false, idx_0, idx_1, idx_2, idx_3, idx_4, idx_5, Int.reduceAdd, Int.reduceSub, Int.reduceMul, Int.reduceNeg, Int.reducePow, Int.reduceLT, Int.reduceLE, Int.reduceEq, Int.reduceNe, Int.reduceToNat, Int.reduceAbs, Nat.reduceAdd, Nat.reduceLT, Nat.reduceLeDiff, Nat.reducePow, Nat.reduceLT, List.length_cons, List.length_nil, true_implies, false_implies, not_true_eq_false, not_false_eq_true, and_true, true_and, and_self, or_true, true_or, decide_true, decide_false, exists_eq_left', Option.some.injEq, listAt_new, hm]
  exact h
theorem hd_step {u : Str} {v1 v2 : V} {rest : List V} {t2 t3 t4 : Option V} {n : Nat} {Q : QS} {H H' : Hp} {acc : List V} {k : Nat} (hm : memV (.str u) bearL = some true) (hp : H <+: H') (hn : n = H.length) (hl : listAt H' n = some acc) (hz : acc.length ≤ 1000000)
    (ih : ∀ H2, H <+: H2 → listAt H2 n = some (acc ++ [.tup (.str u :: v1 :: v2 :: rest)]) → whileGo (whTX O6 hdT noX) (whBX O6 hdB noXS) k [some v2, some (.ref n), t2, t3, t4] H2 Q) :
    whileGo (whTX O6 hdT noX) (whBX O6 hdB noXS) (k + 1) [some (.tup (.str u :: v1 :: v2 :: rest)), some (.ref n), t2, t3, t4] H' Q := by
  rw [whX_s]
  refine hd_test hm ?_
  have hl' := listAt_pre (pre_new (o := .list bearL)) hl
  simp only [↓X_lit, ↓X_loc, ↓X_bin, ↓negX_int, ↓X_neg, ↓X_not, ↓Y_not, ↓X_and, ↓Y_and, ↓X_or, ↓Y_or, ↓X_cmp, ↓X_cmp2, ↓X_ite, ↓Y_ite, ↓X_tup, ↓X_lst, ↓X_call, ↓X_meth, ↓X_sub, ↓X_comp, ↓Y_lit, ↓Y_loc, ↓Y_cmp, ↓Y_cmp2, ↓Y_call, ↓Y_sub, ↓XEs_nil, ↓XEs_cons, ↓XIfs_nil, ↓XIfs_cons, ↓Z_expr, ↓Z_assign, ↓Z_ret, ↓Z_retNone, ↓Z_ite, ↓Z_for, ↓Z_raise, ↓Z_pass, ↓Z_brk, ↓Z_cont, ↓Zs_nil, ↓sqX_next, ↓sqX_brk, ↓sqX_cont, ↓sqX_ret, ↓Zs_cons, ↓wkX_next, ↓wkX_cont, ↓wkX_brk, ↓wkX_ret, ↓fkX_next, ↓fkX_cont, ↓fkX_brk, ↓fkX_ret, ↓xb_one, ↓oKK_some, ↓oK_some, ↓tX_bool, ↓iX_t, ↓iX_f, ↓iX_d, ↓q_add, ↓q_sub, ↓q_mul, ↓q_div, ↓q_mod, ↓q_pow, ↓q_list, ↓q_eq, ↓q_ne, ↓q_eqs, ↓q_nes, ↓q_eqb, ↓q_lt, ↓q_le, ↓q_gt, ↓q_ge, ↓q_in, ↓q_inl, ↓q_nin, ↓q_is, ↓q_isnot, ↓q_stup, ↓q_sref, ↓q_sscr, ↓q_fn, ↓q_lentup, ↓q_lenref, ↓q_lenscr, ↓q_isi, ↓q_all, ↓q_max, ↓q_min, ↓q_int, ↓q_tuple, ↓q_listc, ↓q_append, ↓q_clear, ↓q_index, ↓q_pop, ↓q_slicet, ↓q_revt, ↓q_revl, ↓q_set, ↓q_repr, ↓q_eqo, ↓X_rev, ↓Z_set, ↓q_addt, ↓q_listt, ↓q_ninl, ↓u_tup, ↓u_ref, ↓u_range, ↓q_slice, ↓oi_none, ↓oi_int, ↓X_slice, ↓XO_none, ↓XO_some, ↓u_rev, ↓u_zip, ↓xb_two, ↓u_range2, ↓retV_ret, ↓retV_next, List.getElem?_cons_zero, List.getElem?_cons_succ, List.set_cons_zero, List.set_cons_succ, Bool.not_true, Bool.not_false, idx_0, idx_1, idx_2, idx_3, idx_4, idx_5, Int.reduceAdd, Int.reduceSub, Int.reduceMul, Int.reduceNeg, Int.reducePow, Int.reduceLT, Int.reduceLE, Int.reduceEq, Int.reduceNe, Int.reduceToNat, Int.reduceAbs, Nat.reduceAdd, Nat.reduceLT, Nat.reduceLeDiff, Nat.reducePow, Nat.reduceLT, List.length_cons, List.length_nil, true_implies, false_implies, not_true_eq_false, not_false_eq_true, and_true, true_and, and_self, or_true, true_or, decide_true, decide_false, exists_eq_left', Option.some.injEq, hl', hz]
  exact ⟨⟨_, hl'⟩, ih _ (pre_set (hp.trans pre_new) (by omega)) (listAt_set hl')⟩
theorem hd_loop {t2 t3 t4 : Option V} {n : Nat} {Q : QS} {H : Hp} (hn : n = H.length) : ∀ (r : Rl) (acc : List V) (H' : Hp), H <+: H' → listAt H' n = some acc → acc.length + r.depth ≤ 1000000 →
    (∀ H2, H <+: H2 → listAt H2 n = some (acc ++ r.outer.map rv) → Q .next [some (rv r.inner), some (.ref n), t2, t3, t4] H2) →
    whileGo (whTX O6 hdT noX) (whBX O6 hdB noXS) (r.depth + 1) [some (rv r), some (.ref n), t2, t3, t4] H' Q := by
  intro r
  induction r with
  | once h s => intro acc H' hp hl hz q; rw [whX_s]; exact hd_test mo_once (q _ (hp.trans pre_new) (by rw [listAt_pre pre_new hl]; simp [Rl.outer]))
  | every h s p => intro acc H' hp hl hz q; rw [whX_s]; exact hd_test mo_every (q _ (hp.trans pre_new) (by rw [listAt_pre pre_new hl]; simp [Rl.outer]))
  | week ds t s => intro acc H' hp hl hz q; rw [whX_s]; exact hd_test mo_week (q _ (hp.trans pre_new) (by rw [listAt_pre pre_new hl]; simp [Rl.outer]))
  | month d t s => intro acc H' hp hl hz q; rw [whX_s]; exact hd_test mo_month (q _ (hp.trans pre_new) (by rw [listAt_pre pre_new hl]; simp [Rl.outer]))
  | frm h r ih =>
    intro acc H' hp hl hz q
    simp only [Rl.depth] at hz
    exact hd_step mo_frm hp hn hl (by omega) fun H2 hp2 hl2 => ih _ H2 hp2 hl2 (by simp; omega) fun H3 hp3 hl3 => q H3 hp3 (by rw [hl3]; simp [Rl.outer, rv])
  | til h r ih =>
    intro acc H' hp hl hz q
    simp only [Rl.depth] at hz
    exact hd_step mo_til hp hn hl (by omega) fun H2 hp2 hl2 => ih _ H2 hp2 hl2 (by simp; omega) fun H3 hp3 hl3 => q H3 hp3 (by rw [hl3]; simp [Rl.outer, rv])
  | als h r ih =>
    intro acc H' hp hl hz q
    simp only [Rl.depth] at hz
    exact hd_step mo_als hp hn hl (by omega) fun H2 hp2 hl2 => ih _ H2 hp2 hl2 (by simp; omega) fun H3 hp3 hl3 => q H3 hp3 (by rw [hl3]; simp [Rl.outer, rv])
  | but ds r ih =>
    intro acc H' hp hl hz q
    simp only [Rl.depth] at hz
    exact hd_step mo_but hp hn hl (by omega) fun H2 hp2 hl2 => ih _ H2 hp2 hl2 (by simp; omega) fun H3 hp3 hl3 => q H3 hp3 (by rw [hl3]; simp [Rl.outer, rv])
noncomputable def C_hd : Ctr := fun vs H Q _ => ∃ r : Rl, vs = [rv r] ∧ r.depth ≤ 1000 ∧ ∀ H', H <+: H' → Q (.ref H'.length) (H' ++ [.list (r.heads.map rv)])
theorem w_heads : ∀ vs H Q X, C_hd vs H Q X → wpFn O6 f_l_heads vs H Q X := by
  rintro vs H Q X ⟨r, rfl, hd, q⟩
  refine fn_of rfl ?_
  change wpSs O6 f_l_heads.body [some (rv r), none, none, none, none] H _ _
  refine zs_cons ?_
  generalize hK : sqX O6 (_ :: _) = K
  simp only [↓X_lit, ↓X_loc, ↓X_bin, ↓negX_int, ↓X_neg, ↓X_not, ↓Y_not, ↓X_and, ↓Y_and, ↓X_or, ↓Y_or, ↓X_cmp, ↓X_cmp2, ↓X_ite, ↓Y_ite, ↓X_tup, ↓X_lst, ↓X_call, ↓X_meth, ↓X_sub, ↓X_comp, ↓Y_lit, ↓Y_loc, ↓Y_cmp, ↓Y_cmp2, ↓Y_call, ↓Y_sub, ↓XEs_nil, ↓XEs_cons, ↓XIfs_nil, ↓XIfs_cons, ↓Z_expr, ↓Z_assign, ↓Z_ret, ↓Z_retNone, ↓Z_ite, ↓Z_for, ↓Z_raise, ↓Z_pass, ↓Z_brk, ↓Z_cont, ↓Zs_nil, ↓sqX_next, ↓sqX_brk, ↓sqX_cont, ↓sqX_ret, ↓Zs_cons, ↓wkX_next, ↓wkX_cont, ↓wkX_brk, ↓wkX_ret, ↓fkX_next, ↓fkX_cont, ↓fkX_brk, ↓fkX_ret, ↓xb_one, ↓oKK_some, ↓oK_some, ↓tX_bool, ↓iX_t, ↓iX_f, ↓iX_d, ↓q_add, ↓q_sub, ↓q_mul, ↓q_div, ↓q_mod, ↓q_pow, ↓q_list, ↓q_eq, ↓q_ne, ↓q_eqs, ↓q_nes, ↓q_eqb, ↓q_lt, ↓q_le, ↓q_gt, ↓q_ge, ↓q_in, ↓q_inl, ↓q_nin, ↓q_is, ↓q_isnot, ↓q_stup, ↓q_sref, ↓q_sscr, ↓q_fn, ↓q_lentup, ↓q_lenref, ↓q_lenscr, ↓q_isi, ↓q_all, ↓q_max, ↓q_min, ↓q_int, ↓q_tuple, ↓q_listc, ↓q_append, ↓q_clear, ↓q_index, ↓q_pop, ↓q_slicet, ↓q_revt, ↓q_revl, ↓q_set, ↓q_repr, ↓q_eqo, ↓X_rev, ↓Z_set, ↓q_addt, ↓q_listt, ↓q_ninl, ↓u_tup, ↓u_ref, ↓u_range, ↓q_slice, ↓oi_none, ↓oi_int, ↓X_slice, ↓XO_none, ↓XO_some, ↓u_rev, ↓u_zip, ↓xb_two, ↓u_range2, ↓retV_ret, ↓retV_next, List.getElem?_cons_zero, List.getElem?_cons_succ, List.set_cons_zero, List.set_cons_succ, Bool.not_true, Bool.not_false, idx_0, idx_1, idx_2, idx_3, idx_4, idx_5, Int.reduceAdd, Int.reduceSub, Int.reduceMul, Int.reduceNeg, Int.reducePow, Int.reduceLT, Int.reduceLE, Int.reduceEq, Int.reduceNe, Int.reduceToNat, Int.reduceAbs, Nat.reduceAdd, Nat.reduceLT, Nat.reduceLeDiff, Nat.reducePow, Nat.reduceLT, List.length_cons, List.length_nil, true_implies, false_implies, not_true_eq_false, not_false_eq_true, and_true, true_and, and_self, or_true, true_or, decide_true, decide_false, exists_eq_left', Option.some.injEq]
  subst hK
  refine zs_cons ?_
  rw [Z_while]
  refine ⟨r.depth + 1, hd_loop rfl r [] _ pre_new listAt_new (by simp; omega) ?_⟩
  intro H2 hp hl
  simp only [List.nil_append] at hl
  have hl' := listAt_pre (pre_new (o := .list [rv r.inner])) hl
  simp only [↓X_lit, ↓X_loc, ↓X_bin, ↓negX_int, ↓X_neg, ↓X_not, ↓Y_not, ↓X_and, ↓Y_and, ↓X_or, ↓Y_or, ↓X_cmp, ↓X_cmp2, ↓X_ite, ↓Y_ite, ↓X_tup, ↓X_lst, ↓X_call, ↓X_meth, ↓X_sub, ↓X_comp, ↓Y_lit, ↓Y_loc, ↓Y_cmp, ↓Y_cmp2, ↓Y_call, ↓Y_sub, ↓XEs_nil, ↓XEs_cons, ↓XIfs_nil, ↓XIfs_cons, ↓Z_expr, ↓Z_assign, ↓Z_ret, ↓Z_retNone, ↓Z_ite, ↓Z_for, ↓Z_raise, ↓Z_pass, ↓Z_brk, ↓Z_cont, ↓Zs_nil, ↓sqX_next, ↓sqX_brk, ↓sqX_cont, ↓sqX_ret, ↓Zs_cons, ↓wkX_next, ↓wkX_cont, ↓wkX_brk, ↓wkX_ret, ↓fkX_next, ↓fkX_cont, ↓fkX_brk, ↓fkX_ret, ↓xb_one, ↓oKK_some, ↓oK_some, ↓tX_bool, ↓iX_t, ↓iX_f, ↓iX_d, ↓q_add, ↓q_sub, ↓q_mul, ↓q_div, ↓q_mod, ↓q_pow, ↓q_list, ↓q_eq, ↓q_ne, ↓q_eqs, ↓q_nes, ↓q_eqb, ↓q_lt, ↓q_le, ↓q_gt, ↓q_ge, ↓q_in, ↓q_inl, ↓q_nin, ↓q_is, ↓q_isnot, ↓q_stup, ↓q_sref, ↓q_sscr, ↓q_fn, ↓q_lentup, ↓q_lenref, ↓q_lenscr, ↓q_isi, ↓q_all, ↓q_max, ↓q_min, ↓q_int, ↓q_tuple, ↓q_listc, ↓q_append, ↓q_clear, ↓q_index, ↓q_pop, ↓q_slicet, ↓q_revt, ↓q_revl, ↓q_set, ↓q_repr, ↓q_eqo, ↓X_rev, ↓Z_set, ↓q_addt, ↓q_listt, ↓q_ninl, ↓u_tup, ↓u_ref, ↓u_range, ↓q_slice, ↓oi_none, ↓oi_int, ↓X_slice, ↓XO_none, ↓XO_some, ↓u_rev, ↓u_zip, ↓xb_two, ↓u_range2, ↓retV_ret, ↓retV_next, List.getElem?_cons_zero, List.getElem?_cons_succ, List.set_cons_zero, List.set_cons_succ, Bool.not_true, Bool.not_false, idx_0, idx_1, idx_2, idx_3, idx_4, idx_5, Int.reduceAdd, Int.reduceSub, Int.reduceMul, Int.reduceNeg, Int.reducePow, Int.reduceLT, Int.reduceLE, Int.reduceEq, Int.reduceNe, Int.reduceToNat, Int.reduceAbs, Nat.reduceAdd, Nat.reduceLT, Nat.reduceLeDiff, Nat.reducePow, Nat.reduceLT, List.length_cons, List.length_nil, true_implies, false_implies, not_true_eq_false, not_false_eq_true, and_true, true_and, and_self, or_true, true_or, decide_true, decide_false, exists_eq_left', Option.some.injEq, hl', listAt_new]
  have := q (H2 ++ [.list [rv r.inner]]) (hp.trans pre_new)
  refine ⟨by simp [outer_length]; omega, ?_⟩
  simpa [Rl.heads] using this
noncomputable def O7 : Orc := ext "_law_heads" C_hd O6

noncomputable def PartOf (v : V) (s : Str) : Prop := v = .str s ∨ (∃ i, small i ∧ v = .int i ∧ s = numS i) ∨ ∃ ds, (∀ d ∈ ds, small d) ∧ ds.length ≤ 20 ∧ v = intsV ds ∧ s = listS ds
noncomputable def C_pt : Ctr := fun vs H Q _ => ∃ v s, vs = [v] ∧ PartOf v s ∧ ∀ H', H <+: H' → Q (.str s) H'
theorem w_part : ∀ vs H Q X, C_pt vs H Q X → wpFn O7 f_l_part vs H Q X := by
  rintro vs H Q X ⟨v, s, rfl, hv, q⟩
  refine fn_of rfl ?_
  rcases hv with rfl | ⟨i, hi, rfl, rfl⟩ | ⟨ds, hs, hl, rfl, rfl⟩
  · simp only [f_l_part, initL, List.map_cons, List.map_nil, List.replicate, List.cons_append, List.nil_append, ↓X_lit, ↓X_loc, ↓X_bin, ↓negX_int, ↓X_neg, ↓X_not, ↓Y_not, ↓X_and, ↓Y_and, ↓X_or, ↓Y_or, ↓X_cmp, ↓X_cmp2, ↓X_ite, ↓Y_ite, ↓X_tup, ↓X_lst, ↓X_call, ↓X_meth, ↓X_sub, ↓X_comp, ↓Y_lit, ↓Y_loc, ↓Y_cmp, ↓Y_cmp2, ↓Y_call, ↓Y_sub, ↓XEs_nil, ↓XEs_cons, ↓XIfs_nil, ↓XIfs_cons, ↓Z_expr, ↓Z_assign, ↓Z_ret, ↓Z_retNone, ↓Z_ite, ↓Z_for, ↓Z_raise, ↓Z_pass, ↓Z_brk, ↓Z_cont, ↓Zs_nil, ↓sqX_next, ↓sqX_brk, ↓sqX_cont, ↓sqX_ret, ↓Zs_cons, ↓wkX_next, ↓wkX_cont, ↓wkX_brk, ↓wkX_ret, ↓fkX_next, ↓fkX_cont, ↓fkX_brk, ↓fkX_ret, ↓xb_one, ↓oKK_some, ↓oK_some, ↓tX_bool, ↓iX_t, ↓iX_f, ↓iX_d, ↓q_add, ↓q_sub, ↓q_mul, ↓q_div, ↓q_mod, ↓q_pow, ↓q_list, ↓q_eq, ↓q_ne, ↓q_eqs, ↓q_nes, ↓q_eqb, ↓q_lt, ↓q_le, ↓q_gt, ↓q_ge, ↓q_in, ↓q_inl, ↓q_nin, ↓q_is, ↓q_isnot, ↓q_stup, ↓q_sref, ↓q_sscr, ↓q_fn, ↓q_lentup, ↓q_lenref, ↓q_lenscr, ↓q_isi, ↓q_all, ↓q_max, ↓q_min, ↓q_int, ↓q_tuple, ↓q_listc, ↓q_append, ↓q_clear, ↓q_index, ↓q_pop, ↓q_slicet, ↓q_revt, ↓q_revl, ↓q_set, ↓q_repr, ↓q_eqo, ↓X_rev, ↓Z_set, ↓q_addt, ↓q_listt, ↓q_ninl, ↓u_tup, ↓u_ref, ↓u_range, ↓q_slice, ↓oi_none, ↓oi_int, ↓X_slice, ↓XO_none, ↓XO_some, ↓u_rev, ↓u_zip, ↓xb_two, ↓u_range2, ↓retV_ret, ↓retV_next, List.getElem?_cons_zero, List.getElem?_cons_succ, List.set_cons_zero, List.set_cons_succ, Bool.not_true, Bool.not_false, idx_0, idx_1, idx_2, idx_3, idx_4, idx_5, Int.reduceAdd, Int.reduceSub, Int.reduceMul, Int.reduceNeg, Int.reducePow, Int.reduceLT, Int.reduceLE, Int.reduceEq, Int.reduceNe, Int.reduceToNat, Int.reduceAbs, Nat.reduceAdd, Nat.reduceLT, Nat.reduceLeDiff, Nat.reducePow, Nat.reduceLT, List.length_cons, List.length_nil, true_implies, false_implies, not_true_eq_false, not_false_eq_true, and_true, true_and, and_self, or_true, true_or, decide_true, decide_false, exists_eq_left', Option.some.injEq, ↓X_strm, ↓sV_str, ↓q_join, ↓q_split, ↓q_strint, ↓q_strstr, ↓q_intstr, ↓q_lenstr, ↓q_slices, ↓q_ins, ↓q_nins, ↓u_str, isi_str_tup]
    exact q H (List.prefix_refl _)
  · simp only [f_l_part, initL, List.map_cons, List.map_nil, List.replicate, List.cons_append, List.nil_append, ↓X_lit, ↓X_loc, ↓X_bin, ↓negX_int, ↓X_neg, ↓X_not, ↓Y_not, ↓X_and, ↓Y_and, ↓X_or, ↓Y_or, ↓X_cmp, ↓X_cmp2, ↓X_ite, ↓Y_ite, ↓X_tup, ↓X_lst, ↓X_call, ↓X_meth, ↓X_sub, ↓X_comp, ↓Y_lit, ↓Y_loc, ↓Y_cmp, ↓Y_cmp2, ↓Y_call, ↓Y_sub, ↓XEs_nil, ↓XEs_cons, ↓XIfs_nil, ↓XIfs_cons, ↓Z_expr, ↓Z_assign, ↓Z_ret, ↓Z_retNone, ↓Z_ite, ↓Z_for, ↓Z_raise, ↓Z_pass, ↓Z_brk, ↓Z_cont, ↓Zs_nil, ↓sqX_next, ↓sqX_brk, ↓sqX_cont, ↓sqX_ret, ↓Zs_cons, ↓wkX_next, ↓wkX_cont, ↓wkX_brk, ↓wkX_ret, ↓fkX_next, ↓fkX_cont, ↓fkX_brk, ↓fkX_ret, ↓xb_one, ↓oKK_some, ↓oK_some, ↓tX_bool, ↓iX_t, ↓iX_f, ↓iX_d, ↓q_add, ↓q_sub, ↓q_mul, ↓q_div, ↓q_mod, ↓q_pow, ↓q_list, ↓q_eq, ↓q_ne, ↓q_eqs, ↓q_nes, ↓q_eqb, ↓q_lt, ↓q_le, ↓q_gt, ↓q_ge, ↓q_in, ↓q_inl, ↓q_nin, ↓q_is, ↓q_isnot, ↓q_stup, ↓q_sref, ↓q_sscr, ↓q_fn, ↓q_lentup, ↓q_lenref, ↓q_lenscr, ↓q_isi, ↓q_all, ↓q_max, ↓q_min, ↓q_int, ↓q_tuple, ↓q_listc, ↓q_append, ↓q_clear, ↓q_index, ↓q_pop, ↓q_slicet, ↓q_revt, ↓q_revl, ↓q_set, ↓q_repr, ↓q_eqo, ↓X_rev, ↓Z_set, ↓q_addt, ↓q_listt, ↓q_ninl, ↓u_tup, ↓u_ref, ↓u_range, ↓q_slice, ↓oi_none, ↓oi_int, ↓X_slice, ↓XO_none, ↓XO_some, ↓u_rev, ↓u_zip, ↓xb_two, ↓u_range2, ↓retV_ret, ↓retV_next, List.getElem?_cons_zero, List.getElem?_cons_succ, List.set_cons_zero, List.set_cons_succ, Bool.not_true, Bool.not_false, idx_0, idx_1, idx_2, idx_3, idx_4, idx_5, Int.reduceAdd, Int.reduceSub, Int.reduceMul, Int.reduceNeg, Int.reducePow, Int.reduceLT, Int.reduceLE, Int.reduceEq, Int.reduceNe, Int.reduceToNat, Int.reduceAbs, Nat.reduceAdd, Nat.reduceLT, Nat.reduceLeDiff, Nat.reducePow, Nat.reduceLT, List.length_cons, List.length_nil, true_implies, false_implies, not_true_eq_false, not_false_eq_true, and_true, true_and, and_self, or_true, true_or, decide_true, decide_false, exists_eq_left', Option.some.injEq, ↓X_strm, ↓sV_str, ↓q_join, ↓q_split, ↓q_strint, ↓q_strstr, ↓q_intstr, ↓q_lenstr, ↓q_slices, ↓q_ins, ↓q_nins, ↓u_str, isi_int_tup, small_abs hi]
    exact q H (List.prefix_refl _)
  · simp only [f_l_part, initL, List.map_cons, List.map_nil, List.replicate, List.cons_append, List.nil_append, ↓X_lit, ↓X_loc, ↓X_bin, ↓negX_int, ↓X_neg, ↓X_not, ↓Y_not, ↓X_and, ↓Y_and, ↓X_or, ↓Y_or, ↓X_cmp, ↓X_cmp2, ↓X_ite, ↓Y_ite, ↓X_tup, ↓X_lst, ↓X_call, ↓X_meth, ↓X_sub, ↓X_comp, ↓Y_lit, ↓Y_loc, ↓Y_cmp, ↓Y_cmp2, ↓Y_call, ↓Y_sub, ↓XEs_nil, ↓XEs_cons, ↓XIfs_nil, ↓XIfs_cons, ↓Z_expr, ↓Z_assign, ↓Z_ret, ↓Z_retNone, ↓Z_ite, ↓Z_for, ↓Z_raise, ↓Z_pass, ↓Z_brk, ↓Z_cont, ↓Zs_nil, ↓sqX_next, ↓sqX_brk, ↓sqX_cont, ↓sqX_ret, ↓Zs_cons, ↓wkX_next, ↓wkX_cont, ↓wkX_brk, ↓wkX_ret, ↓fkX_next, ↓fkX_cont, ↓fkX_brk, ↓fkX_ret, ↓xb_one, ↓oKK_some, ↓oK_some, ↓tX_bool, ↓iX_t, ↓iX_f, ↓iX_d, ↓q_add, ↓q_sub, ↓q_mul, ↓q_div, ↓q_mod, ↓q_pow, ↓q_eq, ↓q_ne, ↓q_eqs, ↓q_nes, ↓q_eqb, ↓q_lt, ↓q_le, ↓q_gt, ↓q_ge, ↓q_in, ↓q_inl, ↓q_nin, ↓q_is, ↓q_isnot, ↓q_stup, ↓q_sref, ↓q_sscr, ↓q_fn, ↓q_lentup, ↓q_lenref, ↓q_lenscr, ↓q_isi, ↓q_all, ↓q_max, ↓q_min, ↓q_int, ↓q_tuple, ↓q_listc, ↓q_append, ↓q_clear, ↓q_index, ↓q_pop, ↓q_slicet, ↓q_revt, ↓q_revl, ↓q_set, ↓q_repr, ↓q_eqo, ↓X_rev, ↓Z_set, ↓q_addt, ↓q_listt, ↓q_ninl, ↓u_tup, ↓u_ref, ↓u_range, ↓q_slice, ↓oi_none, ↓oi_int, ↓X_slice, ↓XO_none, ↓XO_some, ↓u_rev, ↓u_zip, ↓xb_two, ↓u_range2, ↓retV_ret, ↓retV_next, List.getElem?_cons_zero, List.getElem?_cons_succ, List.set_cons_zero, List.set_cons_succ, Bool.not_true, Bool.not_false, idx_0, idx_1, idx_2, idx_3, idx_4, idx_5, Int.reduceAdd, Int.reduceSub, Int.reduceMul, Int.reduceNeg, Int.reducePow, Int.reduceLT, Int.reduceLE, Int.reduceEq, Int.reduceNe, Int.reduceToNat, Int.reduceAbs, Nat.reduceAdd, Nat.reduceLT, Nat.reduceLeDiff, Nat.reducePow, Nat.reduceLT, List.length_cons, List.length_nil, true_implies, false_implies, not_true_eq_false, not_false_eq_true, and_true, true_and, and_self, or_true, true_or, decide_true, decide_false, exists_eq_left', Option.some.injEq, ↓X_strm, ↓sV_str, ↓q_join, ↓q_split, ↓q_strint, ↓q_strstr, ↓q_intstr, ↓q_lenstr, ↓q_slices, ↓q_ins, ↓q_nins, ↓u_str, intsV, isi_tup_tup]
    refine comp_strs (by simp) ds [] hs ?_
    rw [List.nil_append]
    refine ⟨by rw [List.length_map]; omega, ?_⟩
    simp only [↓X_lit, ↓X_loc, ↓X_bin, ↓negX_int, ↓X_neg, ↓X_not, ↓Y_not, ↓X_and, ↓Y_and, ↓X_or, ↓Y_or, ↓X_cmp, ↓X_cmp2, ↓X_ite, ↓Y_ite, ↓X_tup, ↓X_lst, ↓X_call, ↓X_meth, ↓X_sub, ↓X_comp, ↓Y_lit, ↓Y_loc, ↓Y_cmp, ↓Y_cmp2, ↓Y_call, ↓Y_sub, ↓XEs_nil, ↓XEs_cons, ↓XIfs_nil, ↓XIfs_cons, ↓Z_expr, ↓Z_assign, ↓Z_ret, ↓Z_retNone, ↓Z_ite, ↓Z_for, ↓Z_raise, ↓Z_pass, ↓Z_brk, ↓Z_cont, ↓Zs_nil, ↓sqX_next, ↓sqX_brk, ↓sqX_cont, ↓sqX_ret, ↓Zs_cons, ↓wkX_next, ↓wkX_cont, ↓wkX_brk, ↓wkX_ret, ↓fkX_next, ↓fkX_cont, ↓fkX_brk, ↓fkX_ret, ↓xb_one, ↓oKK_some, ↓oK_some, ↓tX_bool, ↓iX_t, ↓iX_f, ↓iX_d, ↓q_add, ↓q_sub, ↓q_mul, ↓q_div, ↓q_mod, ↓q_pow, ↓q_list, ↓q_eq, ↓q_ne, ↓q_eqs, ↓q_nes, ↓q_eqb, ↓q_lt, ↓q_le, ↓q_gt, ↓q_ge, ↓q_in, ↓q_inl, ↓q_nin, ↓q_is, ↓q_isnot, ↓q_stup, ↓q_sref, ↓q_sscr, ↓q_fn, ↓q_lentup, ↓q_lenref, ↓q_lenscr, ↓q_isi, ↓q_all, ↓q_max, ↓q_min, ↓q_int, ↓q_tuple, ↓q_listc, ↓q_append, ↓q_clear, ↓q_index, ↓q_pop, ↓q_slicet, ↓q_revt, ↓q_revl, ↓q_set, ↓q_repr, ↓q_eqo, ↓X_rev, ↓Z_set, ↓q_addt, ↓q_listt, ↓q_ninl, ↓u_tup, ↓u_ref, ↓u_range, ↓q_slice, ↓oi_none, ↓oi_int, ↓X_slice, ↓XO_none, ↓XO_some, ↓u_rev, ↓u_zip, ↓xb_two, ↓u_range2, ↓retV_ret, ↓retV_next, List.getElem?_cons_zero, List.getElem?_cons_succ, List.set_cons_zero, List.set_cons_succ, Bool.not_true, Bool.not_false, idx_0, idx_1, idx_2, idx_3, idx_4, idx_5, Int.reduceAdd, Int.reduceSub, Int.reduceMul, Int.reduceNeg, Int.reducePow, Int.reduceLT, Int.reduceLE, Int.reduceEq, Int.reduceNe, Int.reduceToNat, Int.reduceAbs, Nat.reduceAdd, Nat.reduceLT, Nat.reduceLeDiff, Nat.reducePow, Nat.reduceLT, List.length_cons, List.length_nil, true_implies, false_implies, not_true_eq_false, not_false_eq_true, and_true, true_and, and_self, or_true, true_or, decide_true, decide_false, exists_eq_left', Option.some.injEq, ↓X_strm, ↓sV_str, ↓q_join, ↓q_split, ↓q_strint, ↓q_strstr, ↓q_intstr, ↓q_lenstr, ↓q_slices, ↓q_ins, ↓q_nins, ↓u_str, listAt_new, strs_nums]
    exact ⟨Nat.le_trans (list_sum hs hl) (by decide), q _ pre_new⟩
noncomputable def O8 : Orc := ext "_law_part" C_pt O7
theorem O8_be : O8 "_law_bearing" = C_be := rfl
theorem O8_hd : O8 "_law_heads" = C_hd := rfl
theorem O8_pt : O8 "_law_part" = C_pt := rfl

/- the words of one head -/
noncomputable def headW : Rl → List Str
  | .frm h _ => ["from", numS h]
  | .til h _ => ["until", numS h]
  | .als h _ => ["also", numS h]
  | .but ds _ => ["but", listS ds]
  | r => r.words
inductive Parts : List V → List Str → Prop
  | nil : Parts [] []
  | cons {v : V} {s : Str} {vs : List V} {ss : List Str} : PartOf v s → Parts vs ss → Parts (v :: vs) (s :: ss)
theorem comp_parts {j : Nat} {L : Lc} {QL : List V → Hp → Prop} {st : Hp → Prop} {H0 : Hp} (hj : j < L.length) (hst : ∀ H', H0 <+: H' → st H') : ∀ {vs : List V} {ss : List Str} (acc : List Str) (H : Hp), Parts vs ss → H0 <+: H → (∀ H', H0 <+: H' → QL ((acc ++ ss).map V.str) H') →
    compGo (coTX O8 [] noX) (coEX O8 (.call (.fn "_law_part") [.loc j]) noX) st [j] L vs (acc.map V.str) H QL
  | [], _, acc, H, .nil, hp, q => by
    have q := q H hp
    rw [List.append_nil] at q
    exact q
  | v :: vs, _, acc, H, .cons (s := s) (ss := ss) h hr, hp, q => by
    rw [coX_cons]
    have e : (L.set j (some v))[j]? = some (some v) := List.getElem?_set_self hj
    simp only [↓X_lit, ↓X_loc, ↓X_bin, ↓negX_int, ↓X_neg, ↓X_not, ↓Y_not, ↓X_and, ↓Y_and, ↓X_or, ↓Y_or, ↓X_cmp, ↓X_cmp2, ↓X_ite, ↓Y_ite, ↓X_tup, ↓X_lst, ↓X_call, ↓X_meth, ↓X_sub, ↓X_comp, ↓Y_lit, ↓Y_loc, ↓Y_cmp, ↓Y_cmp2, ↓Y_call, ↓Y_sub, ↓XEs_nil, ↓XEs_cons, ↓XIfs_nil, ↓XIfs_cons, ↓Z_expr, ↓Z_assign, ↓Z_ret, ↓Z_retNone, ↓Z_ite, ↓Z_for, ↓Z_raise, ↓Z_pass, ↓Z_brk, ↓Z_cont, ↓Zs_nil, ↓sqX_next, ↓sqX_brk, ↓sqX_cont, ↓sqX_ret, ↓Zs_cons, ↓wkX_next, ↓wkX_cont, ↓wkX_brk, ↓wkX_ret, ↓fkX_next, ↓fkX_cont, ↓fkX_brk, ↓fkX_ret, ↓xb_one, ↓oKK_some, ↓oK_some, ↓tX_bool, ↓iX_t, ↓iX_f, ↓iX_d, ↓q_add, ↓q_sub, ↓q_mul, ↓q_div, ↓q_mod, ↓q_pow, ↓q_list, ↓q_eq, ↓q_ne, ↓q_eqs, ↓q_nes, ↓q_eqb, ↓q_lt, ↓q_le, ↓q_gt, ↓q_ge, ↓q_in, ↓q_inl, ↓q_nin, ↓q_is, ↓q_isnot, ↓q_stup, ↓q_sref, ↓q_sscr, ↓q_fn, ↓q_lentup, ↓q_lenref, ↓q_lenscr, ↓q_isi, ↓q_all, ↓q_max, ↓q_min, ↓q_int, ↓q_tuple, ↓q_listc, ↓q_append, ↓q_clear, ↓q_index, ↓q_pop, ↓q_slicet, ↓q_revt, ↓q_revl, ↓q_set, ↓q_repr, ↓q_eqo, ↓X_rev, ↓Z_set, ↓q_addt, ↓q_listt, ↓q_ninl, ↓u_tup, ↓u_ref, ↓u_range, ↓q_slice, ↓oi_none, ↓oi_int, ↓X_slice, ↓XO_none, ↓XO_some, ↓u_rev, ↓u_zip, ↓xb_two, ↓u_range2, ↓retV_ret, ↓retV_next, List.getElem?_cons_zero, List.getElem?_cons_succ, List.set_cons_zero, List.set_cons_succ, Bool.not_true, Bool.not_false, idx_0, idx_1, idx_2, idx_3, idx_4, idx_5, Int.reduceAdd, Int.reduceSub, Int.reduceMul, Int.reduceNeg, Int.reducePow, Int.reduceLT, Int.reduceLE, Int.reduceEq, Int.reduceNe, Int.reduceToNat, Int.reduceAbs, Nat.reduceAdd, Nat.reduceLT, Nat.reduceLeDiff, Nat.reducePow, Nat.reduceLT, List.length_cons, List.length_nil, true_implies, false_implies, not_true_eq_false, not_false_eq_true, and_true, true_and, and_self, or_true, true_or, decide_true, decide_false, exists_eq_left', Option.some.injEq, e, O8_pt]
    refine ⟨v, s, rfl, h, fun H' hp' => ⟨hst _ (hp.trans hp'), ?_⟩⟩
    have := comp_parts (QL := QL) hj hst (acc ++ [s]) H' hr (hp.trans hp') (fun H2 hp2 => by simpa using q H2 hp2)
    simpa using this
noncomputable abbrev wrC : IS := .assign 1 (.bin .Add (.loc 1) (.comp (.call (.fn "_law_part") [(.loc 4)]) [4] .val [(.loc 3)] []))
noncomputable abbrev wrB : List IS := [(.assign 3 (.call (.ty .list) [(.loc 2)])), (.ite (.cmp (.sub (.loc 2) (.lit (.int 0))) .In (.call (.fn "_law_bearing") [])) [(.assign 3 (.lst [(.sub (.loc 2) (.lit (.int 0))), (.sub (.loc 2) (.lit (.int 1)))]))] []), wrC]
section
variable {v : V} {i : Nat} {l : List V} {H0 : Hp} {Q : QS}
noncomputable def WrGo (v : V) (i : Nat) (l : List V) (H0 : Hp) (rest : List V) (ws : List Str) (Q : QS) : Prop :=
  ∀ j t2 t3 H2, H0 <+: H2 → listAt H2 j = some (ws.map V.str) → forGo (whBX O8 wrB noXS) (fun H' => listAt H' i = some l) [2] rest [some v, some (.ref j), t2, t3, none, none, none] H2 Q
/- the last statement of the body, the parts known -/
theorem wr_add {h : V} {rest : List V} {ws ss : List Str} {parts : List V} {j k : Nat} {H' : Hp} (hi : listAt H0 i = some l) (hp : H0 <+: H') (hw : ws.length ≤ 100) (hss : ss.length ≤ 4) (hj : listAt H' j = some (ws.map V.str)) (hk : listAt H' k = some parts) (hpt : Parts parts ss) (q : WrGo v i l H0 rest (ws ++ ss) Q) :
    wpSs O8 [wrC] [some v, some (.ref j), some h, some (.ref k), none, none, none] H' (fkX (whBX O8 wrB noXS) (fun H' => listAt H' i = some l) [2] rest Q) noXS := by
  refine zs_cons ?_
  rw [Z_assign]
  simp only [X_bin, X_loc, X_comp, XEs_nil, XEs_cons, List.getElem?_cons_zero, List.getElem?_cons_succ, oKK_some, u_ref, hk, oK_some]
  refine comp_parts (acc := []) (by simp) (fun H2 hp2 => listAt_pre hp2 hk) H' hpt (List.prefix_refl _) fun H2 hp2 => ?_
  rw [List.nil_append]
  refine ⟨by rw [List.length_map]; omega, ?_⟩
  have hj2 := listAt_pre (pre_new (o := .list (ss.map V.str))) (listAt_pre hp2 hj)
  simp only [q_list, oK_some, hj2, listAt_new]
  refine ⟨by simp only [List.length_map]; omega, ?_⟩
  simp only [↓X_lit, ↓X_loc, ↓X_bin, ↓negX_int, ↓X_neg, ↓X_not, ↓Y_not, ↓X_and, ↓Y_and, ↓X_or, ↓Y_or, ↓X_cmp, ↓X_cmp2, ↓X_ite, ↓Y_ite, ↓X_tup, ↓X_lst, ↓X_call, ↓X_meth, ↓X_sub, ↓X_comp, ↓Y_lit, ↓Y_loc, ↓Y_cmp, ↓Y_cmp2, ↓Y_call, ↓Y_sub, ↓XEs_nil, ↓XEs_cons, ↓XIfs_nil, ↓XIfs_cons, ↓Z_expr, ↓Z_assign, ↓Z_ret, ↓Z_retNone, ↓Z_ite, ↓Z_for, ↓Z_raise, ↓Z_pass, ↓Z_brk, ↓Z_cont, ↓Zs_nil, ↓sqX_next, ↓sqX_brk, ↓sqX_cont, ↓sqX_ret, ↓Zs_cons, ↓wkX_next, ↓wkX_cont, ↓wkX_brk, ↓wkX_ret, ↓fkX_next, ↓fkX_cont, ↓fkX_brk, ↓fkX_ret, ↓xb_one, ↓oKK_some, ↓oK_some, ↓tX_bool, ↓iX_t, ↓iX_f, ↓iX_d, ↓q_add, ↓q_sub, ↓q_mul, ↓q_div, ↓q_mod, ↓q_pow, ↓q_list, ↓q_eq, ↓q_ne, ↓q_eqs, ↓q_nes, ↓q_eqb, ↓q_lt, ↓q_le, ↓q_gt, ↓q_ge, ↓q_in, ↓q_inl, ↓q_nin, ↓q_is, ↓q_isnot, ↓q_stup, ↓q_sref, ↓q_sscr, ↓q_fn, ↓q_lentup, ↓q_lenref, ↓q_lenscr, ↓q_isi, ↓q_all, ↓q_max, ↓q_min, ↓q_int, ↓q_tuple, ↓q_listc, ↓q_append, ↓q_clear, ↓q_index, ↓q_pop, ↓q_slicet, ↓q_revt, ↓q_revl, ↓q_set, ↓q_repr, ↓q_eqo, ↓X_rev, ↓Z_set, ↓q_addt, ↓q_listt, ↓q_ninl, ↓u_tup, ↓u_ref, ↓u_range, ↓q_slice, ↓oi_none, ↓oi_int, ↓X_slice, ↓XO_none, ↓XO_some, ↓u_rev, ↓u_zip, ↓xb_two, ↓u_range2, ↓retV_ret, ↓retV_next, List.getElem?_cons_zero, List.getElem?_cons_succ, List.set_cons_zero, List.set_cons_succ, Bool.not_true, Bool.not_false, idx_0, idx_1, idx_2, idx_3, idx_4, idx_5, Int.reduceAdd, Int.reduceSub, Int.reduceMul, Int.reduceNeg, Int.reducePow, Int.reduceLT, Int.reduceLE, Int.reduceEq, Int.reduceNe, Int.reduceToNat, Int.reduceAbs, Nat.reduceAdd, Nat.reduceLT, Nat.reduceLeDiff, Nat.reducePow, Nat.reduceLT, List.length_cons, List.length_nil, true_implies, false_implies, not_true_eq_false, not_false_eq_true, and_true, true_and, and_self, or_true, true_or, decide_true, decide_false, exists_eq_left', Option.some.injEq]
  refine ⟨listAt_pre (hp.trans (hp2.trans (pre_new.trans pre_new))) hi, q _ _ _ _ (hp.trans (hp2.trans (pre_new.trans pre_new))) ?_⟩
  rw [listAt_new]; simp
theorem wr_in {u : Str} {x w : V} {rest : List V} {ws ss : List Str} (hi : listAt H0 i = some l) (hw : ws.length ≤ 100) (hss : ss.length ≤ 4) (hm : memV (.str u) bearL = some true) (hpt : Parts [.str u, x] ss) (q : WrGo v i l H0 rest (ws ++ ss) Q) : WrGo v i l H0 (.tup [.str u, x, w] :: rest) ws Q := by
  intro j t2 t3 H2 hp hj
  rw [foX_cons]
  simp only [xb_one, oK_some]
  refine zs_cons ?_
  generalize hK : sqX O8 (_ :: _) = K
  simp only [↓X_lit, ↓X_loc, ↓X_bin, ↓negX_int, ↓X_neg, ↓X_not, ↓Y_not, ↓X_and, ↓Y_and, ↓X_or, ↓Y_or, ↓X_cmp, ↓X_cmp2, ↓X_ite, ↓Y_ite, ↓X_tup, ↓X_lst, ↓X_call, ↓X_meth, ↓X_sub, ↓X_comp, ↓Y_lit, ↓Y_loc, ↓Y_cmp, ↓Y_cmp2, ↓Y_call, ↓Y_sub, ↓XEs_nil, ↓XEs_cons, ↓XIfs_nil, ↓XIfs_cons, ↓Z_expr, ↓Z_assign, ↓Z_ret, ↓Z_retNone, ↓Z_ite, ↓Z_for, ↓Z_raise, ↓Z_pass, ↓Z_brk, ↓Z_cont, ↓Zs_nil, ↓sqX_next, ↓sqX_brk, ↓sqX_cont, ↓sqX_ret, ↓Zs_cons, ↓wkX_next, ↓wkX_cont, ↓wkX_brk, ↓wkX_ret, ↓fkX_next, ↓fkX_cont, ↓fkX_brk, ↓fkX_ret, ↓xb_one, ↓oKK_some, ↓oK_some, ↓tX_bool, ↓iX_t, ↓iX_f, ↓iX_d, ↓q_add, ↓q_sub, ↓q_mul, ↓q_div, ↓q_mod, ↓q_pow, ↓q_list, ↓q_eq, ↓q_ne, ↓q_eqs, ↓q_nes, ↓q_eqb, ↓q_lt, ↓q_le, ↓q_gt, ↓q_ge, ↓q_in, ↓q_inl, ↓q_nin, ↓q_is, ↓q_isnot, ↓q_stup, ↓q_sref, ↓q_sscr, ↓q_fn, ↓q_lentup, ↓q_lenref, ↓q_lenscr, ↓q_isi, ↓q_all, ↓q_max, ↓q_min, ↓q_int, ↓q_tuple, ↓q_listc, ↓q_append, ↓q_clear, ↓q_index, ↓q_pop, ↓q_slicet, ↓q_revt, ↓q_revl, ↓q_set, ↓q_repr, ↓q_eqo, ↓X_rev, ↓Z_set, ↓q_addt, ↓q_listt, ↓q_ninl, ↓u_tup, ↓u_ref, ↓u_range, ↓q_slice, ↓oi_none, ↓oi_int, ↓X_slice, ↓XO_none, ↓XO_some, ↓u_rev, ↓u_zip, ↓xb_two, ↓u_range2, ↓retV_ret, ↓retV_next, List.getElem?_cons_zero, List.getElem?_cons_succ, List.set_cons_zero, List.set_cons_succ, Bool.not_true, Bool.not_false, idx_0, idx_1, idx_2, idx_3, idx_4, idx_5, Int.reduceAdd, Int.reduceSub, Int.reduceMul, Int.reduceNeg, Int.reducePow, Int.reduceLT, Int.reduceLE, Int.reduceEq, Int.reduceNe, Int.reduceToNat, Int.reduceAbs, Nat.reduceAdd, Nat.reduceLT, Nat.reduceLeDiff, Nat.reducePow, Nat.reduceLT, List.length_cons, List.length_nil, true_implies, false_implies, not_true_eq_false, not_false_eq_true, and_true, true_and, and_self, or_true, true_or, decide_true, decide_false, exists_eq_left', Option.some.injEq]
  subst hK
  refine zs_cons ?_
  generalize hK : sqX O8 (_ :: _) = K
  simp only [↓X_lit, ↓X_loc, ↓X_bin, ↓negX_int, ↓X_neg, ↓X_not, ↓Y_not, ↓X_and, ↓Y_and, ↓X_or, ↓Y_or, ↓X_cmp, ↓X_cmp2, ↓X_ite, ↓Y_ite, ↓X_tup, ↓X_lst, ↓X_call, ↓X_meth, ↓X_sub, ↓X_comp, ↓Y_lit, ↓Y_loc, ↓Y_cmp, ↓Y_cmp2, ↓Y_call, ↓Y_sub, ↓XEs_nil, ↓XEs_cons, ↓XIfs_nil, ↓XIfs_cons, ↓Z_expr, ↓Z_assign, ↓Z_ret, ↓Z_retNone, ↓Z_ite, ↓Z_for, ↓Z_raise, ↓Z_pass, ↓Z_brk, ↓Z_cont, ↓Zs_nil, ↓sqX_next, ↓sqX_brk, ↓sqX_cont, ↓sqX_ret, ↓Zs_cons, ↓wkX_next, ↓wkX_cont, ↓wkX_brk, ↓wkX_ret, ↓fkX_next, ↓fkX_cont, ↓fkX_brk, ↓fkX_ret, ↓xb_one, ↓oKK_some, ↓oK_some, ↓tX_bool, ↓iX_t, ↓iX_f, ↓iX_d, ↓q_add, ↓q_sub, ↓q_mul, ↓q_div, ↓q_mod, ↓q_pow, ↓q_list, ↓q_eq, ↓q_ne, ↓q_eqs, ↓q_nes, ↓q_eqb, ↓q_lt, ↓q_le, ↓q_gt, ↓q_ge, ↓q_in, ↓q_inl, ↓q_nin, ↓q_is, ↓q_isnot, ↓q_stup, ↓q_sref, ↓q_sscr, ↓q_fn, ↓q_lentup, ↓q_lenref, ↓q_lenscr, ↓q_isi, ↓q_all, ↓q_max, ↓q_min, ↓q_int, ↓q_tuple, ↓q_listc, ↓q_append, ↓q_clear, ↓q_index, ↓q_pop, ↓q_slicet, ↓q_revt, ↓q_revl, ↓q_set, ↓q_repr, ↓q_eqo, ↓X_rev, ↓Z_set, ↓q_addt, ↓q_listt, ↓q_ninl, ↓u_tup, ↓u_ref, ↓u_range, ↓q_slice, ↓oi_none, ↓oi_int, ↓X_slice, ↓XO_none, ↓XO_some, ↓u_rev, ↓u_zip, ↓xb_two, ↓u_range2, ↓retV_ret, ↓retV_next, List.getElem?_cons_zero, List.getElem?_cons_succ, List.set_cons_zero, List.set_cons_succ, Bool.not_true, Bool.not_false, idx_0, idx_1, idx_2, idx_3, idx_4, idx_5, Int.reduceAdd, Int.reduceSub, Int.reduceMul, Int.reduceNeg, Int.reducePow, Int.reduceLT, Int.reduceLE, Int.reduceEq, Int.reduceNe, Int.reduceToNat, Int.reduceAbs, Nat.reduceAdd, Nat.reduceLT, Nat.reduceLeDiff, Nat.reducePow, Nat.reduceLT, List.length_cons, List.length_nil, true_implies, false_implies, not_true_eq_false, not_false_eq_true, and_true, true_and, and_self, or_true, true_or, decide_true, decide_false, exists_eq_left', Option.some.injEq, ↓O8_be]
  refine ⟨rfl, ?_⟩
  simp only [↓X_lit, ↓X_loc, ↓X_bin, ↓negX_int, ↓X_neg, ↓X_not, ↓Y_not, ↓X_and, ↓Y_and, ↓X_or, ↓Y_or, ↓X_cmp, ↓X_cmp2, ↓X_ite, ↓Y_ite, ↓X_tup, ↓X_lst, ↓X_call, ↓X_meth, ↓X_sub, ↓X_comp, ↓Y_lit, ↓Y_loc, ↓Y_cmp, ↓Y_cmp2, ↓Y_call, ↓Y_sub, ↓XEs_nil, ↓XEs_cons, ↓XIfs_nil, ↓XIfs_cons, ↓Z_expr, ↓Z_assign, ↓Z_ret, ↓Z_retNone, ↓Z_ite, ↓Z_for, ↓Z_raise, ↓Z_pass, ↓Z_brk, ↓Z_cont, ↓Zs_nil, ↓sqX_next, ↓sqX_brk, ↓sqX_cont, ↓sqX_ret, ↓Zs_cons, ↓wkX_next, ↓wkX_cont, ↓wkX_brk, ↓wkX_ret, ↓fkX_next, ↓fkX_cont, ↓fkX_brk, ↓fkX_ret, ↓xb_one, ↓oKK_some, ↓oK_some, ↓tX_bool, ↓iX_t, ↓iX_f, ↓iX_d, ↓q_add, ↓q_sub, ↓q_mul, ↓q_div, ↓q_mod, ↓q_pow, ↓q_list, ↓q_eq, ↓q_ne, ↓q_eqs, ↓q_nes, ↓q_eqb, ↓q_lt, ↓q_le, ↓q_gt, ↓q_ge, ↓q_in, ↓q_inl, ↓q_nin, ↓q_is, ↓q_isnot, ↓q_stup, ↓q_sref, ↓q_sscr, ↓q_fn, ↓q_lentup, ↓q_lenref, ↓q_lenscr, ↓q_isi, ↓q_all, ↓q_max, ↓q_min, ↓q_int, ↓q_tuple, ↓q_listc, ↓q_append, ↓q_clear, ↓q_index, ↓q_pop, ↓q_slicet, ↓q_revt, ↓q_revl, ↓q_set, ↓q_repr, ↓q_eqo, ↓X_rev, ↓Z_set, ↓q_addt, ↓q_listt, ↓q_ninl, ↓u_tup, ↓u_ref, ↓u_range, ↓q_slice, ↓oi_none, ↓oi_int, ↓X_slice, ↓XO_none, ↓XO_some, ↓u_rev, ↓u_zip, ↓xb_two, ↓u_range2, ↓retV_ret, ↓retV_next, List.getElem?_cons_zero, List.getElem?_cons_succ, List.set_cons_zero, List.set_cons_succ, Bool.not_true, Bool.not_false, idx_0, idx_1, idx_2, idx_3, idx_4, idx_5, Int.reduceAdd, Int.reduceSub, Int.reduceMul, Int.reduceNeg, Int.reducePow, Int.reduceLT, Int.reduceLE, Int.reduceEq, Int.reduceNe, Int.reduceToNat, Int.reduceAbs, Nat.reduceAdd, Nat.reduceLT, Nat.reduceLeDiff, Nat.reducePow, Nat.reduceLT, List.length_cons, List.length_nil, true_implies, false_implies, not_true_eq_false, not_false_eq_true, and_true, true_and, and_self, or_true, true_or, decide_true, decide_false, exists_eq_left', Option.some.injEq, listAt_new, hm]
  subst hK
  refine wr_add hi (hp.trans (pre_new.trans (pre_new.trans pre_new))) hw hss ?_ listAt_new hpt q
  exact listAt_pre (pre_new.trans (pre_new.trans pre_new)) hj
theorem wr_out {u : Str} {parts rest : List V} {ws ss : List Str} (hi : listAt H0 i = some l) (hw : ws.length ≤ 100) (hss : ss.length ≤ 4) (hm : memV (.str u) bearL = some false) (hpt : Parts (.str u :: parts) ss) (q : WrGo v i l H0 rest (ws ++ ss) Q) : WrGo v i l H0 (.tup (.str u :: parts) :: rest) ws Q := by
  intro j t2 t3 H2 hp hj
  rw [foX_cons]
  simp only [xb_one, oK_some]
  refine zs_cons ?_
  generalize hK : sqX O8 (_ :: _) = K
  simp only [↓X_lit, ↓X_loc, ↓X_bin, ↓negX_int, ↓X_neg, ↓X_not, ↓Y_not, ↓X_and, ↓Y_and, ↓X_or, ↓Y_or, ↓X_cmp, ↓X_cmp2, ↓X_ite, ↓Y_ite, ↓X_tup, ↓X_lst, ↓X_call, ↓X_meth, ↓X_sub, ↓X_comp, ↓Y_lit, ↓Y_loc, ↓Y_cmp, ↓Y_cmp2, ↓Y_call, ↓Y_sub, ↓XEs_nil, ↓XEs_cons, ↓XIfs_nil, ↓XIfs_cons, ↓Z_expr, ↓Z_assign, ↓Z_ret, ↓Z_retNone, ↓Z_ite, ↓Z_for, ↓Z_raise, ↓Z_pass, ↓Z_brk, ↓Z_cont, ↓Zs_nil, ↓sqX_next, ↓sqX_brk, ↓sqX_cont, ↓sqX_ret, ↓Zs_cons, ↓wkX_next, ↓wkX_cont, ↓wkX_brk, ↓wkX_ret, ↓fkX_next, ↓fkX_cont, ↓fkX_brk, ↓fkX_ret, ↓xb_one, ↓oKK_some, ↓oK_some, ↓tX_bool, ↓iX_t, ↓iX_f, ↓iX_d, ↓q_add, ↓q_sub, ↓q_mul, ↓q_div, ↓q_mod, ↓q_pow, ↓q_list, ↓q_eq, ↓q_ne, ↓q_eqs, ↓q_nes, ↓q_eqb, ↓q_lt, ↓q_le, ↓q_gt, ↓q_ge, ↓q_in, ↓q_inl, ↓q_nin, ↓q_is, ↓q_isnot, ↓q_stup, ↓q_sref, ↓q_sscr, ↓q_fn, ↓q_lentup, ↓q_lenref, ↓q_lenscr, ↓q_isi, ↓q_all, ↓q_max, ↓q_min, ↓q_int, ↓q_tuple, ↓q_listc, ↓q_append, ↓q_clear, ↓q_index, ↓q_pop, ↓q_slicet, ↓q_revt, ↓q_revl, ↓q_set, ↓q_repr, ↓q_eqo, ↓X_rev, ↓Z_set, ↓q_addt, ↓q_listt, ↓q_ninl, ↓u_tup, ↓u_ref, ↓u_range, ↓q_slice, ↓oi_none, ↓oi_int, ↓X_slice, ↓XO_none, ↓XO_some, ↓u_rev, ↓u_zip, ↓xb_two, ↓u_range2, ↓retV_ret, ↓retV_next, List.getElem?_cons_zero, List.getElem?_cons_succ, List.set_cons_zero, List.set_cons_succ, Bool.not_true, Bool.not_false, idx_0, idx_1, idx_2, idx_3, idx_4, idx_5, Int.reduceAdd, Int.reduceSub, Int.reduceMul, Int.reduceNeg, Int.reducePow, Int.reduceLT, Int.reduceLE, Int.reduceEq, Int.reduceNe, Int.reduceToNat, Int.reduceAbs, Nat.reduceAdd, Nat.reduceLT, Nat.reduceLeDiff, Nat.reducePow, Nat.reduceLT, List.length_cons, List.length_nil, true_implies, false_implies, not_true_eq_false, not_false_eq_true, and_true, true_and, and_self, or_true, true_or, decide_true, decide_false, exists_eq_left', Option.some.injEq]
  subst hK
  refine zs_cons ?_
  generalize hK : sqX O8 (_ :: _) = K
  simp only [↓X_lit, ↓X_loc, ↓X_bin, ↓negX_int, ↓X_neg, ↓X_not, ↓Y_not, ↓X_and, ↓Y_and, ↓X_or, ↓Y_or, ↓X_cmp, ↓X_cmp2, ↓X_ite, ↓Y_ite, ↓X_tup, ↓X_lst, ↓X_call, ↓X_meth, ↓X_sub, ↓X_comp, ↓Y_lit, ↓Y_loc, ↓Y_cmp, ↓Y_cmp2, ↓Y_call, ↓Y_sub, ↓XEs_nil, ↓XEs_cons, ↓XIfs_nil, ↓XIfs_cons, ↓Z_expr, ↓Z_assign, ↓Z_ret, ↓Z_retNone, ↓Z_ite, ↓Z_for, ↓Z_raise, ↓Z_pass, ↓Z_brk, ↓Z_cont, ↓Zs_nil, ↓sqX_next, ↓sqX_brk, ↓sqX_cont, ↓sqX_ret, ↓Zs_cons, ↓wkX_next, ↓wkX_cont, ↓wkX_brk, ↓wkX_ret, ↓fkX_next, ↓fkX_cont, ↓fkX_brk, ↓fkX_ret, ↓xb_one, ↓oKK_some, ↓oK_some, ↓tX_bool, ↓iX_t, ↓iX_f, ↓iX_d, ↓q_add, ↓q_sub, ↓q_mul, ↓q_div, ↓q_mod, ↓q_pow, ↓q_list, ↓q_eq, ↓q_ne, ↓q_eqs, ↓q_nes, ↓q_eqb, ↓q_lt, ↓q_le, ↓q_gt, ↓q_ge, ↓q_in, ↓q_inl, ↓q_nin, ↓q_is, ↓q_isnot, ↓q_stup, ↓q_sref, ↓q_sscr, ↓q_fn, ↓q_lentup, ↓q_lenref, ↓q_lenscr, ↓q_isi, ↓q_all, ↓q_max, ↓q_min, ↓q_int, ↓q_tuple, ↓q_listc, ↓q_append, ↓q_clear, ↓q_index, ↓q_pop, ↓q_slicet, ↓q_revt, ↓q_revl, ↓q_set, ↓q_repr, ↓q_eqo, ↓X_rev, ↓Z_set, ↓q_addt, ↓q_listt, ↓q_ninl, ↓u_tup, ↓u_ref, ↓u_range, ↓q_slice, ↓oi_none, ↓oi_int, ↓X_slice, ↓XO_none, ↓XO_some, ↓u_rev, ↓u_zip, ↓xb_two, ↓u_range2, ↓retV_ret, ↓retV_next, List.getElem?_cons_zero, List.getElem?_cons_succ, List.set_cons_zero, List.set_cons_succ, Bool.not_true, Bool.not_false, idx_0, idx_1, idx_2, idx_3, idx_4, idx_5, Int.reduceAdd, Int.reduceSub, Int.reduceMul, Int.reduceNeg, Int.reducePow, Int.reduceLT, Int.reduceLE, Int.reduceEq, Int.reduceNe, Int.reduceToNat, Int.reduceAbs, Nat.reduceAdd, Nat.reduceLT, Nat.reduceLeDiff, Nat.reducePow, Nat.reduceLT, List.length_cons, List.length_nil, true_implies, false_implies, not_true_eq_false, not_false_eq_true, and_true, true_and, and_self, or_true, true_or, decide_true, decide_false, exists_eq_left', Option.some.injEq, ↓O8_be]
  refine ⟨rfl, ?_⟩
  simp only [↓X_lit, ↓X_loc, ↓X_bin, ↓negX_int, ↓X_neg, ↓X_not, ↓Y_not, ↓X_and, ↓Y_and, ↓X_or, ↓Y_or, ↓X_cmp, ↓X_cmp2, ↓X_ite, ↓Y_ite, ↓X_tup, ↓X_lst, ↓X_call, ↓X_meth, ↓X_sub, ↓X_comp, ↓Y_lit, ↓Y_loc, ↓Y_cmp, ↓Y_cmp2, ↓Y_call, ↓Y_sub, ↓XEs_nil, ↓XEs_cons, ↓XIfs_nil, ↓XIfs_cons, ↓Z_expr, ↓Z_assign, ↓Z_ret, ↓Z_retNone, ↓Z_ite, ↓Z_for, ↓Z_raise, ↓Z_pass, ↓Z_brk, ↓Z_cont, ↓Zs_nil, ↓sqX_next, ↓sqX_brk, ↓sqX_cont, ↓sqX_ret, ↓Zs_cons, ↓wkX_next, ↓wkX_cont, ↓wkX_brk, ↓wkX_ret, ↓fkX_next, ↓fkX_cont, ↓fkX_brk, ↓fkX_ret, ↓xb_one, ↓oKK_some, ↓oK_some, ↓tX_bool, ↓iX_t, ↓iX_f, ↓iX_d, ↓q_add, ↓q_sub, ↓q_mul, ↓q_div, ↓q_mod, ↓q_pow, ↓q_list, ↓q_eq, ↓q_ne, ↓q_eqs, ↓q_nes, ↓q_eqb, ↓q_lt, ↓q_le, ↓q_gt, ↓q_ge, ↓q_in, ↓q_inl, ↓q_nin, ↓q_is, ↓q_isnot, ↓q_stup, ↓q_sref, ↓q_sscr, ↓q_fn, ↓q_lentup, ↓q_lenref, ↓q_lenscr, ↓q_isi, ↓q_all, ↓q_max, ↓q_min, ↓q_int, ↓q_tuple, ↓q_listc, ↓q_append, ↓q_clear, ↓q_index, ↓q_pop, ↓q_slicet, ↓q_revt, ↓q_revl, ↓q_set, ↓q_repr, ↓q_eqo, ↓X_rev, ↓Z_set, ↓q_addt, ↓q_listt, ↓q_ninl, ↓u_tup, ↓u_ref, ↓u_range, ↓q_slice, ↓oi_none, ↓oi_int, ↓X_slice, ↓XO_none, ↓XO_some, ↓u_rev, ↓u_zip, ↓xb_two, ↓u_range2, ↓retV_ret, ↓retV_next, List.getElem?_cons_zero, List.getElem?_cons_succ, List.set_cons_zero, List.set_cons_succ, Bool.not_true, Bool.not_false, idx_0, idx_1, idx_2, idx_3, idx_4, idx_5, Int.reduceAdd, Int.reduceSub, Int.reduceMul, Int.reduceNeg, Int.reducePow, Int.reduceLT, Int.reduceLE, Int.reduceEq, Int.reduceNe, Int.reduceToNat, Int.reduceAbs, Nat.reduceAdd, Nat.reduceLT, Nat.reduceLeDiff, Nat.reducePow, Nat.reduceLT, List.length_cons, List.length_nil, true_implies, false_implies, not_true_eq_false, not_false_eq_true, and_true, true_and, and_self, or_true, true_or, decide_true, decide_false, exists_eq_left', Option.some.injEq, listAt_new, hm]
  subst hK
  refine wr_add hi (hp.trans (pre_new.trans pre_new)) hw hss ?_ (listAt_pre pre_new listAt_new) hpt q
  exact listAt_pre (pre_new.trans pre_new) hj
theorem wr_end {ws : List Str} (hq : ∀ j t2 t3 H2, H0 <+: H2 → listAt H2 j = some (ws.map V.str) → Q .next [some v, some (.ref j), t2, t3, none, none, none] H2) : WrGo v i l H0 [] ws Q := fun j t2 t3 H2 hp hj => hq j t2 t3 H2 hp hj
theorem p_num {n : Int} (h : small n) : PartOf (.int n) (numS n) := .inr (.inl ⟨n, h, rfl, rfl⟩)
theorem p_str {s : Str} : PartOf (.str s) s := .inl rfl
theorem p_list {ds : List Int} (hs : ∀ d ∈ ds, small d) (hl : ds.length ≤ 20) : PartOf (intsV ds) (listS ds) := .inr (.inr ⟨ds, hs, hl, rfl, rfl⟩)
theorem wr_rule : ∀ (r : Rl) (ws : List Str), listAt H0 i = some l → r.good → ws.length + 2 * r.depth ≤ 90 →
    (∀ j t2 t3 H2, H0 <+: H2 → listAt H2 j = some ((ws ++ r.words).map V.str) → Q .next [some v, some (.ref j), t2, t3, none, none, none] H2) → WrGo v i l H0 (r.heads.map rv) ws Q := by
  intro r
  induction r with
  | once h s => intro ws hi g hz q; simp only [Rl.depth] at hz; exact wr_out hi (by omega) (by simp) mo_once (.cons p_str (.cons (p_num g.1.small) (.cons (p_num g.2.small) .nil))) (wr_end q)
  | every h s p => intro ws hi g hz q; simp only [Rl.depth] at hz; exact wr_out hi (by omega) (by simp) mo_every (.cons p_str (.cons (p_num g.1.small) (.cons (p_num g.2.1.small) (.cons (p_num (by have := g.2.2; unfold small; omega)) .nil)))) (wr_end q)
  | week ds t s => intro ws hi g hz q; simp only [Rl.depth] at hz; exact wr_out hi (by omega) (by simp) mo_week (.cons p_str (.cons (p_list (g.1.small (by decide)) (Nat.le_trans g.1.2.1 (by decide))) (.cons (p_num (by have := g.2.1; unfold small; omega)) (.cons (p_num g.2.2.small) .nil)))) (wr_end q)
  | month d t s => intro ws hi g hz q; simp only [Rl.depth] at hz; exact wr_out hi (by omega) (by simp) mo_month (.cons p_str (.cons (p_num (by have := g.1; unfold small; omega)) (.cons (p_num (by have := g.2.1; unfold small; omega)) (.cons (p_num g.2.2.small) .nil)))) (wr_end q)
  | frm h r ih => intro ws hi g hz q; simp only [Rl.depth] at hz; exact wr_in hi (by omega) (by simp) mo_frm (.cons p_str (.cons (p_num g.1.small) .nil)) (ih _ hi g.2 (by simp; omega) fun j t2 t3 H2 hp hl => q j t2 t3 H2 hp (by rw [hl]; simp [Rl.words]))
  | til h r ih => intro ws hi g hz q; simp only [Rl.depth] at hz; exact wr_in hi (by omega) (by simp) mo_til (.cons p_str (.cons (p_num g.1.small) .nil)) (ih _ hi g.2 (by simp; omega) fun j t2 t3 H2 hp hl => q j t2 t3 H2 hp (by rw [hl]; simp [Rl.words]))
  | als h r ih => intro ws hi g hz q; simp only [Rl.depth] at hz; exact wr_in hi (by omega) (by simp) mo_als (.cons p_str (.cons (p_num g.1.small) .nil)) (ih _ hi g.2 (by simp; omega) fun j t2 t3 H2 hp hl => q j t2 t3 H2 hp (by rw [hl]; simp [Rl.words]))
  | but ds r ih => intro ws hi g hz q; simp only [Rl.depth] at hz; exact wr_in hi (by omega) (by simp) mo_but (.cons p_str (.cons (p_list (g.1.small (by decide)) g.1.2.1) .nil)) (ih _ hi g.2 (by simp; omega) fun j t2 t3 H2 hp hl => q j t2 t3 H2 hp (by rw [hl]; simp [Rl.words]))
end
noncomputable def C_wr : Ctr := fun vs H Q _ => ∃ r : Rl, vs = [rv r] ∧ r.good ∧ r.depth ≤ 8 ∧ ∀ H', H <+: H' → Q (.str r.text) H'
theorem w_written : ∀ vs H Q X, C_wr vs H Q X → wpFn O8 f_l_written vs H Q X := by
  rintro vs H Q X ⟨r, rfl, g, hd, q⟩
  refine fn_of rfl ?_
  change wpSs O8 f_l_written.body [some (rv r), none, none, none, none, none, none] H _ _
  refine zs_cons ?_
  generalize hK : sqX O8 (_ :: _) = K
  simp only [↓X_lit, ↓X_loc, ↓X_bin, ↓negX_int, ↓X_neg, ↓X_not, ↓Y_not, ↓X_and, ↓Y_and, ↓X_or, ↓Y_or, ↓X_cmp, ↓X_cmp2, ↓X_ite, ↓Y_ite, ↓X_tup, ↓X_lst, ↓X_call, ↓X_meth, ↓X_sub, ↓X_comp, ↓Y_lit, ↓Y_loc, ↓Y_cmp, ↓Y_cmp2, ↓Y_call, ↓Y_sub, ↓XEs_nil, ↓XEs_cons, ↓XIfs_nil, ↓XIfs_cons, ↓Z_expr, ↓Z_assign, ↓Z_ret, ↓Z_retNone, ↓Z_ite, ↓Z_for, ↓Z_raise, ↓Z_pass, ↓Z_brk, ↓Z_cont, ↓Zs_nil, ↓sqX_next, ↓sqX_brk, ↓sqX_cont, ↓sqX_ret, ↓Zs_cons, ↓wkX_next, ↓wkX_cont, ↓wkX_brk, ↓wkX_ret, ↓fkX_next, ↓fkX_cont, ↓fkX_brk, ↓fkX_ret, ↓xb_one, ↓oKK_some, ↓oK_some, ↓tX_bool, ↓iX_t, ↓iX_f, ↓iX_d, ↓q_add, ↓q_sub, ↓q_mul, ↓q_div, ↓q_mod, ↓q_pow, ↓q_list, ↓q_eq, ↓q_ne, ↓q_eqs, ↓q_nes, ↓q_eqb, ↓q_lt, ↓q_le, ↓q_gt, ↓q_ge, ↓q_in, ↓q_inl, ↓q_nin, ↓q_is, ↓q_isnot, ↓q_stup, ↓q_sref, ↓q_sscr, ↓q_fn, ↓q_lentup, ↓q_lenref, ↓q_lenscr, ↓q_isi, ↓q_all, ↓q_max, ↓q_min, ↓q_int, ↓q_tuple, ↓q_listc, ↓q_append, ↓q_clear, ↓q_index, ↓q_pop, ↓q_slicet, ↓q_revt, ↓q_revl, ↓q_set, ↓q_repr, ↓q_eqo, ↓X_rev, ↓Z_set, ↓q_addt, ↓q_listt, ↓q_ninl, ↓u_tup, ↓u_ref, ↓u_range, ↓q_slice, ↓oi_none, ↓oi_int, ↓X_slice, ↓XO_none, ↓XO_some, ↓u_rev, ↓u_zip, ↓xb_two, ↓u_range2, ↓retV_ret, ↓retV_next, List.getElem?_cons_zero, List.getElem?_cons_succ, List.set_cons_zero, List.set_cons_succ, Bool.not_true, Bool.not_false, idx_0, idx_1, idx_2, idx_3, idx_4, idx_5, Int.reduceAdd, Int.reduceSub, Int.reduceMul, Int.reduceNeg, Int.reducePow, Int.reduceLT, Int.reduceLE, Int.reduceEq, Int.reduceNe, Int.reduceToNat, Int.reduceAbs, Nat.reduceAdd, Nat.reduceLT, Nat.reduceLeDiff, Nat.reducePow, Nat.reduceLT, List.length_cons, List.length_nil, true_implies, false_implies, not_true_eq_false, not_false_eq_true, and_true, true_and, and_self, or_true, true_or, decide_true, decide_false, exists_eq_left', Option.some.injEq]
  subst hK
  refine zs_cons ?_
  rw [Z_for]
  generalize hK : sqX O8 (_ :: _) = K
  simp only [XEs_nil, XEs_cons, X_call, X_loc, List.getElem?_cons_zero, oKK_some, q_fn, ↓O8_hd]
  refine ⟨r, rfl, by omega, fun H' hp => ?_⟩
  simp only [u_ref, listAt_new, oK_some]
  refine wr_rule (H0 := H' ++ [.list (r.heads.map rv)]) r [] listAt_new g (by simp; omega) (fun j t2 t3 H2 hp2 hl => ?_) H.length none none _ (List.prefix_refl _) ?_
  · subst hK
    simp only [List.nil_append] at hl
    simp only [↓X_lit, ↓X_loc, ↓X_bin, ↓negX_int, ↓X_neg, ↓X_not, ↓Y_not, ↓X_and, ↓Y_and, ↓X_or, ↓Y_or, ↓X_cmp, ↓X_cmp2, ↓X_ite, ↓Y_ite, ↓X_tup, ↓X_lst, ↓X_call, ↓X_meth, ↓X_sub, ↓X_comp, ↓Y_lit, ↓Y_loc, ↓Y_cmp, ↓Y_cmp2, ↓Y_call, ↓Y_sub, ↓XEs_nil, ↓XEs_cons, ↓XIfs_nil, ↓XIfs_cons, ↓Z_expr, ↓Z_assign, ↓Z_ret, ↓Z_retNone, ↓Z_ite, ↓Z_for, ↓Z_raise, ↓Z_pass, ↓Z_brk, ↓Z_cont, ↓Zs_nil, ↓sqX_next, ↓sqX_brk, ↓sqX_cont, ↓sqX_ret, ↓Zs_cons, ↓wkX_next, ↓wkX_cont, ↓wkX_brk, ↓wkX_ret, ↓fkX_next, ↓fkX_cont, ↓fkX_brk, ↓fkX_ret, ↓xb_one, ↓oKK_some, ↓oK_some, ↓tX_bool, ↓iX_t, ↓iX_f, ↓iX_d, ↓q_add, ↓q_sub, ↓q_mul, ↓q_div, ↓q_mod, ↓q_pow, ↓q_list, ↓q_eq, ↓q_ne, ↓q_eqs, ↓q_nes, ↓q_eqb, ↓q_lt, ↓q_le, ↓q_gt, ↓q_ge, ↓q_in, ↓q_inl, ↓q_nin, ↓q_is, ↓q_isnot, ↓q_stup, ↓q_sref, ↓q_sscr, ↓q_fn, ↓q_lentup, ↓q_lenref, ↓q_lenscr, ↓q_isi, ↓q_all, ↓q_max, ↓q_min, ↓q_int, ↓q_tuple, ↓q_listc, ↓q_append, ↓q_clear, ↓q_index, ↓q_pop, ↓q_slicet, ↓q_revt, ↓q_revl, ↓q_set, ↓q_repr, ↓q_eqo, ↓X_rev, ↓Z_set, ↓q_addt, ↓q_listt, ↓q_ninl, ↓u_tup, ↓u_ref, ↓u_range, ↓q_slice, ↓oi_none, ↓oi_int, ↓X_slice, ↓XO_none, ↓XO_some, ↓u_rev, ↓u_zip, ↓xb_two, ↓u_range2, ↓retV_ret, ↓retV_next, List.getElem?_cons_zero, List.getElem?_cons_succ, List.set_cons_zero, List.set_cons_succ, Bool.not_true, Bool.not_false, idx_0, idx_1, idx_2, idx_3, idx_4, idx_5, Int.reduceAdd, Int.reduceSub, Int.reduceMul, Int.reduceNeg, Int.reducePow, Int.reduceLT, Int.reduceLE, Int.reduceEq, Int.reduceNe, Int.reduceToNat, Int.reduceAbs, Nat.reduceAdd, Nat.reduceLT, Nat.reduceLeDiff, Nat.reducePow, Nat.reduceLT, List.length_cons, List.length_nil, true_implies, false_implies, not_true_eq_false, not_false_eq_true, and_true, true_and, and_self, or_true, true_or, decide_true, decide_false, exists_eq_left', Option.some.injEq, ↓X_strm, ↓sV_str, ↓q_join, ↓q_split, ↓q_strint, ↓q_strstr, ↓q_intstr, ↓q_lenstr, ↓q_slices, ↓q_ins, ↓q_nins, ↓u_str, hl, strs_map]
    exact ⟨Nat.le_trans (words_sum g hd) (by decide), q H2 (pre_new.trans (hp.trans (pre_new.trans hp2)))⟩
  · exact listAt_pre (hp.trans pre_new) listAt_new
noncomputable def O9 : Orc := ext "_law_written" C_wr O8
theorem O9_ca : O9 "_law_cell_at" = C_cell_at := rfl
theorem O9_wp : O9 "_law_wide_plain" = C_wp := rfl
theorem O9_wh : O9 "_law_wide_head" = C_wh := rfl
theorem O9_wr : O9 "_law_written" = C_wr := rfl
theorem O9_sh : O9 "shown" = C_sh 8 := rfl
theorem O9_rd : O9 "read" = C_rd := rfl
noncomputable def C_lawF : Ctr := fun vs H Q _ => ∃ ns, vs = [.scr ns] ∧ ∀ H', H <+: H' → Q (.bool true) H'
theorem lf_tail {ns : List Int} {r : Rl} {t1 t6 t7 t8 : Option V} {H : Hp} {Q : V → Hp → Prop} {X : XL} (g : r.good) (hd : r.depth ≤ 7) (q : ∀ H', H <+: H' → Q (.bool true) H') :
    wpSs O9 (f_lawF.body.drop 2) [some (.scr ns), t1, some (rv r), none, none, none, t6, t7, t8] H (fun fl _ H1 => Q (retV fl) H1) (fun x _ H1 => X x H1) := by
  refine zs_cons ?_
  generalize hK : sqX O9 (_ :: _) = K
  simp only [↓X_lit, ↓X_loc, ↓X_bin, ↓negX_int, ↓X_neg, ↓X_not, ↓Y_not, ↓X_and, ↓Y_and, ↓X_or, ↓Y_or, ↓X_cmp, ↓X_cmp2, ↓X_ite, ↓Y_ite, ↓X_tup, ↓X_lst, ↓X_call, ↓X_meth, ↓X_sub, ↓X_comp, ↓Y_lit, ↓Y_loc, ↓Y_cmp, ↓Y_cmp2, ↓Y_call, ↓Y_sub, ↓XEs_nil, ↓XEs_cons, ↓XIfs_nil, ↓XIfs_cons, ↓Z_expr, ↓Z_assign, ↓Z_ret, ↓Z_retNone, ↓Z_ite, ↓Z_for, ↓Z_raise, ↓Z_pass, ↓Z_brk, ↓Z_cont, ↓Zs_nil, ↓sqX_next, ↓sqX_brk, ↓sqX_cont, ↓sqX_ret, ↓Zs_cons, ↓wkX_next, ↓wkX_cont, ↓wkX_brk, ↓wkX_ret, ↓fkX_next, ↓fkX_cont, ↓fkX_brk, ↓fkX_ret, ↓xb_one, ↓oKK_some, ↓oK_some, ↓tX_bool, ↓iX_t, ↓iX_f, ↓iX_d, ↓q_add, ↓q_sub, ↓q_mul, ↓q_div, ↓q_mod, ↓q_pow, ↓q_list, ↓q_eq, ↓q_ne, ↓q_eqs, ↓q_nes, ↓q_eqb, ↓q_lt, ↓q_le, ↓q_gt, ↓q_ge, ↓q_in, ↓q_inl, ↓q_nin, ↓q_is, ↓q_isnot, ↓q_stup, ↓q_sref, ↓q_sscr, ↓q_fn, ↓q_lentup, ↓q_lenref, ↓q_lenscr, ↓q_isi, ↓q_all, ↓q_max, ↓q_min, ↓q_int, ↓q_tuple, ↓q_listc, ↓q_append, ↓q_clear, ↓q_index, ↓q_pop, ↓q_slicet, ↓q_revt, ↓q_revl, ↓q_set, ↓q_repr, ↓q_eqo, ↓X_rev, ↓Z_set, ↓q_addt, ↓q_listt, ↓q_ninl, ↓u_tup, ↓u_ref, ↓u_range, ↓q_slice, ↓oi_none, ↓oi_int, ↓X_slice, ↓XO_none, ↓XO_some, ↓u_rev, ↓u_zip, ↓xb_two, ↓u_range2, ↓retV_ret, ↓retV_next, List.getElem?_cons_zero, List.getElem?_cons_succ, List.set_cons_zero, List.set_cons_succ, Bool.not_true, Bool.not_false, idx_0, idx_1, idx_2, idx_3, idx_4, idx_5, Int.reduceAdd, Int.reduceSub, Int.reduceMul, Int.reduceNeg, Int.reducePow, Int.reduceLT, Int.reduceLE, Int.reduceEq, Int.reduceNe, Int.reduceToNat, Int.reduceAbs, Nat.reduceAdd, Nat.reduceLT, Nat.reduceLeDiff, Nat.reducePow, Nat.reduceLT, List.length_cons, List.length_nil, true_implies, false_implies, not_true_eq_false, not_false_eq_true, and_true, true_and, and_self, or_true, true_or, decide_true, decide_false, exists_eq_left', Option.some.injEq, ↓O9_wr]
  subst hK
  refine ⟨r, rfl, g, by omega, fun H1 hp1 => zs_cons ?_⟩
  generalize hK : sqX O9 (_ :: _) = K
  simp only [↓X_lit, ↓X_loc, ↓X_bin, ↓negX_int, ↓X_neg, ↓X_not, ↓Y_not, ↓X_and, ↓Y_and, ↓X_or, ↓Y_or, ↓X_cmp, ↓X_cmp2, ↓X_ite, ↓Y_ite, ↓X_tup, ↓X_lst, ↓X_call, ↓X_meth, ↓X_sub, ↓X_comp, ↓Y_lit, ↓Y_loc, ↓Y_cmp, ↓Y_cmp2, ↓Y_call, ↓Y_sub, ↓XEs_nil, ↓XEs_cons, ↓XIfs_nil, ↓XIfs_cons, ↓Z_expr, ↓Z_assign, ↓Z_ret, ↓Z_retNone, ↓Z_ite, ↓Z_for, ↓Z_raise, ↓Z_pass, ↓Z_brk, ↓Z_cont, ↓Zs_nil, ↓sqX_next, ↓sqX_brk, ↓sqX_cont, ↓sqX_ret, ↓Zs_cons, ↓wkX_next, ↓wkX_cont, ↓wkX_brk, ↓wkX_ret, ↓fkX_next, ↓fkX_cont, ↓fkX_brk, ↓fkX_ret, ↓xb_one, ↓oKK_some, ↓oK_some, ↓tX_bool, ↓iX_t, ↓iX_f, ↓iX_d, ↓q_add, ↓q_sub, ↓q_mul, ↓q_div, ↓q_mod, ↓q_pow, ↓q_list, ↓q_eq, ↓q_ne, ↓q_eqs, ↓q_nes, ↓q_eqb, ↓q_lt, ↓q_le, ↓q_gt, ↓q_ge, ↓q_in, ↓q_inl, ↓q_nin, ↓q_is, ↓q_isnot, ↓q_stup, ↓q_sref, ↓q_sscr, ↓q_fn, ↓q_lentup, ↓q_lenref, ↓q_lenscr, ↓q_isi, ↓q_all, ↓q_max, ↓q_min, ↓q_int, ↓q_tuple, ↓q_listc, ↓q_append, ↓q_clear, ↓q_index, ↓q_pop, ↓q_slicet, ↓q_revt, ↓q_revl, ↓q_set, ↓q_repr, ↓q_eqo, ↓X_rev, ↓Z_set, ↓q_addt, ↓q_listt, ↓q_ninl, ↓u_tup, ↓u_ref, ↓u_range, ↓q_slice, ↓oi_none, ↓oi_int, ↓X_slice, ↓XO_none, ↓XO_some, ↓u_rev, ↓u_zip, ↓xb_two, ↓u_range2, ↓retV_ret, ↓retV_next, List.getElem?_cons_zero, List.getElem?_cons_succ, List.set_cons_zero, List.set_cons_succ, Bool.not_true, Bool.not_false, idx_0, idx_1, idx_2, idx_3, idx_4, idx_5, Int.reduceAdd, Int.reduceSub, Int.reduceMul, Int.reduceNeg, Int.reducePow, Int.reduceLT, Int.reduceLE, Int.reduceEq, Int.reduceNe, Int.reduceToNat, Int.reduceAbs, Nat.reduceAdd, Nat.reduceLT, Nat.reduceLeDiff, Nat.reducePow, Nat.reduceLT, List.length_cons, List.length_nil, true_implies, false_implies, not_true_eq_false, not_false_eq_true, and_true, true_and, and_self, or_true, true_or, decide_true, decide_false, exists_eq_left', Option.some.injEq, ↓O9_sh]
  subst hK
  refine ⟨r, rfl, g, by omega, by omega, fun H2 hp2 => zs_cons ?_⟩
  generalize hK : sqX O9 (_ :: _) = K
  have e3 : (r.text == r.text) = true := beq_self_eq_true _
  simp only [↓X_lit, ↓X_loc, ↓X_bin, ↓negX_int, ↓X_neg, ↓X_not, ↓Y_not, ↓X_and, ↓Y_and, ↓X_or, ↓Y_or, ↓X_cmp, ↓X_cmp2, ↓X_ite, ↓Y_ite, ↓X_tup, ↓X_lst, ↓X_call, ↓X_meth, ↓X_sub, ↓X_comp, ↓Y_lit, ↓Y_loc, ↓Y_cmp, ↓Y_cmp2, ↓Y_call, ↓Y_sub, ↓XEs_nil, ↓XEs_cons, ↓XIfs_nil, ↓XIfs_cons, ↓Z_expr, ↓Z_assign, ↓Z_ret, ↓Z_retNone, ↓Z_ite, ↓Z_for, ↓Z_raise, ↓Z_pass, ↓Z_brk, ↓Z_cont, ↓Zs_nil, ↓sqX_next, ↓sqX_brk, ↓sqX_cont, ↓sqX_ret, ↓Zs_cons, ↓wkX_next, ↓wkX_cont, ↓wkX_brk, ↓wkX_ret, ↓fkX_next, ↓fkX_cont, ↓fkX_brk, ↓fkX_ret, ↓xb_one, ↓oKK_some, ↓oK_some, ↓tX_bool, ↓iX_t, ↓iX_f, ↓iX_d, ↓q_add, ↓q_sub, ↓q_mul, ↓q_div, ↓q_mod, ↓q_pow, ↓q_list, ↓q_eq, ↓q_ne, ↓q_eqs, ↓q_nes, ↓q_eqb, ↓q_lt, ↓q_le, ↓q_gt, ↓q_ge, ↓q_in, ↓q_inl, ↓q_nin, ↓q_is, ↓q_isnot, ↓q_stup, ↓q_sref, ↓q_sscr, ↓q_fn, ↓q_lentup, ↓q_lenref, ↓q_lenscr, ↓q_isi, ↓q_all, ↓q_max, ↓q_min, ↓q_int, ↓q_tuple, ↓q_listc, ↓q_append, ↓q_clear, ↓q_index, ↓q_pop, ↓q_slicet, ↓q_revt, ↓q_revl, ↓q_set, ↓q_repr, ↓q_eqo, ↓X_rev, ↓Z_set, ↓q_addt, ↓q_listt, ↓q_ninl, ↓u_tup, ↓u_ref, ↓u_range, ↓q_slice, ↓oi_none, ↓oi_int, ↓X_slice, ↓XO_none, ↓XO_some, ↓u_rev, ↓u_zip, ↓xb_two, ↓u_range2, ↓retV_ret, ↓retV_next, List.getElem?_cons_zero, List.getElem?_cons_succ, List.set_cons_zero, List.set_cons_succ, Bool.not_true, Bool.not_false, idx_0, idx_1, idx_2, idx_3, idx_4, idx_5, Int.reduceAdd, Int.reduceSub, Int.reduceMul, Int.reduceNeg, Int.reducePow, Int.reduceLT, Int.reduceLE, Int.reduceEq, Int.reduceNe, Int.reduceToNat, Int.reduceAbs, Nat.reduceAdd, Nat.reduceLT, Nat.reduceLeDiff, Nat.reducePow, Nat.reduceLT, List.length_cons, List.length_nil, true_implies, false_implies, not_true_eq_false, not_false_eq_true, and_true, true_and, and_self, or_true, true_or, decide_true, decide_false, exists_eq_left', Option.some.injEq, isi_str_str, e3]
  subst hK
  refine zs_cons ?_
  generalize hK : sqX O9 (_ :: _) = K
  simp only [↓X_lit, ↓X_loc, ↓X_bin, ↓negX_int, ↓X_neg, ↓X_not, ↓Y_not, ↓X_and, ↓Y_and, ↓X_or, ↓Y_or, ↓X_cmp, ↓X_cmp2, ↓X_ite, ↓Y_ite, ↓X_tup, ↓X_lst, ↓X_call, ↓X_meth, ↓X_sub, ↓X_comp, ↓Y_lit, ↓Y_loc, ↓Y_cmp, ↓Y_cmp2, ↓Y_call, ↓Y_sub, ↓XEs_nil, ↓XEs_cons, ↓XIfs_nil, ↓XIfs_cons, ↓Z_expr, ↓Z_assign, ↓Z_ret, ↓Z_retNone, ↓Z_ite, ↓Z_for, ↓Z_raise, ↓Z_pass, ↓Z_brk, ↓Z_cont, ↓Zs_nil, ↓sqX_next, ↓sqX_brk, ↓sqX_cont, ↓sqX_ret, ↓Zs_cons, ↓wkX_next, ↓wkX_cont, ↓wkX_brk, ↓wkX_ret, ↓fkX_next, ↓fkX_cont, ↓fkX_brk, ↓fkX_ret, ↓xb_one, ↓oKK_some, ↓oK_some, ↓tX_bool, ↓iX_t, ↓iX_f, ↓iX_d, ↓q_add, ↓q_sub, ↓q_mul, ↓q_div, ↓q_mod, ↓q_pow, ↓q_list, ↓q_eq, ↓q_ne, ↓q_eqs, ↓q_nes, ↓q_eqb, ↓q_lt, ↓q_le, ↓q_gt, ↓q_ge, ↓q_in, ↓q_inl, ↓q_nin, ↓q_is, ↓q_isnot, ↓q_stup, ↓q_sref, ↓q_sscr, ↓q_fn, ↓q_lentup, ↓q_lenref, ↓q_lenscr, ↓q_isi, ↓q_all, ↓q_max, ↓q_min, ↓q_int, ↓q_tuple, ↓q_listc, ↓q_append, ↓q_clear, ↓q_index, ↓q_pop, ↓q_slicet, ↓q_revt, ↓q_revl, ↓q_set, ↓q_repr, ↓q_eqo, ↓X_rev, ↓Z_set, ↓q_addt, ↓q_listt, ↓q_ninl, ↓u_tup, ↓u_ref, ↓u_range, ↓q_slice, ↓oi_none, ↓oi_int, ↓X_slice, ↓XO_none, ↓XO_some, ↓u_rev, ↓u_zip, ↓xb_two, ↓u_range2, ↓retV_ret, ↓retV_next, List.getElem?_cons_zero, List.getElem?_cons_succ, List.set_cons_zero, List.set_cons_succ, Bool.not_true, Bool.not_false, idx_0, idx_1, idx_2, idx_3, idx_4, idx_5, Int.reduceAdd, Int.reduceSub, Int.reduceMul, Int.reduceNeg, Int.reducePow, Int.reduceLT, Int.reduceLE, Int.reduceEq, Int.reduceNe, Int.reduceToNat, Int.reduceAbs, Nat.reduceAdd, Nat.reduceLT, Nat.reduceLeDiff, Nat.reducePow, Nat.reduceLT, List.length_cons, List.length_nil, true_implies, false_implies, not_true_eq_false, not_false_eq_true, and_true, true_and, and_self, or_true, true_or, decide_true, decide_false, exists_eq_left', Option.some.injEq, ↓O9_rd]
  subst hK
  refine ⟨r, rfl, g, hd, fun H3 hp3 => zs_cons ?_⟩
  obtain ⟨d, hd1, o1, o2, o3⟩ := sh_rule (H := H3) g
  have ht : ∃ l, rv r = .tup l := by cases r <;> exact ⟨_, rfl⟩
  obtain ⟨l, hl⟩ := ht
  have e4 : (d.shown == d.shown) = true := beq_self_eq_true _
  have hb : d.showable = true ∧ d.depth ≤ 60 ∧ d.shown.length ≤ 1000000 := ⟨o1, by omega, by omega⟩
  rw [hl] at hd1 ⊢
  simp only [↓X_lit, ↓X_loc, ↓X_bin, ↓negX_int, ↓X_neg, ↓X_not, ↓Y_not, ↓X_and, ↓Y_and, ↓X_or, ↓Y_or, ↓X_cmp, ↓X_cmp2, ↓X_ite, ↓Y_ite, ↓X_tup, ↓X_lst, ↓X_call, ↓X_meth, ↓X_sub, ↓X_comp, ↓Y_lit, ↓Y_loc, ↓Y_cmp, ↓Y_cmp2, ↓Y_call, ↓Y_sub, ↓XEs_nil, ↓XEs_cons, ↓XIfs_nil, ↓XIfs_cons, ↓Z_expr, ↓Z_assign, ↓Z_ret, ↓Z_retNone, ↓Z_ite, ↓Z_for, ↓Z_raise, ↓Z_pass, ↓Z_brk, ↓Z_cont, ↓Zs_nil, ↓sqX_next, ↓sqX_brk, ↓sqX_cont, ↓sqX_ret, ↓Zs_cons, ↓wkX_next, ↓wkX_cont, ↓wkX_brk, ↓wkX_ret, ↓fkX_next, ↓fkX_cont, ↓fkX_brk, ↓fkX_ret, ↓xb_one, ↓oKK_some, ↓oK_some, ↓tX_bool, ↓iX_t, ↓iX_f, ↓iX_d, ↓q_add, ↓q_sub, ↓q_mul, ↓q_div, ↓q_mod, ↓q_pow, ↓q_list, ↓q_eq, ↓q_ne, ↓q_eqs, ↓q_nes, ↓q_eqb, ↓q_lt, ↓q_le, ↓q_gt, ↓q_ge, ↓q_in, ↓q_inl, ↓q_nin, ↓q_is, ↓q_isnot, ↓q_stup, ↓q_sref, ↓q_sscr, ↓q_fn, ↓q_lentup, ↓q_lenref, ↓q_lenscr, ↓q_isi, ↓q_all, ↓q_max, ↓q_min, ↓q_int, ↓q_tuple, ↓q_listc, ↓q_append, ↓q_clear, ↓q_index, ↓q_pop, ↓q_slicet, ↓q_revt, ↓q_revl, ↓q_set, ↓q_repr, ↓q_eqo, ↓X_rev, ↓Z_set, ↓q_addt, ↓q_listt, ↓q_ninl, ↓u_tup, ↓u_ref, ↓u_range, ↓q_slice, ↓oi_none, ↓oi_int, ↓X_slice, ↓XO_none, ↓XO_some, ↓u_rev, ↓u_zip, ↓xb_two, ↓u_range2, ↓retV_ret, ↓retV_next, List.getElem?_cons_zero, List.getElem?_cons_succ, List.set_cons_zero, List.set_cons_succ, Bool.not_true, Bool.not_false, idx_0, idx_1, idx_2, idx_3, idx_4, idx_5, Int.reduceAdd, Int.reduceSub, Int.reduceMul, Int.reduceNeg, Int.reducePow, Int.reduceLT, Int.reduceLE, Int.reduceEq, Int.reduceNe, Int.reduceToNat, Int.reduceAbs, Nat.reduceAdd, Nat.reduceLT, Nat.reduceLeDiff, Nat.reducePow, Nat.reduceLT, List.length_cons, List.length_nil, true_implies, false_implies, not_true_eq_false, not_false_eq_true, and_true, true_and, and_self, or_true, true_or, decide_true, decide_false, exists_eq_left', Option.some.injEq, isi_tup_tup, hd1, hb, e4]
  exact q _ (hp1.trans (hp2.trans hp3))
theorem lf_loop {ns : List Int} {t6 t7 t8 : Option V} {Q : QS} {H0 : Hp} : ∀ (ks : List Nat) (r : Rl) (t1 : Option V) (H : Hp), H0 <+: H → r.good → r.depth + ks.length ≤ 7 →
    (∀ r' t1' H', H0 <+: H' → r'.good → r'.depth ≤ 7 → Q .next [some (.scr ns), t1', some (rv r'), none, none, none, t6, t7, t8] H') →
    forGo (whBX O9 [(.assign 2 (.call (.fn "_law_wide_head") [(.call (.fn "_law_cell_at") [(.loc 0), (.bin .Add (.lit (.int 4)) (.loc 1))]), (.loc 2)]))] noXS) (fun _ => True) [1] (ks.map fun (k : Nat) => V.int (0 + (k : Int))) [some (.scr ns), t1, some (rv r), none, none, none, t6, t7, t8] H Q
  | [], r, t1, H, hp, g, hd, q => q r t1 H hp g (by simpa using hd)
  | k :: ks, r, t1, H, hp, g, hd, q => by
    rw [List.map_cons, foX_cons]
    simp only [List.length_cons] at hd
    simp only [↓X_lit, ↓X_loc, ↓X_bin, ↓negX_int, ↓X_neg, ↓X_not, ↓Y_not, ↓X_and, ↓Y_and, ↓X_or, ↓Y_or, ↓X_cmp, ↓X_cmp2, ↓X_ite, ↓Y_ite, ↓X_tup, ↓X_lst, ↓X_call, ↓X_meth, ↓X_sub, ↓X_comp, ↓Y_lit, ↓Y_loc, ↓Y_cmp, ↓Y_cmp2, ↓Y_call, ↓Y_sub, ↓XEs_nil, ↓XEs_cons, ↓XIfs_nil, ↓XIfs_cons, ↓Z_expr, ↓Z_assign, ↓Z_ret, ↓Z_retNone, ↓Z_ite, ↓Z_for, ↓Z_raise, ↓Z_pass, ↓Z_brk, ↓Z_cont, ↓Zs_nil, ↓sqX_next, ↓sqX_brk, ↓sqX_cont, ↓sqX_ret, ↓Zs_cons, ↓wkX_next, ↓wkX_cont, ↓wkX_brk, ↓wkX_ret, ↓fkX_next, ↓fkX_cont, ↓fkX_brk, ↓fkX_ret, ↓xb_one, ↓oKK_some, ↓oK_some, ↓tX_bool, ↓iX_t, ↓iX_f, ↓iX_d, ↓q_add, ↓q_sub, ↓q_mul, ↓q_div, ↓q_mod, ↓q_pow, ↓q_list, ↓q_eq, ↓q_ne, ↓q_eqs, ↓q_nes, ↓q_eqb, ↓q_lt, ↓q_le, ↓q_gt, ↓q_ge, ↓q_in, ↓q_inl, ↓q_nin, ↓q_is, ↓q_isnot, ↓q_stup, ↓q_sref, ↓q_sscr, ↓q_fn, ↓q_lentup, ↓q_lenref, ↓q_lenscr, ↓q_isi, ↓q_all, ↓q_max, ↓q_min, ↓q_int, ↓q_tuple, ↓q_listc, ↓q_append, ↓q_clear, ↓q_index, ↓q_pop, ↓q_slicet, ↓q_revt, ↓q_revl, ↓q_set, ↓q_repr, ↓q_eqo, ↓X_rev, ↓Z_set, ↓q_addt, ↓q_listt, ↓q_ninl, ↓u_tup, ↓u_ref, ↓u_range, ↓q_slice, ↓oi_none, ↓oi_int, ↓X_slice, ↓XO_none, ↓XO_some, ↓u_rev, ↓u_zip, ↓xb_two, ↓u_range2, ↓retV_ret, ↓retV_next, List.getElem?_cons_zero, List.getElem?_cons_succ, List.set_cons_zero, List.set_cons_succ, Bool.not_true, Bool.not_false, idx_0, idx_1, idx_2, idx_3, idx_4, idx_5, Int.reduceAdd, Int.reduceSub, Int.reduceMul, Int.reduceNeg, Int.reducePow, Int.reduceLT, Int.reduceLE, Int.reduceEq, Int.reduceNe, Int.reduceToNat, Int.reduceAbs, Nat.reduceAdd, Nat.reduceLT, Nat.reduceLeDiff, Nat.reducePow, Nat.reduceLT, List.length_cons, List.length_nil, true_implies, false_implies, not_true_eq_false, not_false_eq_true, and_true, true_and, and_self, or_true, true_or, decide_true, decide_false, exists_eq_left', Option.some.injEq, ↓O9_ca, ↓cc_cell, ↓O9_wh]
    refine ⟨by omega, _, r, rfl, g, fun r' H' hp' g' hd' => ?_⟩
    simp only [↓X_lit, ↓X_loc, ↓X_bin, ↓negX_int, ↓X_neg, ↓X_not, ↓Y_not, ↓X_and, ↓Y_and, ↓X_or, ↓Y_or, ↓X_cmp, ↓X_cmp2, ↓X_ite, ↓Y_ite, ↓X_tup, ↓X_lst, ↓X_call, ↓X_meth, ↓X_sub, ↓X_comp, ↓Y_lit, ↓Y_loc, ↓Y_cmp, ↓Y_cmp2, ↓Y_call, ↓Y_sub, ↓XEs_nil, ↓XEs_cons, ↓XIfs_nil, ↓XIfs_cons, ↓Z_expr, ↓Z_assign, ↓Z_ret, ↓Z_retNone, ↓Z_ite, ↓Z_for, ↓Z_raise, ↓Z_pass, ↓Z_brk, ↓Z_cont, ↓Zs_nil, ↓sqX_next, ↓sqX_brk, ↓sqX_cont, ↓sqX_ret, ↓Zs_cons, ↓wkX_next, ↓wkX_cont, ↓wkX_brk, ↓wkX_ret, ↓fkX_next, ↓fkX_cont, ↓fkX_brk, ↓fkX_ret, ↓xb_one, ↓oKK_some, ↓oK_some, ↓tX_bool, ↓iX_t, ↓iX_f, ↓iX_d, ↓q_add, ↓q_sub, ↓q_mul, ↓q_div, ↓q_mod, ↓q_pow, ↓q_list, ↓q_eq, ↓q_ne, ↓q_eqs, ↓q_nes, ↓q_eqb, ↓q_lt, ↓q_le, ↓q_gt, ↓q_ge, ↓q_in, ↓q_inl, ↓q_nin, ↓q_is, ↓q_isnot, ↓q_stup, ↓q_sref, ↓q_sscr, ↓q_fn, ↓q_lentup, ↓q_lenref, ↓q_lenscr, ↓q_isi, ↓q_all, ↓q_max, ↓q_min, ↓q_int, ↓q_tuple, ↓q_listc, ↓q_append, ↓q_clear, ↓q_index, ↓q_pop, ↓q_slicet, ↓q_revt, ↓q_revl, ↓q_set, ↓q_repr, ↓q_eqo, ↓X_rev, ↓Z_set, ↓q_addt, ↓q_listt, ↓q_ninl, ↓u_tup, ↓u_ref, ↓u_range, ↓q_slice, ↓oi_none, ↓oi_int, ↓X_slice, ↓XO_none, ↓XO_some, ↓u_rev, ↓u_zip, ↓xb_two, ↓u_range2, ↓retV_ret, ↓retV_next, List.getElem?_cons_zero, List.getElem?_cons_succ, List.set_cons_zero, List.set_cons_succ, Bool.not_true, Bool.not_false, idx_0, idx_1, idx_2, idx_3, idx_4, idx_5, Int.reduceAdd, Int.reduceSub, Int.reduceMul, Int.reduceNeg, Int.reducePow, Int.reduceLT, Int.reduceLE, Int.reduceEq, Int.reduceNe, Int.reduceToNat, Int.reduceAbs, Nat.reduceAdd, Nat.reduceLT, Nat.reduceLeDiff, Nat.reducePow, Nat.reduceLT, List.length_cons, List.length_nil, true_implies, false_implies, not_true_eq_false, not_false_eq_true, and_true, true_and, and_self, or_true, true_or, decide_true, decide_false, exists_eq_left', Option.some.injEq]
    exact lf_loop ks r' _ H' (hp.trans hp') g' (by omega) q
theorem w_lawF : ∀ vs H Q X, C_lawF vs H Q X → wpFn O9 f_lawF vs H Q X := by
  rintro vs H Q X ⟨ns, rfl, q⟩
  refine fn_of rfl ?_
  change wpSs O9 f_lawF.body [some (.scr ns), none, none, none, none, none, none, none, none] H _ _
  have er : rangeL 0 3 = [.int 0, .int 1, .int 2] := rfl
  refine zs_cons ?_
  generalize hK : sqX O9 (_ :: _) = K
  simp only [↓X_lit, ↓X_loc, ↓X_bin, ↓negX_int, ↓X_neg, ↓X_not, ↓Y_not, ↓X_and, ↓Y_and, ↓X_or, ↓Y_or, ↓X_cmp, ↓X_cmp2, ↓X_ite, ↓Y_ite, ↓X_tup, ↓X_lst, ↓X_call, ↓X_meth, ↓X_sub, ↓X_comp, ↓Y_lit, ↓Y_loc, ↓Y_cmp, ↓Y_cmp2, ↓Y_call, ↓Y_sub, ↓XEs_nil, ↓XEs_cons, ↓XIfs_nil, ↓XIfs_cons, ↓Z_expr, ↓Z_assign, ↓Z_ret, ↓Z_retNone, ↓Z_ite, ↓Z_for, ↓Z_raise, ↓Z_pass, ↓Z_brk, ↓Z_cont, ↓Zs_nil, ↓sqX_next, ↓sqX_brk, ↓sqX_cont, ↓sqX_ret, ↓Zs_cons, ↓wkX_next, ↓wkX_cont, ↓wkX_brk, ↓wkX_ret, ↓fkX_next, ↓fkX_cont, ↓fkX_brk, ↓fkX_ret, ↓xb_one, ↓oKK_some, ↓oK_some, ↓tX_bool, ↓iX_t, ↓iX_f, ↓iX_d, ↓q_add, ↓q_sub, ↓q_mul, ↓q_div, ↓q_mod, ↓q_pow, ↓q_list, ↓q_eq, ↓q_ne, ↓q_eqs, ↓q_nes, ↓q_eqb, ↓q_lt, ↓q_le, ↓q_gt, ↓q_ge, ↓q_in, ↓q_inl, ↓q_nin, ↓q_is, ↓q_isnot, ↓q_stup, ↓q_sref, ↓q_sscr, ↓q_fn, ↓q_lentup, ↓q_lenref, ↓q_lenscr, ↓q_isi, ↓q_all, ↓q_max, ↓q_min, ↓q_int, ↓q_tuple, ↓q_listc, ↓q_append, ↓q_clear, ↓q_index, ↓q_pop, ↓q_slicet, ↓q_revt, ↓q_revl, ↓q_set, ↓q_repr, ↓q_eqo, ↓X_rev, ↓Z_set, ↓q_addt, ↓q_listt, ↓q_ninl, ↓u_tup, ↓u_ref, ↓u_range, ↓q_slice, ↓oi_none, ↓oi_int, ↓X_slice, ↓XO_none, ↓XO_some, ↓u_rev, ↓u_zip, ↓xb_two, ↓u_range2, ↓retV_ret, ↓retV_next, List.getElem?_cons_zero, List.getElem?_cons_succ, List.set_cons_zero, List.set_cons_succ, Bool.not_true, Bool.not_false, idx_0, idx_1, idx_2, idx_3, idx_4, idx_5, Int.reduceAdd, Int.reduceSub, Int.reduceMul, Int.reduceNeg, Int.reducePow, Int.reduceLT, Int.reduceLE, Int.reduceEq, Int.reduceNe, Int.reduceToNat, Int.reduceAbs, Nat.reduceAdd, Nat.reduceLT, Nat.reduceLeDiff, Nat.reducePow, Nat.reduceLT, List.length_cons, List.length_nil, true_implies, false_implies, not_true_eq_false, not_false_eq_true, and_true, true_and, and_self, or_true, true_or, decide_true, decide_false, exists_eq_left', Option.some.injEq, ↓coX_nil, ↓coX_cons, er, ↓O9_ca, ↓cc_cell, ↓O9_wp]
  subst hK
  refine ⟨by simp, _, _, _, _, rfl, listAt_new, fun r H' hp hpl g => ?_⟩
  refine zs_cons ?_
  rw [Z_for]
  generalize hK : sqX O9 (_ :: _) = K
  simp only [XEs_nil, XEs_cons, X_bin, X_call, X_loc, X_lit, List.getElem?_cons_zero, oKK_some, q_fn, ↓O9_ca, ↓cc_cell]
  refine ⟨by decide, ?_⟩
  simp only [q_mod, u_range]
  refine ⟨⟨by decide, by decide⟩, ⟨by omega, by omega⟩, ?_⟩
  have hn1 : 0 ≤ cell ns 3 % 8 := by omega
  have hn2 : cell ns 3 % 8 < 8 := by omega
  generalize cell ns 3 % 8 = n at hn1 hn2 ⊢
  have e : rangeL 0 n = (List.range (n - 0).toNat).map fun (k : Nat) => V.int (0 + (k : Int)) := rfl
  rw [e]
  have hdep : r.depth = 0 := by cases r <;> first | rfl | cases hpl
  refine lf_loop (H0 := H') _ r _ H' (List.prefix_refl _) g (by rw [List.length_range]; omega) fun r' t1' H2 hp2 g' hd' => ?_
  subst hK
  exact lf_tail g' hd' fun H3 hp3 => q H3 (pre_new.trans (hp.trans (hp2.trans hp3)))
end Mine

namespace Mine
open PySem
noncomputable def G06 : List (Str × V) := ("TIMES", .int 1000000000000) :: ("DAYS", .int 100000000000) :: ("LONGEST", .int 48) :: ("MOST_STEP", .int 1000000) :: ("DEEPEST", .int 8) :: ("OUTER", .tup [.str "from", .str "until", .str "also", .str "but"]) :: ("FIGURES", .str "0123456789") :: ("MOST_FIGURES", .int 13) :: ("isinstance", .bi .isinstance) :: ("len", .bi .len) :: ("repr", .bi .repr) :: ("int", .ty .int) :: ("bool", .ty .bool) :: ("str", .ty .str) :: ("tuple", .ty .tuple) :: ("list", .ty .list) :: ("range", .ty .range) :: ("is_whole", .fn "is_whole") :: ("is_between", .fn "is_between") :: ("is_time", .fn "is_time") :: ("are_rising", .fn "are_rising") :: ("is_plain", .fn "is_plain") :: ("is_rule", .fn "is_rule") :: ("shown", .fn "shown") :: ("number_of", .fn "number_of") :: ("numbers_of", .fn "numbers_of") :: ("plain_of", .fn "plain_of") :: ("rule_of", .fn "rule_of") :: ("read", .fn "read") :: ("_law_cell_at", .fn "_law_cell_at") :: ("_law_weekdays", .fn "_law_weekdays") :: ("_law_time", .fn "_law_time") :: ("_law_wide_plain", .fn "_law_wide_plain") :: ("_law_wide_head", .fn "_law_wide_head") :: ("_law_bearing", .fn "_law_bearing") :: ("_law_heads", .fn "_law_heads") :: ("_law_part", .fn "_law_part") :: ("_law_written", .fn "_law_written") :: []
noncomputable def ΦL06 : Orc := ext "law" C_lawF O9
end Mine

open PySem PySem.W PyProof.Rows Mine
namespace Mine
noncomputable def K06 (P : Params) : Frag := [(3, { cls := Value.type "dict", data := Data.dict #[{ hash := PyData.keyHash P (Str.ofString "__name__"), key := Value.str (Str.ofString "__name__") 165, val := Value.str (Str.ofString "law_uf010016_06") 346 }, { hash := PyData.keyHash P (Str.ofString "__doc__"), key := Value.str (Str.ofString "__doc__") 166, val := Value.none }, { hash := PyData.keyHash P (Str.ofString "__package__"), key := Value.str (Str.ofString "__package__") 167, val := Value.none }, { hash := PyData.keyHash P (Str.ofString "__loader__"), key := Value.str (Str.ofString "__loader__") 168, val := Value.builtin "__main__.__loader__#opaque" }, { hash := PyData.keyHash P (Str.ofString "__spec__"), key := Value.str (Str.ofString "__spec__") 169, val := Value.none }, { hash := PyData.keyHash P (Str.ofString "__annotations__"), key := Value.str (Str.ofString "__annotations__") 170, val := Value.ref 6 }, { hash := PyData.keyHash P (Str.ofString "__builtins__"), key := Value.str (Str.ofString "__builtins__") 171, val := Value.ref 4 }, { hash := PyData.keyHash P (Str.ofString "__file__"), key := Value.str (Str.ofString "__file__") 173, val := Value.str (Str.ofString "/claim/cut.py") 172 }, { hash := PyData.keyHash P (Str.ofString "__cached__"), key := Value.str (Str.ofString "__cached__") 174, val := Value.none }, { hash := PyData.keyHash P (Str.ofString "HourError"), key := Value.str (Str.ofString "HourError") 206, val := Value.ref 24 }, { hash := PyData.keyHash P (Str.ofString "NoRule"), key := Value.str (Str.ofString "NoRule") 222, val := Value.ref 37 }, { hash := PyData.keyHash P (Str.ofString "is_whole"), key := Value.str (Str.ofString "is_whole") 231, val := Value.ref 46 }, { hash := PyData.keyHash P (Str.ofString "TIMES"), key := Value.str (Str.ofString "TIMES") 237, val := Value.int 1000000000000 236 }, { hash := PyData.keyHash P (Str.ofString "DAYS"), key := Value.str (Str.ofString "DAYS") 241, val := Value.int 100000000000 240 }, { hash := PyData.keyHash P (Str.ofString "LONGEST"), key := Value.str (Str.ofString "LONGEST") 243, val := Value.int 48 242 }, { hash := PyData.keyHash P (Str.ofString "MOST_STEP"), key := Value.str (Str.ofString "MOST_STEP") 245, val := Value.int 1000000 244 }, { hash := PyData.keyHash P (Str.ofString "DEEPEST"), key := Value.str (Str.ofString "DEEPEST") 247, val := Value.int 8 246 }, { hash := PyData.keyHash P (Str.ofString "OUTER"), key := Value.str (Str.ofString "OUTER") 252, val := Value.ref 47 }, { hash := PyData.keyHash P (Str.ofString "is_between"), key := Value.str (Str.ofString "is_between") 261, val := Value.ref 54 }, { hash := PyData.keyHash P (Str.ofString "is_time"), key := Value.str (Str.ofString "is_time") 268, val := Value.ref 61 }, { hash := PyData.keyHash P (Str.ofString "are_rising"), key := Value.str (Str.ofString "are_rising") 279, val := Value.ref 68 }, { hash := PyData.keyHash P (Str.ofString "is_plain"), key := Value.str (Str.ofString "is_plain") 287, val := Value.ref 75 }, { hash := PyData.keyHash P (Str.ofString "is_rule"), key := Value.str (Str.ofString "is_rule") 295, val := Value.ref 82 }, { hash := PyData.keyHash P (Str.ofString "FIGURES"), key := Value.str (Str.ofString "FIGURES") 299, val := Value.str (Str.ofString "0123456789") 298 }, { hash := PyData.keyHash P (Str.ofString "MOST_FIGURES"), key := Value.str (Str.ofString "MOST_FIGURES") 301, val := Value.int 13 300 }, { hash := PyData.keyHash P (Str.ofString "shown"), key := Value.str (Str.ofString "shown") 307, val := Value.ref 87 }, { hash := PyData.keyHash P (Str.ofString "number_of"), key := Value.str (Str.ofString "number_of") 316, val := Value.ref 94 }, { hash := PyData.keyHash P (Str.ofString "numbers_of"), key := Value.str (Str.ofString "numbers_of") 322, val := Value.ref 99 }, { hash := PyData.keyHash P (Str.ofString "plain_of"), key := Value.str (Str.ofString "plain_of") 328, val := Value.ref 104 }, { hash := PyData.keyHash P (Str.ofString "rule_of"), key := Value.str (Str.ofString "rule_of") 337, val := Value.ref 111 }, { hash := PyData.keyHash P (Str.ofString "read"), key := Value.str (Str.ofString "read") 345, val := Value.ref 118 }, { hash := PyData.keyHash P (Str.ofString "_law_cell_at"), key := Value.str (Str.ofString "_law_cell_at") 355, val := Value.ref 125 }, { hash := PyData.keyHash P (Str.ofString "_law_weekdays"), key := Value.str (Str.ofString "_law_weekdays") 364, val := Value.ref 132 }, { hash := PyData.keyHash P (Str.ofString "_law_time"), key := Value.str (Str.ofString "_law_time") 371, val := Value.ref 139 }, { hash := PyData.keyHash P (Str.ofString "_law_wide_plain"), key := Value.str (Str.ofString "_law_wide_plain") 381, val := Value.ref 146 }, { hash := PyData.keyHash P (Str.ofString "_law_wide_head"), key := Value.str (Str.ofString "_law_wide_head") 387, val := Value.ref 151 }, { hash := PyData.keyHash P (Str.ofString "_law_bearing"), key := Value.str (Str.ofString "_law_bearing") 393, val := Value.ref 158 }, { hash := PyData.keyHash P (Str.ofString "_law_heads"), key := Value.str (Str.ofString "_law_heads") 401, val := Value.ref 165 }, { hash := PyData.keyHash P (Str.ofString "_law_part"), key := Value.str (Str.ofString "_law_part") 407, val := Value.ref 170 }, { hash := PyData.keyHash P (Str.ofString "_law_written"), key := Value.str (Str.ofString "_law_written") 413, val := Value.ref 175 }, { hash := PyData.keyHash P (Str.ofString "law"), key := Value.str (Str.ofString "law") 419, val := Value.ref 180 }] 41 }), (47, { cls := Value.type "tuple", data := Data.seq #[Value.str (Str.ofString "from") 248, Value.str (Str.ofString "until") 249, Value.str (Str.ofString "also") 250, Value.str (Str.ofString "but") 251] })]
noncomputable def X06 : List (Str × List Str × Addr) := []
noncomputable def H06 : Hook := kHook K06 [3, 47] (fun _ => rfl)
noncomputable def V06 : Program := viewOf Challenge.pw_uf010016_06
end Mine
set_option maxRecDepth 100000 in
set_option maxHeartbeats 8000000 in
theorem PySem.Challenge.cw_uf010016_06_holds : PySem.Challenge.rw_uf010016_06.Holds := by
  w_on
  refine holds_law (by kernel_rfl) fun said => ?_
  refine holds_open (q := V06) (loose := [Str.ofString "TIMES", Str.ofString "DAYS"]) (Xt := fun s => xlAt V06 [(Str.ofString "TIMES", .int 1000000000000), (Str.ofString "DAYS", .int 100000000000)] s && recOk (RowW.records (OpenRow.toRowW Challenge.rw_uf010016_06.row)) s) (XP := XL V06 [(Str.ofString "TIMES", .int 1000000000000), (Str.ofString "DAYS", .int 100000000000)]) (Yf := Hook.obs H06) (Ya := Hook.val H06) (YP := Hook.says H06) (N := 2464) ?hl (Hook.of H06) (Hook.keeps H06) (fun s e => xl_of s (Bool.and_eq_true_iff.mp e).1) XL.keeps (by rfl) (by rfl) (by rfl) (fun s e => recFacts_of (Bool.and_eq_true_iff.mp e).2) (by rfl) (by first | assumption | decide +kernel) (by decide +kernel) ⟨rfl, rfl, rfl, rfl, rfl, by decide +kernel⟩ ?hw ?hc
  case hl => intro w; kernel_rfl
  case hw => w_witness2
  intro w s₀ s₁ mg mb G Y fa o pm cd doc dV kV ho hd hcd hD hmg hg args vals as hpre hlay hrd hwl hlo
  have KX := kIn_of Y
  refine Ground.open G ?_
  intro T B D TE TW
  wrow_args hpre hlay hrd hwl hlo
  have GA : GAll ⟨Challenge.rw_uf010016_06.row.prog, w, s₁.heap, mg, mb, exOf X06, []⟩ G06 := by
    refine ⟨gv_int (mg_of (v := .int 1000000000000 236) KX T.g (by kernel_rfl)), ?_⟩
    refine ⟨gv_int (mg_of (v := .int 100000000000 240) KX T.g (by kernel_rfl)), ?_⟩
    refine ⟨gv_int (mg_of (v := .int 48 242) KX T.g (by kernel_rfl)), ?_⟩
    refine ⟨gv_int (mg_of (v := .int 1000000 244) KX T.g (by kernel_rfl)), ?_⟩
    refine ⟨gv_int (mg_of (v := .int 8 246) KX T.g (by kernel_rfl)), ?_⟩
    refine ⟨gv_tup (vs := [Value.str (Str.ofString "from") 248, Value.str (Str.ofString "until") 249, Value.str (Str.ofString "also") 250, Value.str (Str.ofString "but") 251]) (n := 0) (mg_of (v := .ref 47) KX T.g (by kernel_rfl)) (KX _ _ (by kernel_rfl)) (by decide) (fun _ => (reps_str ⟨by decide +kernel, by decide +kernel⟩ (reps_str ⟨by decide +kernel, by decide +kernel⟩ (reps_str ⟨by decide +kernel, by decide +kernel⟩ (reps_str ⟨by decide +kernel, by decide +kernel⟩ reps_nil))))), ?_⟩
    refine ⟨gv_str (mg_of (v := .str (Str.ofString "0123456789") 298) KX T.g (by kernel_rfl)) ⟨by decide +kernel, by decide +kernel⟩, ?_⟩
    refine ⟨gv_int (mg_of (v := .int 13 300) KX T.g (by kernel_rfl)), ?_⟩
    refine ⟨gv_bi (ns_none_of KX T.g (by kernel_rfl)) ((T.builtins _ (by decide)).trans rfl), ?_⟩
    refine ⟨gv_bi (ns_none_of KX T.g (by kernel_rfl)) ((T.builtins _ (by decide)).trans rfl), ?_⟩
    refine ⟨gv_bi (ns_none_of KX T.g (by kernel_rfl)) ((T.builtins _ (by decide)).trans rfl), ?_⟩
    refine ⟨gv_ty (ns_none_of KX T.g (by kernel_rfl)) ((T.builtins _ (by decide)).trans rfl), ?_⟩
    refine ⟨gv_ty (ns_none_of KX T.g (by kernel_rfl)) ((T.builtins _ (by decide)).trans rfl), ?_⟩
    refine ⟨gv_ty (ns_none_of KX T.g (by kernel_rfl)) ((T.builtins _ (by decide)).trans rfl), ?_⟩
    refine ⟨gv_ty (ns_none_of KX T.g (by kernel_rfl)) ((T.builtins _ (by decide)).trans rfl), ?_⟩
    refine ⟨gv_ty (ns_none_of KX T.g (by kernel_rfl)) ((T.builtins _ (by decide)).trans rfl), ?_⟩
    refine ⟨gv_ty (ns_none_of KX T.g (by kernel_rfl)) ((T.builtins _ (by decide)).trans rfl), ?_⟩
    refine ⟨gv_fn (mg_of (v := .ref 46) KX T.g (by kernel_rfl)), ?_⟩
    refine ⟨gv_fn (mg_of (v := .ref 54) KX T.g (by kernel_rfl)), ?_⟩
    refine ⟨gv_fn (mg_of (v := .ref 61) KX T.g (by kernel_rfl)), ?_⟩
    refine ⟨gv_fn (mg_of (v := .ref 68) KX T.g (by kernel_rfl)), ?_⟩
    refine ⟨gv_fn (mg_of (v := .ref 75) KX T.g (by kernel_rfl)), ?_⟩
    refine ⟨gv_fn (mg_of (v := .ref 82) KX T.g (by kernel_rfl)), ?_⟩
    refine ⟨gv_fn (mg_of (v := .ref 87) KX T.g (by kernel_rfl)), ?_⟩
    refine ⟨gv_fn (mg_of (v := .ref 94) KX T.g (by kernel_rfl)), ?_⟩
    refine ⟨gv_fn (mg_of (v := .ref 99) KX T.g (by kernel_rfl)), ?_⟩
    refine ⟨gv_fn (mg_of (v := .ref 104) KX T.g (by kernel_rfl)), ?_⟩
    refine ⟨gv_fn (mg_of (v := .ref 111) KX T.g (by kernel_rfl)), ?_⟩
    refine ⟨gv_fn (mg_of (v := .ref 118) KX T.g (by kernel_rfl)), ?_⟩
    refine ⟨gv_fn (mg_of (v := .ref 125) KX T.g (by kernel_rfl)), ?_⟩
    refine ⟨gv_fn (mg_of (v := .ref 132) KX T.g (by kernel_rfl)), ?_⟩
    refine ⟨gv_fn (mg_of (v := .ref 139) KX T.g (by kernel_rfl)), ?_⟩
    refine ⟨gv_fn (mg_of (v := .ref 146) KX T.g (by kernel_rfl)), ?_⟩
    refine ⟨gv_fn (mg_of (v := .ref 151) KX T.g (by kernel_rfl)), ?_⟩
    refine ⟨gv_fn (mg_of (v := .ref 158) KX T.g (by kernel_rfl)), ?_⟩
    refine ⟨gv_fn (mg_of (v := .ref 165) KX T.g (by kernel_rfl)), ?_⟩
    refine ⟨gv_fn (mg_of (v := .ref 170) KX T.g (by kernel_rfl)), ?_⟩
    refine ⟨gv_fn (mg_of (v := .ref 175) KX T.g (by kernel_rfl)), ?_⟩
    exact trivial
  have g : GOk ⟨Challenge.rw_uf010016_06.row.prog, w, s₁.heap, mg, mb, exOf X06, []⟩ G06 := gok T GA rfl (by kernel_rfl)
  have o1 : OrcOk ⟨Challenge.rw_uf010016_06.row.prog, w, s₁.heap, mg, mb, exOf X06, []⟩ 1 A1 := ext_ok g noΦ_ok (fnOk_of_top T (x := "is_whole") (f := f_is_whole) (by kernel_rfl)) w_is_whole
  have o2 : OrcOk ⟨Challenge.rw_uf010016_06.row.prog, w, s₁.heap, mg, mb, exOf X06, []⟩ 2 A2 := ext_ok g o1 (fnOk_of_top T (x := "is_between") (f := f_is_between) (by kernel_rfl)) w_is_between
  have o3 : OrcOk ⟨Challenge.rw_uf010016_06.row.prog, w, s₁.heap, mg, mb, exOf X06, []⟩ 3 A3 := ext_ok g o2 (fnOk_of_top T (x := "is_time") (f := f_is_time) (by kernel_rfl)) w_is_time
  have o4 : OrcOk ⟨Challenge.rw_uf010016_06.row.prog, w, s₁.heap, mg, mb, exOf X06, []⟩ 4 A4 := ext_ok g o3 (fnOk_of_top T (x := "are_rising") (f := f_are_rising) (by kernel_rfl)) w_are_rising
  have o5 : OrcOk ⟨Challenge.rw_uf010016_06.row.prog, w, s₁.heap, mg, mb, exOf X06, []⟩ 5 A5 := ext_ok g o4 (fnOk_of_top T (x := "is_plain") (f := f_is_plain) (by kernel_rfl)) w_is_plain
  have o6 : OrcOk ⟨Challenge.rw_uf010016_06.row.prog, w, s₁.heap, mg, mb, exOf X06, []⟩ 6 A6 := ext_ok g o5 (fnOk_of_top T (x := "is_rule") (f := f_is_rule) (by kernel_rfl)) w_is_rule
  have F_shown : FnOk ⟨Challenge.rw_uf010016_06.row.prog, w, s₁.heap, mg, mb, exOf X06, []⟩ G06 "shown" f_shown := fnOk_of_top T (by kernel_rfl)
  have o7 : OrcOk ⟨Challenge.rw_uf010016_06.row.prog, w, s₁.heap, mg, mb, exOf X06, []⟩ 7 (SH 1) := ext_ok (n := "shown") (C := (C_sh 0)) g o6 F_shown (w_shown 0)
  have o8 : OrcOk ⟨Challenge.rw_uf010016_06.row.prog, w, s₁.heap, mg, mb, exOf X06, []⟩ 8 (SH 2) := ext_ok (n := "shown") (C := (C_sh 1)) g o7 F_shown (w_shown 1)
  have o9 : OrcOk ⟨Challenge.rw_uf010016_06.row.prog, w, s₁.heap, mg, mb, exOf X06, []⟩ 9 (SH 3) := ext_ok (n := "shown") (C := (C_sh 2)) g o8 F_shown (w_shown 2)
  have o10 : OrcOk ⟨Challenge.rw_uf010016_06.row.prog, w, s₁.heap, mg, mb, exOf X06, []⟩ 10 (SH 4) := ext_ok (n := "shown") (C := (C_sh 3)) g o9 F_shown (w_shown 3)
  have o11 : OrcOk ⟨Challenge.rw_uf010016_06.row.prog, w, s₁.heap, mg, mb, exOf X06, []⟩ 11 (SH 5) := ext_ok (n := "shown") (C := (C_sh 4)) g o10 F_shown (w_shown 4)
  have o12 : OrcOk ⟨Challenge.rw_uf010016_06.row.prog, w, s₁.heap, mg, mb, exOf X06, []⟩ 12 (SH 6) := ext_ok (n := "shown") (C := (C_sh 5)) g o11 F_shown (w_shown 5)
  have o13 : OrcOk ⟨Challenge.rw_uf010016_06.row.prog, w, s₁.heap, mg, mb, exOf X06, []⟩ 13 (SH 7) := ext_ok (n := "shown") (C := (C_sh 6)) g o12 F_shown (w_shown 6)
  have o14 : OrcOk ⟨Challenge.rw_uf010016_06.row.prog, w, s₁.heap, mg, mb, exOf X06, []⟩ 14 (SH 8) := ext_ok (n := "shown") (C := (C_sh 7)) g o13 F_shown (w_shown 7)
  have o15 : OrcOk ⟨Challenge.rw_uf010016_06.row.prog, w, s₁.heap, mg, mb, exOf X06, []⟩ 15 (SH 9) := ext_ok (n := "shown") (C := (C_sh 8)) g o14 F_shown (w_shown 8)
  have o16 : OrcOk ⟨Challenge.rw_uf010016_06.row.prog, w, s₁.heap, mg, mb, exOf X06, []⟩ 16 N1 := ext_ok g o15 (fnOk_of_top T (x := "number_of") (f := f_number_of) (by kernel_rfl)) w_number_of
  have o17 : OrcOk ⟨Challenge.rw_uf010016_06.row.prog, w, s₁.heap, mg, mb, exOf X06, []⟩ 17 N2 := ext_ok g o16 (fnOk_of_top T (x := "numbers_of") (f := f_numbers_of) (by kernel_rfl)) w_numbers_of
  have o18 : OrcOk ⟨Challenge.rw_uf010016_06.row.prog, w, s₁.heap, mg, mb, exOf X06, []⟩ 18 N3 := ext_ok g o17 (fnOk_of_top T (x := "plain_of") (f := f_plain_of) (by kernel_rfl)) w_plain_of
  have F_rule_of : FnOk ⟨Challenge.rw_uf010016_06.row.prog, w, s₁.heap, mg, mb, exOf X06, []⟩ G06 "rule_of" f_rule_of := fnOk_of_top T (by kernel_rfl)
  have o19 : OrcOk ⟨Challenge.rw_uf010016_06.row.prog, w, s₁.heap, mg, mb, exOf X06, []⟩ 19 (RO 1) := ext_ok (n := "rule_of") (C := (C_ro 0)) g o18 F_rule_of (w_rule_of 0)
  have o20 : OrcOk ⟨Challenge.rw_uf010016_06.row.prog, w, s₁.heap, mg, mb, exOf X06, []⟩ 20 (RO 2) := ext_ok (n := "rule_of") (C := (C_ro 1)) g o19 F_rule_of (w_rule_of 1)
  have o21 : OrcOk ⟨Challenge.rw_uf010016_06.row.prog, w, s₁.heap, mg, mb, exOf X06, []⟩ 21 (RO 3) := ext_ok (n := "rule_of") (C := (C_ro 2)) g o20 F_rule_of (w_rule_of 2)
  have o22 : OrcOk ⟨Challenge.rw_uf010016_06.row.prog, w, s₁.heap, mg, mb, exOf X06, []⟩ 22 (RO 4) := ext_ok (n := "rule_of") (C := (C_ro 3)) g o21 F_rule_of (w_rule_of 3)
  have o23 : OrcOk ⟨Challenge.rw_uf010016_06.row.prog, w, s₁.heap, mg, mb, exOf X06, []⟩ 23 (RO 5) := ext_ok (n := "rule_of") (C := (C_ro 4)) g o22 F_rule_of (w_rule_of 4)
  have o24 : OrcOk ⟨Challenge.rw_uf010016_06.row.prog, w, s₁.heap, mg, mb, exOf X06, []⟩ 24 (RO 6) := ext_ok (n := "rule_of") (C := (C_ro 5)) g o23 F_rule_of (w_rule_of 5)
  have o25 : OrcOk ⟨Challenge.rw_uf010016_06.row.prog, w, s₁.heap, mg, mb, exOf X06, []⟩ 25 (RO 7) := ext_ok (n := "rule_of") (C := (C_ro 6)) g o24 F_rule_of (w_rule_of 6)
  have o26 : OrcOk ⟨Challenge.rw_uf010016_06.row.prog, w, s₁.heap, mg, mb, exOf X06, []⟩ 26 (RO 8) := ext_ok (n := "rule_of") (C := (C_ro 7)) g o25 F_rule_of (w_rule_of 7)
  have o27 : OrcOk ⟨Challenge.rw_uf010016_06.row.prog, w, s₁.heap, mg, mb, exOf X06, []⟩ 27 N5 := ext_ok g o26 (fnOk_of_top T (x := "read") (f := f_read) (by kernel_rfl)) w_read
  have o28 : OrcOk ⟨Challenge.rw_uf010016_06.row.prog, w, s₁.heap, mg, mb, exOf X06, []⟩ 28 O1 := ext_ok g o27 (fnOk_of_top T (x := "_law_cell_at") (f := f_l_cell_at) (by kernel_rfl)) w_cell_at
  have o29 : OrcOk ⟨Challenge.rw_uf010016_06.row.prog, w, s₁.heap, mg, mb, exOf X06, []⟩ 29 O2 := ext_ok g o28 (fnOk_of_top T (x := "_law_weekdays") (f := f_l_weekdays) (by kernel_rfl)) w_weekdays
  have o30 : OrcOk ⟨Challenge.rw_uf010016_06.row.prog, w, s₁.heap, mg, mb, exOf X06, []⟩ 30 O3 := ext_ok g o29 (fnOk_of_top T (x := "_law_time") (f := f_l_time) (by kernel_rfl)) w_time
  have o31 : OrcOk ⟨Challenge.rw_uf010016_06.row.prog, w, s₁.heap, mg, mb, exOf X06, []⟩ 31 O4 := ext_ok g o30 (fnOk_of_top T (x := "_law_wide_plain") (f := f_l_wide_plain) (by kernel_rfl)) w_wide_plain
  have o32 : OrcOk ⟨Challenge.rw_uf010016_06.row.prog, w, s₁.heap, mg, mb, exOf X06, []⟩ 32 O5 := ext_ok g o31 (fnOk_of_top T (x := "_law_wide_head") (f := f_l_wide_head) (by kernel_rfl)) w_wide_head
  have o33 : OrcOk ⟨Challenge.rw_uf010016_06.row.prog, w, s₁.heap, mg, mb, exOf X06, []⟩ 33 O6 := ext_ok g o32 (fnOk_of_top T (x := "_law_bearing") (f := f_l_bearing) (by kernel_rfl)) w_bearing
  have o34 : OrcOk ⟨Challenge.rw_uf010016_06.row.prog, w, s₁.heap, mg, mb, exOf X06, []⟩ 34 O7 := ext_ok g o33 (fnOk_of_top T (x := "_law_heads") (f := f_l_heads) (by kernel_rfl)) w_heads
  have o35 : OrcOk ⟨Challenge.rw_uf010016_06.row.prog, w, s₁.heap, mg, mb, exOf X06, []⟩ 35 O8 := ext_ok g o34 (fnOk_of_top T (x := "_law_part") (f := f_l_part) (by kernel_rfl)) w_part
  have o36 : OrcOk ⟨Challenge.rw_uf010016_06.row.prog, w, s₁.heap, mg, mb, exOf X06, []⟩ 36 O9 := ext_ok g o35 (fnOk_of_top T (x := "_law_written") (f := f_l_written) (by kernel_rfl)) w_written
  have o37 : OrcOk ⟨Challenge.rw_uf010016_06.row.prog, w, s₁.heap, mg, mb, exOf X06, []⟩ 37 ΦL06 := ext_ok g o36 (fnOk_of_top T (x := "law") (f := f_lawF) (by kernel_rfl)) w_lawF
  exact law_top o37 (caller_ok (by decide) rfl) hmg ⟨_, rfl, fun _ _ => rfl⟩ (by assumption) (by assumption) (by omega) hg (fun _ => rfl) (by first | rfl | wrow_post)
