import PyProof.Rows.All
import Wide.All
import OpenK.AllK
import Wide.FinOn
import PySem.Eval
import PyProof.P3Statements
import PyProof.ReprReads
import PyProof.StrBlockL
import PyProof.StrBlock2
import KE.IntText
import PyProof.Cells
import PyProof.Seq
import PyProof.InstStore
import PyProof.DictCompW
import PyProof.Rows.Nodes
import PyProof.Rows.Chain
import PyProof.Rows.TupSub
import PyProof.Rows.StrTemp
import PyProof.CallRoads
import PyProof.SliceSyntax
import PyProof.InstLoad
import PyProof.InstStoreFacts
import PyProof.ObjNew
import PyProof.StrOps
import PyProof.Rows.StrItems
import PyProof.Rows.RuleB_small
import PyProof.Rows.RuleB_floordiv
import PyProof.Rows.RuleB_mod
import PyProof.Rows.RuleB_mul
import PyProof.Rows.RuleU_int
import PyProof.Rows.RuleN_isinstance
import PyProof.Rows.IntRules
import PyProof.Rows.StrRules
import PyProof.Rows.TupMore
import PyProof.Rows.Lst
import PyProof.ListOps
import PyProof.TupleOps
import PyProof.TupleIter
import PyProof.ListIndexNeg
import PyProof.DictRoads
import PyProof.DictKinds
import PyProof.ListTruth
import PyProof.Truth
import PyProof.Rows.FactsC_int_ge
import PyProof.Rows.FactsC_int_le
import PyProof.NeData
import PyProof.EqAt
import PyProof.ConsumeWalk
import PyProof.TupleOfSeq
import PyProof.WalkInts
import PyProof.ListCopy
import PyProof.Conv_int_bool
import PyProof.PlainList
import PyProof.Rows.RuleC_int
import PyProof.IsRules
import PyProof.Rules3
import PyProof.P3In
import PyProof.SeqI3
import PyProof.ReprRoads
import PyProof.Rows.SeqJoint
import PyProof.CallFns
import PyProof.IsiPairs
import PyProof.IsiHeapPairs
import PyProof.IsiNone
import PyProof.Rows.CountFlat
import PyProof.ForAppend
import PyProof.Rows.Exc
import PyProof.Rows.AttrNodeAny
import PyProof.SliceList
import KE.KSliceW
import KE.KRevSl
import PyProof.RangeFor
import PyProof.CompFree
import KE.KRevIter
import KE.KPairComp
import KE.KItem
import PyProof.AssignAttr
import PyProof.Rows.PlainObj
import OpenK.KLine
import PyProof.Rows.Top
import PyProof.Rows.PlainEq
import PyProof.Rows.TupIn
import Wide.BridgeG
import OpenK.KOwn
import PyProof.ReprLen
import PySem.Challenge.RW_uf010016_11
set_option Elab.async false
set_option linter.unusedVariables false
set_option linter.unusedSimpArgs false
set_option maxRecDepth 20000
set_option autoImplicit false
namespace Mine
theorem e0_3  {P0 P1 P2 : Prop} {R : Prop} (h : P0 ∧ P1 ∧ P2) (k : P0 → P1 → P2 → R) : R := by obtain ⟨h0, h1, h2⟩ := h; exact k h0 h1 h2
theorem e0_4  {P0 P1 P2 P3 : Prop} {R : Prop} (h : P0 ∧ P1 ∧ P2 ∧ P3) (k : P0 → P1 → P2 → P3 → R) : R := by obtain ⟨h0, h1, h2, h3⟩ := h; exact k h0 h1 h2 h3
theorem e1_2.{u0} {α0 : Sort u0} {P0 P1 : α0 → Prop} {R : Prop} (h : ∃ x0, P0 x0 ∧ P1 x0) (k : ∀ x0, P0 x0 → P1 x0 → R) : R := by obtain ⟨x0, h0, h1⟩ := h; exact k x0 h0 h1
theorem e1_3.{u0} {α0 : Sort u0} {P0 P1 P2 : α0 → Prop} {R : Prop} (h : ∃ x0, P0 x0 ∧ P1 x0 ∧ P2 x0) (k : ∀ x0, P0 x0 → P1 x0 → P2 x0 → R) : R := by obtain ⟨x0, h0, h1, h2⟩ := h; exact k x0 h0 h1 h2
theorem e1_4.{u0} {α0 : Sort u0} {P0 P1 P2 P3 : α0 → Prop} {R : Prop} (h : ∃ x0, P0 x0 ∧ P1 x0 ∧ P2 x0 ∧ P3 x0) (k : ∀ x0, P0 x0 → P1 x0 → P2 x0 → P3 x0 → R) : R := by obtain ⟨x0, h0, h1, h2, h3⟩ := h; exact k x0 h0 h1 h2 h3
theorem e2_1.{u0, u1} {α0 : Sort u0} {α1 : Sort u1} {P0 : α0 → α1 → Prop} {R : Prop} (h : ∃ x0 x1, P0 x0 x1) (k : ∀ x0 x1, P0 x0 x1 → R) : R := by obtain ⟨x0, x1, h0⟩ := h; exact k x0 x1 h0
theorem e2_2.{u0, u1} {α0 : Sort u0} {α1 : Sort u1} {P0 P1 : α0 → α1 → Prop} {R : Prop} (h : ∃ x0 x1, P0 x0 x1 ∧ P1 x0 x1) (k : ∀ x0 x1, P0 x0 x1 → P1 x0 x1 → R) : R := by obtain ⟨x0, x1, h0, h1⟩ := h; exact k x0 x1 h0 h1
theorem e2_3.{u0, u1} {α0 : Sort u0} {α1 : Sort u1} {P0 P1 P2 : α0 → α1 → Prop} {R : Prop} (h : ∃ x0 x1, P0 x0 x1 ∧ P1 x0 x1 ∧ P2 x0 x1) (k : ∀ x0 x1, P0 x0 x1 → P1 x0 x1 → P2 x0 x1 → R) : R := by obtain ⟨x0, x1, h0, h1, h2⟩ := h; exact k x0 x1 h0 h1 h2
theorem e2_4.{u0, u1} {α0 : Sort u0} {α1 : Sort u1} {P0 P1 P2 P3 : α0 → α1 → Prop} {R : Prop} (h : ∃ x0 x1, P0 x0 x1 ∧ P1 x0 x1 ∧ P2 x0 x1 ∧ P3 x0 x1) (k : ∀ x0 x1, P0 x0 x1 → P1 x0 x1 → P2 x0 x1 → P3 x0 x1 → R) : R := by obtain ⟨x0, x1, h0, h1, h2, h3⟩ := h; exact k x0 x1 h0 h1 h2 h3
theorem e3_1.{u0, u1, u2} {α0 : Sort u0} {α1 : Sort u1} {α2 : Sort u2} {P0 : α0 → α1 → α2 → Prop} {R : Prop} (h : ∃ x0 x1 x2, P0 x0 x1 x2) (k : ∀ x0 x1 x2, P0 x0 x1 x2 → R) : R := by obtain ⟨x0, x1, x2, h0⟩ := h; exact k x0 x1 x2 h0
theorem e3_2.{u0, u1, u2} {α0 : Sort u0} {α1 : Sort u1} {α2 : Sort u2} {P0 P1 : α0 → α1 → α2 → Prop} {R : Prop} (h : ∃ x0 x1 x2, P0 x0 x1 x2 ∧ P1 x0 x1 x2) (k : ∀ x0 x1 x2, P0 x0 x1 x2 → P1 x0 x1 x2 → R) : R := by obtain ⟨x0, x1, x2, h0, h1⟩ := h; exact k x0 x1 x2 h0 h1
theorem e3_3.{u0, u1, u2} {α0 : Sort u0} {α1 : Sort u1} {α2 : Sort u2} {P0 P1 P2 : α0 → α1 → α2 → Prop} {R : Prop} (h : ∃ x0 x1 x2, P0 x0 x1 x2 ∧ P1 x0 x1 x2 ∧ P2 x0 x1 x2) (k : ∀ x0 x1 x2, P0 x0 x1 x2 → P1 x0 x1 x2 → P2 x0 x1 x2 → R) : R := by obtain ⟨x0, x1, x2, h0, h1, h2⟩ := h; exact k x0 x1 x2 h0 h1 h2
theorem e3_4.{u0, u1, u2} {α0 : Sort u0} {α1 : Sort u1} {α2 : Sort u2} {P0 P1 P2 P3 : α0 → α1 → α2 → Prop} {R : Prop} (h : ∃ x0 x1 x2, P0 x0 x1 x2 ∧ P1 x0 x1 x2 ∧ P2 x0 x1 x2 ∧ P3 x0 x1 x2) (k : ∀ x0 x1 x2, P0 x0 x1 x2 → P1 x0 x1 x2 → P2 x0 x1 x2 → P3 x0 x1 x2 → R) : R := by obtain ⟨x0, x1, x2, h0, h1, h2, h3⟩ := h; exact k x0 x1 x2 h0 h1 h2 h3
theorem e4_5.{u0, u1, u2, u3} {α0 : Sort u0} {α1 : Sort u1} {α2 : Sort u2} {α3 : Sort u3} {P0 P1 P2 P3 P4 : α0 → α1 → α2 → α3 → Prop} {R : Prop} (h : ∃ x0 x1 x2 x3, P0 x0 x1 x2 x3 ∧ P1 x0 x1 x2 x3 ∧ P2 x0 x1 x2 x3 ∧ P3 x0 x1 x2 x3 ∧ P4 x0 x1 x2 x3) (k : ∀ x0 x1 x2 x3, P0 x0 x1 x2 x3 → P1 x0 x1 x2 x3 → P2 x0 x1 x2 x3 → P3 x0 x1 x2 x3 → P4 x0 x1 x2 x3 → R) : R := by obtain ⟨x0, x1, x2, x3, h0, h1, h2, h3, h4⟩ := h; exact k x0 x1 x2 x3 h0 h1 h2 h3 h4
theorem e5_9.{u0, u1, u2, u3, u4} {α0 : Sort u0} {α1 : Sort u1} {α2 : Sort u2} {α3 : Sort u3} {α4 : Sort u4} {P0 P1 P2 P3 P4 P5 P6 P7 P8 : α0 → α1 → α2 → α3 → α4 → Prop} {R : Prop} (h : ∃ x0 x1 x2 x3 x4, P0 x0 x1 x2 x3 x4 ∧ P1 x0 x1 x2 x3 x4 ∧ P2 x0 x1 x2 x3 x4 ∧ P3 x0 x1 x2 x3 x4 ∧ P4 x0 x1 x2 x3 x4 ∧ P5 x0 x1 x2 x3 x4 ∧ P6 x0 x1 x2 x3 x4 ∧ P7 x0 x1 x2 x3 x4 ∧ P8 x0 x1 x2 x3 x4) (k : ∀ x0 x1 x2 x3 x4, P0 x0 x1 x2 x3 x4 → P1 x0 x1 x2 x3 x4 → P2 x0 x1 x2 x3 x4 → P3 x0 x1 x2 x3 x4 → P4 x0 x1 x2 x3 x4 → P5 x0 x1 x2 x3 x4 → P6 x0 x1 x2 x3 x4 → P7 x0 x1 x2 x3 x4 → P8 x0 x1 x2 x3 x4 → R) : R := by obtain ⟨x0, x1, x2, x3, x4, h0, h1, h2, h3, h4, h5, h6, h7, h8⟩ := h; exact k x0 x1 x2 x3 x4 h0 h1 h2 h3 h4 h5 h6 h7 h8
theorem e7_10.{u0, u1, u2, u3, u4, u5, u6} {α0 : Sort u0} {α1 : Sort u1} {α2 : Sort u2} {α3 : Sort u3} {α4 : Sort u4} {α5 : Sort u5} {α6 : Sort u6} {P0 P1 P2 P3 P4 P5 P6 P7 P8 P9 : α0 → α1 → α2 → α3 → α4 → α5 → α6 → Prop} {R : Prop} (h : ∃ x0 x1 x2 x3 x4 x5 x6, P0 x0 x1 x2 x3 x4 x5 x6 ∧ P1 x0 x1 x2 x3 x4 x5 x6 ∧ P2 x0 x1 x2 x3 x4 x5 x6 ∧ P3 x0 x1 x2 x3 x4 x5 x6 ∧ P4 x0 x1 x2 x3 x4 x5 x6 ∧ P5 x0 x1 x2 x3 x4 x5 x6 ∧ P6 x0 x1 x2 x3 x4 x5 x6 ∧ P7 x0 x1 x2 x3 x4 x5 x6 ∧ P8 x0 x1 x2 x3 x4 x5 x6 ∧ P9 x0 x1 x2 x3 x4 x5 x6) (k : ∀ x0 x1 x2 x3 x4 x5 x6, P0 x0 x1 x2 x3 x4 x5 x6 → P1 x0 x1 x2 x3 x4 x5 x6 → P2 x0 x1 x2 x3 x4 x5 x6 → P3 x0 x1 x2 x3 x4 x5 x6 → P4 x0 x1 x2 x3 x4 x5 x6 → P5 x0 x1 x2 x3 x4 x5 x6 → P6 x0 x1 x2 x3 x4 x5 x6 → P7 x0 x1 x2 x3 x4 x5 x6 → P8 x0 x1 x2 x3 x4 x5 x6 → P9 x0 x1 x2 x3 x4 x5 x6 → R) : R := by obtain ⟨x0, x1, x2, x3, x4, x5, x6, h0, h1, h2, h3, h4, h5, h6, h7, h8, h9⟩ := h; exact k x0 x1 x2 x3 x4 x5 x6 h0 h1 h2 h3 h4 h5 h6 h7 h8 h9
end Mine
set_option genSizeOf false
set_option genSizeOfSpec false
set_option genInjectivity false
set_option bootstrap.genMatcherCode false
namespace Mine
open PySem
inductive Ty where
  | int | bool | str | tuple | list | range | reversed
noncomputable def Ty.name : Ty → String
  | .int => "int" | .bool => "bool" | .str => "str" | .tuple => "tuple" | .list => "list" | .range => "range" | .reversed => "reversed"
inductive Bi where
  | len | isinstance | any | all | max | min | repr
noncomputable def Bi.name : Bi → String
  | .len => "len" | .isinstance => "isinstance" | .any => "any" | .all => "all" | .max => "max" | .min => "min" | .repr => "repr"
inductive Mt where
  | append | count | clear | reverse
noncomputable def Mt.name : Mt → Str
  | .append => "append" | .count => "count" | .clear => "clear" | .reverse => "reverse"
inductive V where
  | none
  | bool (b : Bool)
  | int (i : Int)
  | str (s : Str)
  | tup (l : List V)
  | ref (i : Nat)
  | fn (x : Str)
  | ty (n : Ty)
  | bi (n : Bi)
  | scr (ns : List Int)
  | bk
  | opq (s : Str)
inductive O where
  | list (xs : List V)
  | inst (j : Nat)
  | ns (fs : List (Str × V))
  | dict (es : List (Str × V))
noncomputable abbrev Hp := List O
noncomputable abbrev Lc := List (Option V)
structure Exc where
  cls : Str
inductive SrcK where
  | val | range | range2 | rev
inductive IE where
  | lit (v : V)
  | loc (i : Nat)
  | bin (op : Operator) (a b : IE)
  | neg (a : IE)
  | not (a : IE)
  | and (a b : IE)
  | or (a b : IE)
  | cmp (a : IE) (op : CmpOp) (b : IE)
  | cmp2 (a : IE) (op : CmpOp) (b : IE) (op' : CmpOp) (c : IE)
  | ite (t a b : IE)
  | tup (es : List IE)
  | lst (es : List IE)
  | call (f : V) (args : List IE)
  | meth (o : IE) (name : Mt) (args : List IE)
  | sub (o i : IE)
  | slice (o : IE) (lo hi : Option IE)
  | comp (elt : IE) (var : Nat) (k : SrcK) (src : IE)
  | comp2 (elt : IE) (var : Nat) (k : SrcK) (src : IE)
  | rev (o : IE)
  | attr (o : IE) (x : Str)
  | mcall (o : IE) (x : Str) (args : List IE)
  | new
  | dct
inductive IS where
  | expr (e : IE)
  | assign (i : Nat) (e : IE)
  | setItem (o k v : IE)
  | ret (e : IE)
  | ite (t : IE) (a b : List IS)
  | while (t : IE) (b : List IS)
  | for (var : Nat) (k : SrcK) (src : IE) (b : List IS)
  | setAttr (o : IE) (x : Str) (e : IE)
  | fail
  | cont
inductive Fl where
  | next
  | cont
  | ret (v : V)
theorem bnot : ∀ {b : Bool}, (!b) = true → b = false
  | false, _ => rfl
theorem no_some {α : Type} {b : α} {P : Prop} (h : none = some b) : P := nomatch h
noncomputable def idx {α : Type} (l : List α) (k : Int) : Option α :=
  if 0 ≤ k then l[k.toNat]? else if 0 ≤ k + (l.length : Int) then l[(k + (l.length : Int)).toNat]? else none
noncomputable def idxP {α : Type} (l : List α) (k : Int) : Option α := if 0 ≤ k then l[k.toNat]? else none
theorem idxP_some {α : Type} {l : List α} {k : Int} {v : α} (h : idxP l k = some v) : 0 ≤ k ∧ l[k.toNat]? = some v := by
  unfold idxP at h
  by_cases hk : 0 ≤ k
  · rw [if_pos hk] at h; exact ⟨hk, h⟩
  · rw [if_neg hk] at h; exact no_some h
noncomputable def cutLo : V → Option Nat
  | .none => some 0
  | .int k => if 0 ≤ k then some k.toNat else none
  | _ => none
noncomputable def cutHi (n : Nat) : V → Option Nat
  | .none => some n
  | .int k => if 0 ≤ k then some k.toNat else if k = -1 ∧ 0 < n then some (n - 1) else none
  | _ => none
noncomputable def cutL (lo hi : V) (l : List V) : Option (List V) := (cutLo lo).bind fun a => (cutHi l.length hi).bind fun b => if a ≤ l.length ∧ b ≤ l.length then some ((l.drop a).take (b - a)) else none
mutual
noncomputable def toPy : V → Option PyData
  | .none => some .none
  | .bool b => some (.bool b)
  | .int i => some (.int i)
  | .str x => some (.str x)
  | .tup l => (toPys l).map .tuple
  | _ => none
noncomputable def toPys : List V → Option (List PyData)
  | [] => some []
  | v :: r => (toPy v).bind fun d => (toPys r).map (d :: ·)
end
noncomputable def lstO : O → Option (List V)
  | .list xs => some xs
  | _ => none
noncomputable def listAt (H : Hp) (i : Nat) : Option (List V) := H[i]?.bind lstO
noncomputable def insO : O → Option Nat
  | .inst j => some j
  | _ => none
noncomputable def nsO : O → Option (List (Str × V))
  | .ns fs => some fs
  | _ => none
noncomputable def dctO : O → Option (List (Str × V))
  | .dict es => some es
  | _ => none
noncomputable def dictAt (H : Hp) (i : Nat) : Option (List (Str × V)) := H[i]?.bind dctO
noncomputable def nsAt (H : Hp) (i : Nat) : Option (Nat × List (Str × V)) := (H[i]?.bind insO).bind fun j => (H[j]?.bind nsO).map fun fs => (j, fs)
noncomputable def toPyH (H : Hp) : V → Option PyData
  | .ref i => ((listAt H i).bind toPys).map .list
  | v => toPy v
mutual
noncomputable def toPyT (H : Hp) : V → Option PyData
  | .none => some .none
  | .bool b => some (.bool b)
  | .int i => some (.int i)
  | .str x => some (.str x)
  | .ref i => ((listAt H i).bind toPys).map .list
  | .tup l => (toPysT H l).map .tuple
  | _ => none
noncomputable def toPysT (H : Hp) : List V → Option (List PyData)
  | [] => some []
  | v :: r => (toPyT H v).bind fun d => (toPysT H r).map (d :: ·)
end
noncomputable def eqH (H : Hp) (a b : V) : Option Bool :=
  (toPyH H a).bind fun d => (toPyH H b).bind fun e => if d.depth ≤ 60 then some (PyData.eqv d e) else none
noncomputable def memV (x : V) (l : List V) : Option Bool :=
  (toPy x).bind fun d => (toPys l).bind fun ds => if d.depth ≤ 60 then some (ds.any fun e => PyData.eqv e d) else none
noncomputable def oK {α : Type} (t : Option α) (P : α → Prop) : Prop := match t with | some v => P v | none => False
theorem oK_elim {α : Type} {t : Option α} {P : α → Prop} (h : oK t P) : ∃ v, t = some v ∧ P v := by cases t with | some v => exact ⟨v, rfl, h⟩ | none => exact h.elim
noncomputable def oKK {α : Type} (t : Option (Option α)) (P : α → Prop) : Prop := match t with | some (some v) => P v | _ => False
theorem oKK_elim {α : Type} {t : Option (Option α)} {P : α → Prop} (h : oKK t P) : ∃ v, t = some (some v) ∧ P v := by
  cases t with
  | none => exact h.elim
  | some u => cases u with | some v => exact ⟨v, rfl, h⟩ | none => exact h.elim
noncomputable def tX (v : V) (P : Bool → Prop) : Prop := match v with | .bool b => P b | _ => False
theorem tX_elim {v : V} {P : Bool → Prop} (h : tX v P) : ∃ c, v = .bool c ∧ P c := by
  cases v with
  | bool b => exact ⟨b, rfl, h⟩
  | _ => exact h.elim
noncomputable def intV : V → Option Int
  | .int i => some i
  | _ => none
theorem intV_some {v : V} {i : Int} (h : intV v = some i) : v = .int i := by
  cases v with
  | int _ => exact congrArg V.int (Option.some.inj h)
  | _ => exact no_some h
noncomputable def refV : V → Option Nat
  | .ref i => some i
  | _ => none
theorem refV_some {v : V} {i : Nat} (h : refV v = some i) : v = .ref i := by
  cases v with
  | ref _ => exact congrArg V.ref (Option.some.inj h)
  | _ => exact no_some h
noncomputable def tupV : V → Option (List V)
  | .tup l => some l
  | _ => none
theorem tupV_some {v : V} {l : List V} (h : tupV v = some l) : v = .tup l := by
  cases v with
  | tup _ => exact congrArg V.tup (Option.some.inj h)
  | _ => exact no_some h
noncomputable def strV : V → Option Str
  | .str x => some x
  | _ => none
theorem strV_some {v : V} {x : Str} (h : strV v = some x) : v = .str x := by
  cases v with
  | str _ => exact congrArg V.str (Option.some.inj h)
  | _ => exact no_some h
noncomputable def pAdd (a b : V) (H : Hp) (Q : V → Hp → Prop) : Prop := match a with
  | .int i => oK (intV b) fun j => Q (.int (i + j)) H
  | .str x => oK (strV b) fun y => x.length + y.length ≤ 1000000 ∧ Q (.str (x ++ y)) H
  | .ref i => oK (refV b) fun j => oK (listAt H i) fun xs => oK (listAt H j) fun ys => xs.length + ys.length ≤ 1000000 ∧ Q (.ref H.length) (H ++ [.list (xs ++ ys)])
  | _ => False
noncomputable def pInt (a b : V) (P : Int → Int → Prop) : Prop := oK (intV a) fun i => oK (intV b) fun j => P i j
theorem pInt_elim {a b : V} {P : Int → Int → Prop} (h : pInt a b P) : ∃ i j, a = .int i ∧ b = .int j ∧ P i j := by
  refine e1_2 (oK_elim h) fun i h1 h => ?_
  refine e1_2 (oK_elim h) fun j h2 h => ?_
  exact ⟨i, j, intV_some h1, intV_some h2, h⟩
noncomputable def on1P {α : Type} (l : List α) (P : α → Prop) : Prop := match l with
  | [] => False
  | a :: r => (match r with
    | [] => P a
    | _ :: _ => False)
theorem on1P_elim {α : Type} {l : List α} {P : α → Prop} (h : on1P l P) : ∃ a, l = [a] ∧ P a := by
  cases l with
  | nil => exact h.elim
  | cons a r => cases r with
    | nil => exact ⟨a, rfl, h⟩
    | cons _ _ => exact h.elim
noncomputable def on0P {α : Type} (l : List α) (P : Prop) : Prop := match l with
  | [] => P
  | _ :: _ => False
theorem on0P_elim {α : Type} {l : List α} {P : Prop} (h : on0P l P) : l = [] ∧ P := by
  cases l with
  | nil => exact ⟨rfl, h⟩
  | cons _ _ => exact h.elim
noncomputable def on2P {α : Type} (l : List α) (P : α → α → Prop) : Prop := match l with
  | [] => False
  | a :: r => on1P r (P a)
theorem on2P_elim {α : Type} {l : List α} {P : α → α → Prop} (h : on2P l P) : ∃ a b, l = [a, b] ∧ P a b := by
  cases l with
  | nil => exact h.elim
  | cons a r =>
    refine e1_2 (on1P_elim h) fun b e_1 h => ?_
    obtain rfl := e_1
    exact ⟨a, b, rfl, h⟩
noncomputable def pBin (op : Operator) (a b : V) (H : Hp) (Q : V → Hp → Prop) : Prop :=
  match op with
  | .Add => pAdd a b H Q
  | .Sub => pInt a b fun i j => Q (.int (i - j)) H
  | .Mult => pInt a b fun i j => ((-(2 ^ 64) < i ∧ i < 2 ^ 64) ∨ (-(2 ^ 64) < j ∧ j < 2 ^ 64)) ∧ Q (.int (i * j)) H
  | .FloorDiv => pInt a b fun i j => (0 < j ∧ j < 2 ^ 128) ∧ Q (.int (i / j)) H
  | .Mod => pInt a b fun i j => (0 < j ∧ j < 2 ^ 128) ∧ Q (.int (i % j)) H
  | .Pow => pInt a b fun i j => (0 ≤ j ∧ j ≤ 1000000 ∧ i.natAbs < 2 ^ 64) ∧ Q (.int (i ^ j.toNat)) H
  | _ => False
noncomputable def strsOf : List V → Option (List Str)
  | [] => some []
  | v :: r => (strV v).bind fun y => (strsOf r).map (y :: ·)
noncomputable def isNoneV : V → Bool
  | .none => true
  | _ => false
noncomputable def eqK (H : Hp) (a b : V) : Option Bool := match a with
  | .opq x => (match b with
    | .opq y => some (x == y)
    | _ => none)
  | a => eqH H a b
theorem eqK_some {H : Hp} {a b : V} {c : Bool} (h : eqK H a b = some c) : (∃ x y, a = .opq x ∧ b = .opq y ∧ c = (x == y)) ∨ eqH H a b = some c := by
  cases a with
  | opq x => cases b with
    | opq y => exact .inl ⟨x, y, rfl, rfl, (Option.some.inj h).symm⟩
    | _ => exact no_some h
  | _ => exact .inr h
noncomputable def pIn (a b : V) (H : Hp) (P : Bool → Prop) : Prop := match b with
  | .str x => oK (strV a) fun y => P (Txt.contains x y)
  | .tup l => oK (memV a l) P
  | .ref i => oK (listAt H i) fun l => oK (memV a l) P
  | _ => False
noncomputable def pCmp (op : CmpOp) (a b : V) (H : Hp) (Q : V → Hp → Prop) : Prop :=
  match op with
  | .Eq => oK (eqK H a b) fun c => Q (.bool c) H
  | .NotEq => oK (eqH H a b) fun c => Q (.bool (!c)) H
  | .Lt => pInt a b fun i j => Q (.bool (decide (i < j))) H
  | .LtE => pInt a b fun i j => Q (.bool (decide (i ≤ j))) H
  | .Gt => pInt a b fun i j => Q (.bool (decide (j < i))) H
  | .GtE => pInt a b fun i j => Q (.bool (decide (j ≤ i))) H
  | .In => pIn a b H fun c => Q (.bool c) H
  | .NotIn => pIn a b H fun c => Q (.bool (!c)) H
  | .Is => isNoneV b = true ∧ Q (.bool (isNoneV a)) H
  | .IsNot => isNoneV b = true ∧ Q (.bool (!isNoneV a)) H
noncomputable def pSubI (o : V) (k : Int) (H : Hp) (Q : V → Hp → Prop) : Prop := match o with
  | .tup l => oK (idxP l k) fun v => Q v H
  | .ref j => oK (listAt H j) fun l => oK (idx l k) fun v => Q v H
  | .scr ns => oK (idxP ns k) fun v => Q (.int v) H
  | .str x => oK (idxP x.cps.toList k) fun c => Q (.str ⟨#[c]⟩) H
  | _ => False
noncomputable def pSub (o i : V) (H : Hp) (Q : V → Hp → Prop) : Prop := match i with
  | .int k => pSubI o k H Q
  | .str x => oK (refV o) fun j => oK (dictAt H j) fun es => oK (es.lookup x) fun v => Q v H
  | _ => False
noncomputable def pSlice (o lo hi : V) (H : Hp) (Q : V → Hp → Prop) : Prop := oK (refV o) fun i => oK (listAt H i) fun xs => oK (cutL lo hi xs) fun ys => Q (.ref H.length) (H ++ [.list ys])
noncomputable def pRev (o : V) (H : Hp) (Q : V → Hp → Prop) : Prop := oK (refV o) fun i => oK (listAt H i) fun xs => Q (.ref H.length) (H ++ [.list xs.reverse])
noncomputable def pSet (o k v : V) (H : Hp) (Q : Hp → Prop) : Prop := oK (refV o) fun i => (match k with
  | .int j => oK (listAt H i) fun l => (0 ≤ j ∧ j < (l.length : Int)) ∧ Q (H.set i (.list (l.set j.toNat v)))
  | .str x => oK (dictAt H i) fun es => es.length ≤ 100000 ∧ Q (H.set i (.dict ((x, v) :: es)))
  | _ => False)
noncomputable def fldOk (x : Str) : Bool := x == "names" || x == "free_rules" || x == "busy_rules" || x == "held" || x == "given"
noncomputable def pAttr (o : V) (x : Str) (H : Hp) (Q : V → Hp → Prop) : Prop := oK (refV o) fun i => oK (nsAt H i) fun p => oK (p.2.lookup x) fun v => Q v H
noncomputable def pSetA (o : V) (x : Str) (v : V) (H : Hp) (Q : Hp → Prop) : Prop := oK (refV o) fun i => oK (nsAt H i) fun p => p.2.length ≤ 100000 ∧ Q (H.set p.1 (.ns ((x, v) :: p.2)))
noncomputable def tyOf (H : Hp) : V → Option Ty
  | .bool _ => some .bool
  | .int _ => some .int
  | .str _ => some .str
  | .tup _ => some .tuple
  | .ref i => (listAt H i).map fun _ => .list
  | _ => none
noncomputable def subTy (a b : Ty) : Bool := match b with
  | .int => (match a with
    | .int => true
    | .bool => true
    | _ => false)
  | .bool => (match a with
    | .bool => true
    | _ => false)
  | .str => (match a with
    | .str => true
    | _ => false)
  | .tuple => (match a with
    | .tuple => true
    | _ => false)
  | .list => (match a with
    | .list => true
    | _ => false)
  | _ => false
noncomputable def isiTy : Ty → Bool
  | .int => true
  | .bool => true
  | .str => true
  | .tuple => true
  | .list => true
  | _ => false
noncomputable def isInstH (H : Hp) (v : V) (n : Ty) : Option Bool := match isiTy n with
  | true => (match v with
    | .none => some false
    | v => (tyOf H v).map fun t => subTy t n)
  | false => none
noncomputable def boolV : V → Option Bool
  | .bool b => some b
  | _ => none
noncomputable def allBools : List V → Option (List Bool)
  | [] => some []
  | v :: r => (boolV v).bind fun b => (allBools r).map (b :: ·)
noncomputable abbrev Orc := Str → List V → Hp → (V → Hp → Prop) → (Exc → Hp → Prop) → Prop
noncomputable def tyV : V → Option Ty
  | .ty t => some t
  | _ => none
theorem tyV_some {v : V} {t : Ty} (h : tyV v = some t) : v = .ty t := by
  cases v with
  | ty _ => exact congrArg V.ty (Option.some.inj h)
  | _ => exact no_some h
noncomputable def intsOf : List V → Option (List Int)
  | [] => some []
  | v :: r => (intV v).bind fun i => (intsOf r).map (i :: ·)
noncomputable def pMax (args : List V) (H : Hp) (Q : V → Hp → Prop) : Prop := match args with
  | [] => False
  | a :: r => (match r with
    | [] => oK (refV a) fun i => oK (listAt H i) fun l => oK (intsOf l) fun ns => ns ≠ [] ∧ ∀ m, m ∈ ns → (∀ x ∈ ns, x ≤ m) → Q (.int m) H
    | b :: r => on0P r (pInt a b fun i j => Q (.int (max i j)) H))
noncomputable def pLen (v : V) (H : Hp) (Q : V → Hp → Prop) : Prop := match v with
  | .tup l => Q (.int (l.length : Int)) H
  | .ref i => oK (listAt H i) fun l => Q (.int (l.length : Int)) H
  | .scr ns => Q (.int (ns.length : Int)) H
  | .str x => Q (.int (x.length : Int)) H
  | _ => False
noncomputable def pBi (b : Bi) (args : List V) (H : Hp) (Q : V → Hp → Prop) : Prop :=
  match b with
  | .len => on1P args fun v => pLen v H Q
  | .isinstance => on2P args fun v w => oK (tyV w) fun t => oK (isInstH H v t) fun c => Q (.bool c) H
  | .any => on1P args fun v => oK (refV v) fun i => oK (listAt H i) fun l => oK (allBools l) fun bs => Q (.bool (bs.any id)) H
  | .all => on1P args fun v => oK (refV v) fun i => oK (listAt H i) fun l => oK (allBools l) fun bs => Q (.bool (bs.all id)) H
  | .max => pMax args H Q
  | .min => on2P args fun v w => pInt v w fun i j => Q (.int (min i j)) H
  | .repr => on1P args fun v => oK (toPyT H v) fun d => (d.showable = true ∧ d.depth ≤ 60 ∧ d.shown.length ≤ 16000000) ∧ Q (.opq d.shown) H
noncomputable def pTy1 (b : Ty) (v : V) (H : Hp) (Q : V → Hp → Prop) : Prop := match b with
  | .int => oK (boolV v) fun b => Q (.int (if b then 1 else 0)) H
  | .tuple => oK (refV v) fun i => oK (listAt H i) fun l => Q (.tup l) H
  | .list => oK (refV v) fun i => oK (listAt H i) fun l => Q (.ref H.length) (H ++ [.list l])
  | _ => False
noncomputable def pTy (b : Ty) (args : List V) (H : Hp) (Q : V → Hp → Prop) : Prop := on1P args fun v => pTy1 b v H Q
noncomputable def pCall (Φ : Orc) (f : V) (args : List V) (H : Hp) (Q : V → Hp → Prop) (X : Exc → Hp → Prop) : Prop :=
  match f with
  | .fn x => Φ x args H Q X
  | .bi b => pBi b args H Q
  | .ty t => pTy t args H Q
  | _ => False
noncomputable def okMeth (H : Hp) (o : V) : Prop := match o with
  | .ref i => ∃ l, listAt H i = some l
  | _ => False
noncomputable def pMeth (o : V) (name : Mt) (args : List V) (H : Hp) (Q : V → Hp → Prop) : Prop :=
  oK (refV o) fun i => oK (listAt H i) fun l => (match name with
  | .append => on1P args fun v => l.length ≤ 1000000 ∧ Q .none (H.set i (.list (l ++ [v])))
  | .count => on1P args fun v => oK (strsOf l) fun ys => oK (strV v) fun y => Q (.int ((ys.count y : Nat) : Int)) H
  | .clear => on0P args (Q .none (H.set i (.list [])))
  | .reverse => on0P args (Q .none (H.set i (.list l.reverse))))
noncomputable def rangeL (a b : Int) : List V := (List.range (b - a).toNat).map fun (k : Nat) => V.int (a + (k : Int))
noncomputable def pVal (v : V) (H : Hp) (Q : List V → (Hp → Prop) → Prop) : Prop := match v with
  | .tup l => Q l (fun _ => True)
  | .str x => x.cps.all (· < 128) = true ∧ Q (x.cps.toList.map fun c => V.str ⟨#[c]⟩) (fun _ => True)
  | .ref i => oK (listAt H i) fun l => Q l (fun H' => listAt H' i = some l)
  | _ => False
noncomputable def pSrc (k : SrcK) (v : V) (H : Hp) (Q : List V → (Hp → Prop) → Prop) : Prop :=
  match k with
  | .val => pVal v H Q
  | .range => oK (intV v) fun a => (-(2 ^ 62) ≤ a ∧ a ≤ 1000000) ∧ Q (rangeL 0 a) (fun _ => True)
  | .range2 => oK (tupV v) fun l => on2P l fun v w => pInt v w fun a b => (-(2 ^ 62) ≤ a ∧ a < 2 ^ 62 ∧ -(2 ^ 62) ≤ b ∧ b < 2 ^ 62 ∧ b - a ≤ 1000000) ∧ Q (rangeL a b) (fun _ => True)
  | .rev => oK (refV v) fun i => oK (listAt H i) fun l => Q l.reverse (fun H' => listAt H' i = some l)
noncomputable abbrev XL := Exc → Hp → Prop
noncomputable def ifP (c : Bool) (A B : Prop) : Prop := match c with | true => A | false => B
noncomputable def bd1 (j : Nat) (L : Lc) (x : V) : Option Lc := some (L.set j (some x))
noncomputable def two : List V → Option (V × V)
  | [] => none
  | a :: r => (match r with
    | [] => none
    | b :: r => (match r with
      | [] => some (a, b)
      | _ :: _ => none))
noncomputable def bd2 (j : Nat) (L : Lc) (x : V) : Option Lc := ((tupV x).bind two).map fun p => (L.set j (some p.1)).set (j + 1) (some p.2)
noncomputable def compGoB (el : Lc → Hp → (V → Hp → Prop) → Prop) (st : Hp → Prop) (bd : V → Option Lc) : List V → List V → Hp → (List V → Hp → Prop) → Prop
  | [], acc, H, Q => Q acc H
  | x :: r, acc, H, Q => oK (bd x) fun L => el L H (fun y H2 => st H2 ∧ compGoB el st bd r (acc ++ [y]) H2 Q)
noncomputable abbrev compGo (el : Lc → Hp → (V → Hp → Prop) → Prop) (st : Hp → Prop) (j : Nat) (L : Lc) : List V → List V → Hp → (List V → Hp → Prop) → Prop := compGoB el st (bd1 j L)
noncomputable abbrev noX : XL := fun _ _ => False
noncomputable abbrev noXS : Exc → Lc → Hp → Prop := fun _ _ _ => False
structure ET where
  E : Lc → Hp → (V → Hp → Prop) → XL → Prop
  T : Lc → Hp → (Bool → Hp → Prop) → XL → Prop
noncomputable def ET.of (E : Lc → Hp → (V → Hp → Prop) → XL → Prop) : ET :=
  ⟨E, fun L H Q X => E L H (fun v H1 => tX v fun c => Q c H1) X⟩
mutual
noncomputable def wp2 (Φ : Orc) : IE → ET
  | .lit v => .of fun _ H Q _ => Q v H
  | .loc i => .of fun L H Q _ => oKK L[i]? fun v => Q v H
  | .bin op a b => .of fun L H Q X => (wp2 Φ a).E L H (fun va H1 => (wp2 Φ b).E L H1 (fun vb H2 => pBin op va vb H2 Q) X) X
  | .neg a => .of fun L H Q X => (wp2 Φ a).E L H (fun v H1 => oK (intV v) fun i => Q (.int (-i)) H1) X
  | .not a => ⟨fun L H Q X => (wp2 Φ a).E L H (fun v H1 => tX v fun c => Q (.bool (!c)) H1) X,
      fun L H Q X => (wp2 Φ a).T L H (fun c H1 => Q (!c) H1) X⟩
  | .and a b => ⟨fun L H Q X => (wp2 Φ a).E L H (fun v H1 => tX v fun c => ifP c ((wp2 Φ b).E L H1 Q X) (Q v H1)) X,
      fun L H Q X => (wp2 Φ a).T L H (fun c H1 => ifP c ((wp2 Φ b).T L H1 Q X) (Q false H1)) X⟩
  | .or a b => ⟨fun L H Q X => (wp2 Φ a).E L H (fun v H1 => tX v fun c => ifP c (Q v H1) ((wp2 Φ b).E L H1 Q X)) X,
      fun L H Q X => (wp2 Φ a).T L H (fun c H1 => ifP c (Q true H1) ((wp2 Φ b).T L H1 Q X)) X⟩
  | .cmp a op b => .of fun L H Q X => (wp2 Φ a).E L H (fun va H1 => (wp2 Φ b).E L H1 (fun vb H2 => pCmp op va vb H2 Q) X) X
  | .cmp2 a op b op' c => .of fun L H Q X => (wp2 Φ a).E L H (fun va H1 => (wp2 Φ b).E L H1 (fun vb H2 => pCmp op va vb H2 (fun r H3 =>
      tX r fun t => ifP t ((wp2 Φ c).E L H3 (fun vc H4 => pCmp op' vb vc H4 Q) X) (Q r H3))) X) X
  | .ite t a b => ⟨fun L H Q X => (wp2 Φ t).T L H (fun c H1 => ifP c ((wp2 Φ a).E L H1 Q X) ((wp2 Φ b).E L H1 Q X)) X,
      fun L H Q X => (wp2 Φ t).T L H (fun c H1 => ifP c ((wp2 Φ a).T L H1 Q X) ((wp2 Φ b).T L H1 Q X)) X⟩
  | .tup es => .of fun L H Q X => wpEs Φ es L H (fun vs H1 => vs.length ≤ 1000000 ∧ Q (.tup vs) H1) X
  | .lst es => .of fun L H Q X => wpEs Φ es L H (fun vs H1 => vs.length ≤ 1000000 ∧ Q (.ref H1.length) (H1 ++ [.list vs])) X
  | .call f args => .of fun L H Q X => wpEs Φ args L H (fun vs H1 => pCall Φ f vs H1 Q X) X
  | .meth o name args => .of fun L H Q X => (wp2 Φ o).E L H (fun vo H1 => okMeth H1 vo ∧ wpEs Φ args L H1 (fun vs H2 => pMeth vo name vs H2 Q) X) X
  | .sub o i => .of fun L H Q X => (wp2 Φ o).E L H (fun vo H1 => (wp2 Φ i).E L H1 (fun vi H2 => pSub vo vi H2 Q) X) X
  | .slice o lo hi => .of fun L H Q X => (wp2 Φ o).E L H (fun vo H1 => wpO Φ lo L H1 (fun vl H2 => wpO Φ hi L H2 (fun vh H3 => pSlice vo vl vh H3 Q) X) X) X
  | .comp elt j k src => .of fun L H Q X => (wp2 Φ src).E L H (fun v H1 => pSrc k v H1 fun items st =>
      compGo (fun L' H' K => (wp2 Φ elt).E L' H' K X) st j L items [] H1
        (fun ys H2 => ys.length ≤ 1000000 ∧ Q (.ref H2.length) (H2 ++ [.list ys]))) X
  | .comp2 elt j k src => .of fun L H Q X => (wp2 Φ src).E L H (fun v H1 => pSrc k v H1 fun items st =>
      compGoB (fun L' H' K => (wp2 Φ elt).E L' H' K X) st (bd2 j L) items [] H1
        (fun ys H2 => ys.length ≤ 1000000 ∧ Q (.ref H2.length) (H2 ++ [.list ys]))) X
  | .rev o => .of fun L H Q X => (wp2 Φ o).E L H (fun vo H1 => pRev vo H1 Q) X
  | .attr o x => .of fun L H Q X => (wp2 Φ o).E L H (fun vo H1 => pAttr vo x H1 Q) X
  | .mcall o x args => .of fun L H Q X => (wp2 Φ o).E L H (fun vo H1 => oK (refV vo) fun i => oK (nsAt H1 i) fun _ => wpEs Φ args L H1 (fun vs H2 => Φ (Str.ofString "Book." ++ x) (.ref i :: vs) H2 Q X) X) X
  | .new => .of fun _ H Q X => Φ "Book.__init__" [.ref (H.length + 1)] (H ++ [.ns []] ++ [.inst H.length]) (fun v H1 => isNoneV v = true ∧ Q (.ref (H.length + 1)) H1) X
  | .dct => .of fun _ H Q _ => Q (.ref H.length) (H ++ [.dict []])
noncomputable def wpEs (Φ : Orc) : List IE → Lc → Hp → (List V → Hp → Prop) → XL → Prop
  | [], _, H, Q, _ => Q [] H
  | e :: r, L, H, Q, X => (wp2 Φ e).E L H (fun v H1 => wpEs Φ r L H1 (fun vs H2 => Q (v :: vs) H2) X) X
noncomputable def wpO (Φ : Orc) : Option IE → Lc → Hp → (V → Hp → Prop) → XL → Prop
  | none, _, H, Q, _ => Q .none H
  | some e, L, H, Q, X => (wp2 Φ e).E L H Q X
end
noncomputable abbrev QS := Fl → Lc → Hp → Prop
noncomputable abbrev XS := Exc → Lc → Hp → Prop
noncomputable def nxt (go : Lc → Hp → Prop) (Q : QS) : QS := fun fl L1 H1 => match fl with
  | .next => go L1 H1
  | .cont => Q .cont L1 H1
  | .ret v => Q (.ret v) L1 H1
noncomputable def lop (go : Lc → Hp → Prop) (Q : QS) : QS := fun fl L1 H1 => match fl with
  | .next => go L1 H1
  | .cont => go L1 H1
  | .ret v => Q (.ret v) L1 H1
noncomputable def forGo (body : Lc → Hp → QS → Prop) (st : Hp → Prop) (j : Nat) : List V → Lc → Hp → QS → Prop
  | [], L, H, Q => Q .next L H
  | x :: r, L, H, Q => body (L.set j (some x)) H (lop (fun L1 H1 => st H1 ∧ forGo body st j r L1 H1 Q) Q)
noncomputable def whileGo (test : Lc → Hp → (Bool → Hp → Prop) → Prop) (body : Lc → Hp → QS → Prop) : Nat → Lc → Hp → QS → Prop
  | 0, _, _, _ => False
  | n + 1, L, H, Q => test L H (fun c H1 => ifP c (body L H1 (lop (fun L1 H2 => whileGo test body n L1 H2 Q) Q)) (Q .next L H1))
mutual
noncomputable def wpS (Φ : Orc) : IS → Lc → Hp → QS → XS → Prop
  | .expr e, L, H, Q, X => (wp2 Φ e).E L H (fun _ H1 => Q .next L H1) (fun x => X x L)
  | .assign i e, L, H, Q, X => (wp2 Φ e).E L H (fun v H1 => Q .next (L.set i (some v)) H1) (fun x => X x L)
  | .setItem o k v, L, H, Q, X => (wp2 Φ v).E L H (fun vv H1 => (wp2 Φ o).E L H1 (fun vo H2 => (wp2 Φ k).E L H2 (fun vk H3 => pSet vo vk vv H3 (Q .next L)) (fun x => X x L)) (fun x => X x L)) (fun x => X x L)
  | .ret e, L, H, Q, X => (wp2 Φ e).E L H (fun v H1 => Q (.ret v) L H1) (fun x => X x L)
  | .ite t a b, L, H, Q, X => (wp2 Φ t).T L H (fun c H1 => ifP c (wpSs Φ a L H1 Q X) (wpSs Φ b L H1 Q X)) (fun x => X x L)
  | .while t b, L, H, Q, X => ∃ n, whileGo (fun L' H' K => (wp2 Φ t).T L' H' K noX) (fun L' H' K => wpSs Φ b L' H' K noXS) n L H Q
  | .for j k src b, L, H, Q, X => (wp2 Φ src).E L H (fun v H1 => pSrc k v H1 fun items st =>
      forGo (fun L' H' K => wpSs Φ b L' H' K X) st j items L H1 Q) (fun x => X x L)
  | .setAttr o x e, L, H, Q, X => (wp2 Φ e).E L H (fun vv H1 => (wp2 Φ o).E L H1 (fun vo H2 => pSetA vo x vv H2 (Q .next L)) (fun x => X x L)) (fun x => X x L)
  | .fail, _, _, _, _ => False
  | .cont, L, H, Q, _ => Q .cont L H
noncomputable def wpSs (Φ : Orc) : List IS → Lc → Hp → QS → XS → Prop
  | [], L, H, Q, _ => Q .next L H
  | s :: r, L, H, Q, X => wpS Φ s L H (nxt (fun L1 H1 => wpSs Φ r L1 H1 Q X) Q) X
end
noncomputable def bdy : IS → List IS
  | .while _ b => b
  | .for _ _ _ b => b
  | .ite _ a _ => a
  | _ => []
structure Fn where
  names : Nat
  params : Nat
  body : List IS
noncomputable def initL (f : Fn) (vs : List V) : Lc := vs.map some ++ List.replicate (f.names - f.params) none
noncomputable def retV : Fl → V
  | .ret v => v
  | _ => .none
noncomputable def wpFn (Φ : Orc) (f : Fn) (vs : List V) (H : Hp) (Q : V → Hp → Prop) (X : XL) : Prop :=
  vs.length = f.params ∧ wpSs Φ f.body (initL f vs) H (fun fl _ H1 => Q (retV fl) H1) (fun x _ H1 => X x H1)
end Mine
namespace Mine
open PySem
structure CC where
  G : List (Str × V)
  mts : List Str
  scope : Scope
  slots : List (Str × Nat)
  nxt : Nat
noncomputable def mapO {α β : Type} (f : α → Option β) : List α → Option (List β)
  | [] => some []
  | a :: r => (f a).bind fun b => (mapO f r).map (b :: ·)
noncomputable def constV : Const → Option V
  | .none => some .none
  | .bool b => some (.bool b)
  | .int i => some (.int i)
  | .str s => if s.length ≤ 2000000 ∧ PyData.strOk s = true then some (.str s) else none
  | _ => none
noncomputable def relab (scope outer : Scope) : Scope :=
  { scope with names := scope.names.map fun (n, k) => if (k == .free && outer.kind == .function && outer.names.lookup n == some .cell) then (n, .cell) else (n, k) }
noncomputable def isCell (y : Str × NameKind) : Bool := y.2 == .cell
noncomputable def okComp (scope outer : Scope) : Bool :=
  scope.kind == .function && (scope.names.all fun y => (y.2 != .local || scope.names.lookup y.1 == some .local) && (y.2 != .free || (outer.kind == .function && outer.names.lookup y.1 == some .cell)))
noncomputable def okVar (scope : Scope) (x : Str) : Bool := (scope.names.lookup x == some .local && (scope.names.filter isCell).isEmpty) || (scope.names.lookup x == some .cell && scope.names.filter isCell == [(x, .cell)])
noncomputable def isComp : Expr → Bool
  | .ListComp .. => true
  | .SetComp .. => true
  | .DictComp .. => true
  | _ => false
noncomputable def isStar : Expr → Bool
  | .Starred .. => true
  | _ => false
noncomputable def plainBase : Expr → Bool
  | .Call .. => false
  | _ => true
noncomputable def onlyIf {α : Type} (b : Bool) (x : Option α) : Option α := match b with | true => x | false => none
theorem onlyIf_some {α : Type} {b : Bool} {x : Option α} {y : α} (h : onlyIf b x = some y) : b = true ∧ x = some y := by cases b with | true => exact ⟨rfl, h⟩ | false => exact no_some h
noncomputable def mtOf (x : Str) : Option Mt := [Mt.append, .count, .clear, .reverse].find? fun m => x == m.name
theorem mtOf_some {x : Str} {m : Mt} (h : mtOf x = some m) : x = m.name := eq_of_beq (List.find?_some (p := fun m : Mt => x == m.name) h)
noncomputable def Mt.one : Mt → Bool
  | .append => true
  | .count => true
  | _ => false
noncomputable def kindV (c : CC) (x : Str) : Option NameKind := onlyIf (!(x == ("__debug__" : Str))) (c.scope.names.lookup x)
noncomputable def nameV (c : CC) (x : Str) : Option IE := (kindV c x).bind fun k => match k with
  | .globalImplicit => (c.G.lookup x).map .lit
  | .local => (c.slots.lookup x).map .loc
  | .cell => (c.slots.lookup x).map .loc
  | _ => none
noncomputable def globV (c : CC) (x : Str) : Option V := (kindV c x).bind fun k => match k with
  | .globalImplicit => c.G.lookup x
  | _ => none
noncomputable def boolGo (mk : IE → IE → IE) : List IE → Option IE
  | [] => none
  | a :: r => (match r with
    | [] => some a
    | b :: s => (boolGo mk (b :: s)).map (mk a))
noncomputable def oTwo {α β γ : Type} (f : α → β → γ) (x : Option α) (y : Option β) : Option γ := match x with | some a => (match y with | some b => some (f a b) | none => none) | none => none
theorem oTwo_some {α β γ : Type} {f : α → β → γ} {x : Option α} {y : Option β} {z : γ} (h : oTwo f x y = some z) : ∃ a b, x = some a ∧ y = some b ∧ z = f a b := by
  cases x with
  | none => exact no_some h
  | some a => cases y with
    | none => exact no_some h
    | some b => exact ⟨a, b, rfl, rfl, (Option.some.inj h).symm⟩
noncomputable def oThree {α β γ δ : Type} (f : α → β → γ → δ) (x : Option α) (y : Option β) (z : Option γ) : Option δ := match x with | some a => oTwo (f a) y z | none => none
theorem oThree_some {α β γ δ : Type} {f : α → β → γ → δ} {x : Option α} {y : Option β} {z : Option γ} {u : δ} (h : oThree f x y z = some u) : ∃ a b c, x = some a ∧ y = some b ∧ z = some c ∧ u = f a b c := by
  cases x with
  | none => exact no_some h
  | some a => obtain ⟨b, c, h1, h2, h3⟩ := oTwo_some h; exact ⟨a, b, c, rfl, h1, h2, h3⟩
noncomputable def onName {β : Type} (e : Expr) (k : Str → Option β) : Option β := match e with
  | .Name x _ => k x
  | _ => none
theorem onName_some {β : Type} {e : Expr} {k : Str → Option β} {b : β} (h : onName e k = some b) : ∃ x p, e = .Name x p ∧ k x = some b := by
  cases e with
  | Name x p => exact ⟨x, p, rfl, h⟩
  | _ => exact no_some h
noncomputable def on1 {α β : Type} (l : List α) (k : α → Option β) : Option β := match l with
  | [] => none
  | a :: r => (match r with
    | [] => k a
    | _ :: _ => none)
theorem on1_some {α β : Type} {l : List α} {k : α → Option β} {b : β} (h : on1 l k = some b) : ∃ a, l = [a] ∧ k a = some b := by
  cases l with
  | nil => exact no_some h
  | cons a r => cases r with
    | nil => exact ⟨a, rfl, h⟩
    | cons _ _ => exact no_some h
noncomputable def onCall {β : Type} (e : Expr) (k : Expr → List Expr → Option β) : Option β := match e with
  | .Call f as ks _ => (match ks with
    | [] => k f as
    | _ :: _ => none)
  | _ => none
theorem onCall_some {β : Type} {e : Expr} {k : Expr → List Expr → Option β} {b : β} (h : onCall e k = some b) : ∃ f as p, e = .Call f as [] p ∧ k f as = some b := by
  cases e with
  | Call f as ks p => cases ks with
    | nil => exact ⟨f, as, p, rfl, h⟩
    | cons _ _ => exact no_some h
  | _ => exact no_some h
noncomputable def on2 {α β : Type} (l : List α) (k : α → α → Option β) : Option β := match l with
  | [] => none
  | a :: r => on1 r (k a)
theorem on2_some {α β : Type} {l : List α} {k : α → α → Option β} {b : β} (h : on2 l k = some b) : ∃ a c, l = [a, c] ∧ k a c = some b := by
  cases l with
  | nil => exact no_some h
  | cons a r =>
    refine e1_2 (on1_some h) fun c e_2 h => ?_
    obtain rfl := e_2
    exact ⟨a, c, rfl, h⟩
noncomputable def srcK : V → Option SrcK
  | .ty t => (match t with
    | .range => some .range
    | .reversed => some .rev
    | _ => none)
  | _ => none
noncomputable def srcE (f : Expr → Option IE) (k : SrcK) (as : List Expr) : Option (SrcK × IE) := match as with
  | [] => none
  | a :: r => onlyIf (!isStar a) (match k with
    | .range => (match r with
      | [] => (f a).map fun v => (k, v)
      | b :: s => onlyIf (!isStar b && s.isEmpty) (oTwo (fun v w => (.range2, .tup [v, w])) (f a) (f b)))
    | _ => onlyIf r.isEmpty ((f a).map fun v => (k, v)))
noncomputable def srcN (c : CC) (e : Expr) : Option (SrcK × List Expr) := onCall e fun f as => onName f fun g => ((globV c g).bind srcK).map fun k => (k, as)
noncomputable def compSrc (f : Expr → Option IE) (c : CC) (e : Expr) : Option (SrcK × IE) := match srcN c e with
  | some ka => srcE f ka.1 ka.2
  | none => (f e).map fun v => (SrcK.val, v)
noncomputable def methE (f : Expr → Option IE) (m : Mt) (args : List Expr) (o : Option IE) : Option IE := match m.one with
  | true => on1 args fun a => oTwo (fun v i => .meth v m [i]) o (f a)
  | false => onlyIf args.isEmpty (o.map fun v => .meth v m [])
noncomputable def innerC (c : CC) (scope : Scope) (x : Str) : CC := { c with scope := relab scope c.scope, slots := (x, c.nxt) :: c.slots, nxt := c.nxt + 1 }
noncomputable def optE (f : Expr → Option IE) : Option Expr → Option (Option IE)
  | none => some none
  | some e => (f e).map some
noncomputable def isM1 : Expr → Bool
  | .UnaryOp o e _ => (match o with
    | .USub => (match e with
      | .Constant k _ _ => (match k with
        | .int i => i == 1
        | _ => false)
      | _ => false)
    | _ => false)
  | _ => false
noncomputable def subE (f : Expr → Option IE) (o i : Expr) : Option IE := match i with
  | .Slice lo hi st _ => (match st with
    | none => oThree IE.slice (f o) (optE f lo) (optE f hi)
    | some e => onlyIf (isM1 e && lo.isNone && hi.isNone) ((f o).map .rev))
  | _ => oTwo IE.sub (f o) (f i)
noncomputable def cUn (op : UnaryOp) (x : Option IE) : Option IE := match op with
  | .USub => x.map .neg
  | .Not => x.map .not
  | _ => none
noncomputable def cBool (op : BoolOp) (vs : Option (List IE)) : Option IE := vs.bind fun vs => match op with
  | .And => boolGo .and vs
  | .Or => boolGo .or vs
noncomputable def cCmp (f : Expr → Option IE) (l : Option IE) (ops : List CmpOp) (rs : List Expr) : Option IE := match ops with
  | [] => none
  | op :: ops => (match ops with
    | [] => on1 rs fun r => oTwo (fun a b => .cmp a op b) l (f r)
    | op' :: _ => onlyIf (ops.length.beq 1) (on2 rs fun r r' => oThree (fun a b d => .cmp2 a op b op' d) l (f r) (f r')))
noncomputable def isBk : Option V → Bool
  | some v => (match v with
    | .bk => true
    | _ => false)
  | none => false
noncomputable def cCall (f : Expr → Option IE) (c : CC) (fn : Expr) (args : List Expr) (pos : Pos) : Option IE := onlyIf (!args.any isStar && args.length.ble 20) (match fn with
  | .Name x _ => (match isBk (globV c x) with
    | true => onlyIf args.isEmpty (some .new)
    | false => oTwo IE.call (globV c x) (mapO f args))
  | .Attribute o name apos => onlyIf (plainBase o && apos.endLine.beq pos.line) (match mtOf name with
    | some m => methE f m args (f o)
    | none => onlyIf (c.mts.contains name) (oTwo (fun v as => .mcall v name as) (f o) (mapO f args)))
  | _ => none)
noncomputable def okC (c : CC) (scope : Scope) (x : Str) (a : Int) : Bool := a == 0 && okComp scope c.scope && okVar scope x && (scope.names.all fun y => y.2 != .local || y.1 == x || (c.slots.lookup y.1).isNone) && (c.slots.all fun p => p.2 < c.nxt)
noncomputable def isTup : Expr → Bool
  | .Tuple .. => true
  | _ => false
noncomputable def onTup {β : Type} (e : Expr) (k : List Expr → Option β) : Option β := match e with
  | .Tuple es _ _ => k es
  | _ => none
theorem onTup_some {β : Type} {e : Expr} {k : List Expr → Option β} {b : β} (h : onTup e k = some b) : ∃ es n p, e = .Tuple es n p ∧ k es = some b := by
  cases e with
  | Tuple es n p => exact ⟨es, n, p, rfl, h⟩
  | _ => exact no_some h
noncomputable def innerC2 (c : CC) (scope : Scope) (x y : Str) : CC := { c with scope := relab scope c.scope, slots := (x, c.nxt) :: (y, c.nxt + 1) :: c.slots, nxt := c.nxt + 2 }
noncomputable def okC2 (c : CC) (scope : Scope) (x y : Str) (a : Int) : Bool := a == 0 && okComp scope c.scope && (scope.names.lookup x == some .local && scope.names.lookup y == some .local && !(x == y) && (scope.names.filter isCell).isEmpty) && (scope.names.all fun z => z.2 != .local || z.1 == x || z.1 == y || (c.slots.lookup z.1).isNone) && (c.slots.all fun p => p.2 < c.nxt)
noncomputable def cLc (f : CC → Expr → Option IE) (c : CC) (elt : Expr) (gens : List Comprehension) (scope : Scope) : Option IE := on1 gens fun g => match isTup g.target with
  | true => onTup g.target fun ts => on2 ts fun tx ty => onName tx fun x => onName ty fun y => onlyIf (okC2 c scope x y g.is_async && g.ifs.isEmpty) (oTwo (fun ks e => .comp2 e c.nxt ks.1 ks.2) (compSrc (f c) c g.iter) (f (innerC2 c scope x y) elt))
  | false => onName g.target fun x => onlyIf (okC c scope x g.is_async && g.ifs.isEmpty) (oTwo (fun ks e => .comp e c.nxt ks.1 ks.2) (compSrc (f c) c g.iter) (f (innerC c scope x) elt))
noncomputable def stepE (f : CC → Expr → Option IE) (c : CC) (e : Expr) : Option IE := match e with
  | .Constant k _ _ => (constV k).map .lit
  | .Name x _ => nameV c x
  | .BinOp l op r _ => oTwo (IE.bin op) (f c l) (f c r)
  | .UnaryOp op x _ => cUn op (f c x)
  | .BoolOp op vs _ => cBool op (mapO (f c) vs)
  | .IfExp t a b _ => oThree IE.ite (f c t) (f c a) (f c b)
  | .Compare l ops rs _ => cCmp (f c) (f c l) ops rs
  | .Tuple es _ _ => onlyIf (!es.any isStar) ((mapO (f c) es).map .tup)
  | .List es _ => onlyIf (!es.any isStar) ((mapO (f c) es).map .lst)
  | .Call fn args ks pos => onlyIf ks.isEmpty (cCall (f c) c fn args pos)
  | .Subscript o i _ => subE (f c) o i
  | .ListComp elt gens scope _ => cLc f c elt gens scope
  | .Attribute o x _ => onlyIf (fldOk x && plainBase o) ((f c o).map fun v => .attr v x)
  | .Dict ks vs _ => onlyIf (ks.isEmpty && vs.isEmpty) (some .dct)
  | _ => none
noncomputable def compE : Nat → CC → Expr → Option IE
  | 0 => fun _ _ => none
  | n + 1 => stepE (compE n)
noncomputable def slotV (c : CC) (x : Str) : Option Nat := (c.scope.names.lookup x).bind fun k => match k with
  | .local => c.slots.lookup x
  | .cell => c.slots.lookup x
  | _ => none
noncomputable def cAsg (f : Expr → Option IE) (c : CC) (e t : Expr) : Option IS := match t with
  | .Name x _ => oTwo IS.assign (slotV c x) (f e)
  | .Subscript o i _ => onlyIf (!isComp e) (oThree (fun v o i => IS.setItem o i v) (f e) (f o) (f i))
  | .Attribute o x _ => onlyIf (!isComp e && fldOk x) (oTwo (fun v o => IS.setAttr o x v) (f e) (f o))
  | _ => none
noncomputable def cFor (f : Expr → Option IE) (c : CC) (t iter : Expr) (b : Option (List IS)) : Option IS := onName t fun x => oThree (fun i ks b => .for i ks.1 ks.2 b) (slotV c x) (compSrc f c iter) b
noncomputable def stepS (f : Expr → Option IE) (g : Stmt → Option IS) (c : CC) (st : Stmt) : Option IS := match st with
  | .Expr e _ => onlyIf (!isComp e) ((f e).map .expr)
  | .Assign ts e _ => on1 ts (cAsg f c e)
  | .Return v _ => v.bind fun e => (f e).map .ret
  | .If t a b _ => oThree IS.ite (f t) (mapO g a) (mapO g b)
  | .While t b els _ => onlyIf els.isEmpty (oTwo IS.while (f t) (mapO g b))
  | .For t iter b els _ => onlyIf els.isEmpty (cFor f c t iter (mapO g b))
  | .Raise _ _ _ => some .fail
  | .Continue _ => some .cont
  | _ => none
noncomputable def compS : Nat → CC → Stmt → Option IS
  | 0 => fun _ _ => none
  | n + 1 => fun c => stepS (compE n c) (compS n c) c
noncomputable def slotsGo : List Str → Nat → List (Str × Nat)
  | [], _ => []
  | x :: r, k => (x, k) :: slotsGo r (k + 1)
noncomputable def ownNames (params : List Str) (scope : Scope) : List Str :=
  params ++ ((scope.names.filter fun x => (x.2 == .local || x.2 == .cell) && !params.contains x.1).map (·.1))
noncomputable def compFn (G : List (Str × V)) (mts : List Str) (params : List Str) (body : List Stmt) (scope : Scope) : Option Fn :=
  let ns := ownNames params scope
  let c : CC := { G, mts, scope, slots := slotsGo ns 0, nxt := ns.length }
  (mapO (compS 40 c) body).map fun b => { names := ns.length + 3, params := params.length, body := b }
end Mine
namespace Mine
open PySem
section
variable {Φ : Orc} {L : Lc} {H : Hp} {Q : V → Hp → Prop} {P : Bool → Hp → Prop} {X : XL} {QF : QS} {XF : XS}
theorem X_lit {v : V} : (wp2 Φ (.lit v)).E L H Q X = Q v H := rfl
theorem X_loc {i : Nat} : (wp2 Φ (.loc i)).E L H Q X = oKK L[i]? fun v => Q v H := rfl
theorem X_bin {op : Operator} {a b : IE} : (wp2 Φ (.bin op a b)).E L H Q X = (wp2 Φ a).E L H (fun va H1 => (wp2 Φ b).E L H1 (fun vb H2 => pBin op va vb H2 Q) X) X := rfl
theorem X_neg {a : IE} : (wp2 Φ (.neg a)).E L H Q X = (wp2 Φ a).E L H (fun v H1 => oK (intV v) fun i => Q (.int (-i)) H1) X := rfl
theorem negX_int {i : Int} : intV (.int i) = some i := rfl
theorem X_not {a : IE} : (wp2 Φ (.not a)).E L H Q X = (wp2 Φ a).E L H (fun v H1 => tX v fun c => Q (.bool (!c)) H1) X := rfl
theorem Y_not {a : IE} : (wp2 Φ (.not a)).T L H P X = (wp2 Φ a).T L H (fun c H1 => P (!c) H1) X := rfl
theorem X_and {a b : IE} : (wp2 Φ (.and a b)).E L H Q X = (wp2 Φ a).E L H (fun v H1 => tX v fun c => ifP c ((wp2 Φ b).E L H1 Q X) (Q v H1)) X := rfl
theorem Y_and {a b : IE} : (wp2 Φ (.and a b)).T L H P X = (wp2 Φ a).T L H (fun c H1 => ifP c ((wp2 Φ b).T L H1 P X) (P false H1)) X := rfl
theorem X_or {a b : IE} : (wp2 Φ (.or a b)).E L H Q X = (wp2 Φ a).E L H (fun v H1 => tX v fun c => ifP c (Q v H1) ((wp2 Φ b).E L H1 Q X)) X := rfl
theorem Y_or {a b : IE} : (wp2 Φ (.or a b)).T L H P X = (wp2 Φ a).T L H (fun c H1 => ifP c (P true H1) ((wp2 Φ b).T L H1 P X)) X := rfl
theorem X_cmp {a b : IE} {op : CmpOp} : (wp2 Φ (.cmp a op b)).E L H Q X = (wp2 Φ a).E L H (fun va H1 => (wp2 Φ b).E L H1 (fun vb H2 => pCmp op va vb H2 Q) X) X := rfl
theorem X_cmp2 {a b c : IE} {op op' : CmpOp} : (wp2 Φ (.cmp2 a op b op' c)).E L H Q X = (wp2 Φ a).E L H (fun va H1 => (wp2 Φ b).E L H1 (fun vb H2 => pCmp op va vb H2 (fun r H3 =>
      tX r fun t => ifP t ((wp2 Φ c).E L H3 (fun vc H4 => pCmp op' vb vc H4 Q) X) (Q r H3))) X) X := rfl
theorem X_ite {t a b : IE} : (wp2 Φ (.ite t a b)).E L H Q X = (wp2 Φ t).T L H (fun c H1 => ifP c ((wp2 Φ a).E L H1 Q X) ((wp2 Φ b).E L H1 Q X)) X := rfl
theorem Y_ite {t a b : IE} : (wp2 Φ (.ite t a b)).T L H P X = (wp2 Φ t).T L H (fun c H1 => ifP c ((wp2 Φ a).T L H1 P X) ((wp2 Φ b).T L H1 P X)) X := rfl
theorem X_tup {es : List IE} : (wp2 Φ (.tup es)).E L H Q X = wpEs Φ es L H (fun vs H1 => vs.length ≤ 1000000 ∧ Q (.tup vs) H1) X := rfl
theorem X_lst {es : List IE} : (wp2 Φ (.lst es)).E L H Q X = wpEs Φ es L H (fun vs H1 => vs.length ≤ 1000000 ∧ Q (.ref H1.length) (H1 ++ [.list vs])) X := rfl
theorem X_call {f : V} {args : List IE} : (wp2 Φ (.call f args)).E L H Q X = wpEs Φ args L H (fun vs H1 => pCall Φ f vs H1 Q X) X := rfl
theorem X_meth {o : IE} {name : Mt} {args : List IE} : (wp2 Φ (.meth o name args)).E L H Q X = (wp2 Φ o).E L H (fun vo H1 => okMeth H1 vo ∧ wpEs Φ args L H1 (fun vs H2 => pMeth vo name vs H2 Q) X) X := rfl
theorem X_sub {o i : IE} : (wp2 Φ (.sub o i)).E L H Q X = (wp2 Φ o).E L H (fun vo H1 => (wp2 Φ i).E L H1 (fun vi H2 => pSub vo vi H2 Q) X) X := rfl
noncomputable def coEX (Φ : Orc) (elt : IE) (X : XL) : Lc → Hp → (V → Hp → Prop) → Prop := fun L' H' K => (wp2 Φ elt).E L' H' K X
theorem X_comp {elt : IE} {j : Nat} {k : SrcK} {src : IE} : (wp2 Φ (.comp elt j k src)).E L H Q X = (wp2 Φ src).E L H (fun v H1 => pSrc k v H1 fun items st =>
      compGo (coEX Φ elt X) st j L items [] H1 (fun ys H2 => ys.length ≤ 1000000 ∧ Q (.ref H2.length) (H2 ++ [.list ys]))) X := rfl
theorem Y_lit {v : V} : (wp2 Φ (.lit v)).T L H P X = tX v fun c => P c H := rfl
theorem Y_loc {i : Nat} : (wp2 Φ (.loc i)).T L H P X = oKK L[i]? fun v => tX v fun c => P c H := rfl
theorem Y_cmp {a b : IE} {op : CmpOp} : (wp2 Φ (.cmp a op b)).T L H P X = (wp2 Φ (.cmp a op b)).E L H (fun v H1 => tX v fun c => P c H1) X := rfl
theorem Y_cmp2 {a b c : IE} {op op' : CmpOp} : (wp2 Φ (.cmp2 a op b op' c)).T L H P X = (wp2 Φ (.cmp2 a op b op' c)).E L H (fun v H1 => tX v fun c => P c H1) X := rfl
theorem Y_call {f : V} {args : List IE} : (wp2 Φ (.call f args)).T L H P X = (wp2 Φ (.call f args)).E L H (fun v H1 => tX v fun c => P c H1) X := rfl
theorem Y_sub {o i : IE} : (wp2 Φ (.sub o i)).T L H P X = (wp2 Φ (.sub o i)).E L H (fun v H1 => tX v fun c => P c H1) X := rfl
theorem XEs_nil {R : List V → Hp → Prop} : wpEs Φ [] L H R X = R [] H := rfl
theorem XEs_cons {e : IE} {r : List IE} {R : List V → Hp → Prop} : wpEs Φ (e :: r) L H R X = (wp2 Φ e).E L H (fun v H1 => wpEs Φ r L H1 (fun vs H2 => R (v :: vs) H2) X) X := rfl
theorem Z_expr {e : IE} : wpS Φ (.expr e) L H QF XF = (wp2 Φ e).E L H (fun _ H1 => QF .next L H1) (fun x => XF x L) := rfl
theorem Z_assign {i : Nat} {e : IE} : wpS Φ (.assign i e) L H QF XF = (wp2 Φ e).E L H (fun v H1 => QF .next (L.set i (some v)) H1) (fun x => XF x L) := rfl
theorem Z_ret {e : IE} : wpS Φ (.ret e) L H QF XF = (wp2 Φ e).E L H (fun v H1 => QF (.ret v) L H1) (fun x => XF x L) := rfl
theorem Z_ite {t : IE} {a b : List IS} : wpS Φ (.ite t a b) L H QF XF = (wp2 Φ t).T L H (fun c H1 => ifP c (wpSs Φ a L H1 QF XF) (wpSs Φ b L H1 QF XF)) (fun x => XF x L) := rfl
noncomputable def whTX (Φ : Orc) (t : IE) (XF : XL) : Lc → Hp → (Bool → Hp → Prop) → Prop := fun L' H' K => (wp2 Φ t).T L' H' K XF
noncomputable def whBX (Φ : Orc) (b : List IS) (XF : XS) : Lc → Hp → QS → Prop := fun L' H' K => wpSs Φ b L' H' K XF
theorem Z_while {t : IE} {b : List IS} : wpS Φ (.while t b) L H QF XF = ∃ n, whileGo (whTX Φ t noX) (whBX Φ b noXS) n L H QF := rfl
theorem Z_for {j : Nat} {k : SrcK} {src : IE} {b : List IS} : wpS Φ (.for j k src b) L H QF XF = (wp2 Φ src).E L H (fun v H1 => pSrc k v H1 fun items st =>
      forGo (whBX Φ b XF) st j items L H1 QF) (fun x => XF x L) := rfl
theorem Zs_nil : wpSs Φ [] L H QF XF = QF .next L H := rfl
noncomputable def sqX (Φ : Orc) (r : List IS) (QF : QS) (XF : XS) : QS := nxt (fun L1 H1 => wpSs Φ r L1 H1 QF XF) QF
theorem sqX_next {r : List IS} : sqX Φ r QF XF .next L H = wpSs Φ r L H QF XF := rfl
theorem sqX_cont {r : List IS} : sqX Φ r QF XF .cont L H = QF .cont L H := rfl
theorem Z_cont : wpS Φ .cont L H QF XF = QF .cont L H := rfl
theorem sqX_ret {r : List IS} {v : V} : sqX Φ r QF XF (.ret v) L H = QF (.ret v) L H := rfl
theorem Zs_cons {s : IS} {r : List IS} : wpSs Φ (s :: r) L H QF XF = wpS Φ s L H (sqX Φ r QF XF) XF := rfl
theorem zs_cons {s : IS} {r : List IS} (h : wpS Φ s L H (sqX Φ r QF XF) XF) : wpSs Φ (s :: r) L H QF XF := h
noncomputable def wkX (test : Lc → Hp → (Bool → Hp → Prop) → Prop) (body : Lc → Hp → QS → Prop) (n : Nat) (Q : QS) : QS := lop (fun L1 H2 => whileGo test body n L1 H2 Q) Q
noncomputable def fkX (body : Lc → Hp → QS → Prop) (st : Hp → Prop) (j : Nat) (r : List V) (Q : QS) : QS := lop (fun L1 H1 => st H1 ∧ forGo body st j r L1 H1 Q) Q
end
section
variable {Φ : Orc} {t : IE} {b : List IS} {XF : XS} {X : XL} {test : Lc → Hp → (Bool → Hp → Prop) → Prop} {body : Lc → Hp → QS → Prop} {n : Nat} {Q : QS} {L : Lc} {H : Hp} {st : Hp → Prop} {j : Nat} {x : V} {r : List V} {v : V} {acc : List V} {QL : List V → Hp → Prop} {elt : IE}
theorem whX_s : whileGo (whTX Φ t X) (whBX Φ b XF) (n + 1) L H Q = (wp2 Φ t).T L H (fun c H1 => ifP c (wpSs Φ b L H1 (wkX (whTX Φ t X) (whBX Φ b XF) n Q) XF) (Q .next L H1)) X := rfl
theorem wkX_next : wkX test body n Q .next L H = whileGo test body n L H Q := rfl
theorem wkX_ret : wkX test body n Q (.ret v) L H = Q (.ret v) L H := rfl
theorem foX_nil : forGo body st j [] L H Q = Q .next L H := rfl
theorem foX_cons : forGo (whBX Φ b XF) st j (x :: r) L H Q = wpSs Φ b (L.set j (some x)) H (fkX (whBX Φ b XF) st j r Q) XF := rfl
theorem fkX_next : fkX body st j r Q .next L H = (st H ∧ forGo body st j r L H Q) := rfl
theorem fkX_cont : fkX body st j r Q .cont L H = (st H ∧ forGo body st j r L H Q) := rfl
theorem fkX_ret : fkX body st j r Q (.ret v) L H = Q (.ret v) L H := rfl
theorem coX_nil {el : Lc → Hp → (V → Hp → Prop) → Prop} : compGo el st j L [] acc H QL = QL acc H := rfl
theorem coX_cons : compGo (coEX Φ elt X) st j L (x :: r) acc H QL = (wp2 Φ elt).E (L.set j (some x)) H (fun y H2 => st H2 ∧ compGo (coEX Φ elt X) st j L r (acc ++ [y]) H2 QL) X := rfl
theorem X_comp2 {Q : V → Hp → Prop} {k : SrcK} {src : IE} : (wp2 Φ (.comp2 elt j k src)).E L H Q X = (wp2 Φ src).E L H (fun v H1 => pSrc k v H1 fun items st =>
      compGoB (coEX Φ elt X) st (bd2 j L) items [] H1 (fun ys H2 => ys.length ≤ 1000000 ∧ Q (.ref H2.length) (H2 ++ [.list ys]))) X := rfl
theorem co2_nil {el : Lc → Hp → (V → Hp → Prop) → Prop} {bd : V → Option Lc} : compGoB el st bd [] acc H QL = QL acc H := rfl
theorem co2_cons {a b : V} : compGoB (coEX Φ elt X) st (bd2 j L) (.tup [a, b] :: r) acc H QL = (wp2 Φ elt).E ((L.set j (some a)).set (j + 1) (some b)) H (fun y H2 => st H2 ∧ compGoB (coEX Φ elt X) st (bd2 j L) r (acc ++ [y]) H2 QL) X := rfl
theorem oKK_some {α : Type} {a : α} {P : α → Prop} : oKK (some (some a)) P = P a := rfl
theorem oK_some {α : Type} {a : α} {P : α → Prop} : oK (some a) P = P a := rfl
theorem tX_bool {b : Bool} {P : Bool → Prop} : tX (.bool b) P = P b := rfl
theorem iX_t {A B : Prop} : ifP true A B = A := rfl
theorem iX_f {A B : Prop} : ifP false A B = B := rfl
theorem iX_d {p : Prop} [Decidable p] {A B : Prop} : ifP (decide p) A B = ((p → A) ∧ (¬ p → B)) := by by_cases h : p <;> simp [ifP, h]
theorem iX_p {p : Prop} [Decidable p] {A B : Prop} (h1 : p → A) (h2 : ¬ p → B) : ifP (decide p) A B := by by_cases h : p <;> simp only [h, decide_true, decide_false, ifP]; exact h1 h; exact h2 h
theorem iX_b {c : Bool} {A B : Prop} (h1 : c = true → A) (h2 : c = false → B) : ifP c A B := by cases c; exact h2 rfl; exact h1 rfl
end
section
variable {Φ : Orc} {H : Hp} {Q : V → Hp → Prop} {X : XL} {i j : Int} {m n : Nat} {x y : Str} {l : List V} {ns : List Int} {a v : V} {b c : Bool}
theorem q_add : pBin .Add (.int i) (.int j) H Q = Q (.int (i + j)) H := rfl
theorem q_sub : pBin .Sub (.int i) (.int j) H Q = Q (.int (i - j)) H := rfl
theorem q_mul : pBin .Mult (.int i) (.int j) H Q = (((-(2 ^ 64) < i ∧ i < 2 ^ 64) ∨ (-(2 ^ 64) < j ∧ j < 2 ^ 64)) ∧ Q (.int (i * j)) H) := rfl
theorem q_div : pBin .FloorDiv (.int i) (.int j) H Q = ((0 < j ∧ j < 2 ^ 128) ∧ Q (.int (i / j)) H) := rfl
theorem q_mod : pBin .Mod (.int i) (.int j) H Q = ((0 < j ∧ j < 2 ^ 128) ∧ Q (.int (i % j)) H) := rfl
theorem q_pow : pBin .Pow (.int i) (.int j) H Q = ((0 ≤ j ∧ j ≤ 1000000 ∧ i.natAbs < 2 ^ 64) ∧ Q (.int (i ^ j.toNat)) H) := rfl
theorem q_list : pBin .Add (.ref m) (.ref n) H Q = oK (listAt H m) fun xs => oK (listAt H n) fun ys => xs.length + ys.length ≤ 1000000 ∧ Q (.ref H.length) (H ++ [.list (xs ++ ys)]) := rfl
theorem q_eq : pCmp .Eq (.int i) (.int j) H Q = Q (.bool (decide (i = j))) H := rfl
theorem q_ne : pCmp .NotEq (.int i) (.int j) H Q = Q (.bool (decide (i ≠ j))) H := by
  show Q (.bool (!decide (i = j))) H = _
  rw [decide_not]
theorem q_is : pCmp .Is a .none H Q = (True ∧ Q (.bool (isNoneV a)) H) := by
  show (isNoneV .none = true ∧ _) = _
  rw [show (isNoneV .none = true) = True from eq_true rfl]
theorem q_isnot : pCmp .IsNot a .none H Q = (True ∧ Q (.bool (!isNoneV a)) H) := by
  show (isNoneV .none = true ∧ _) = _
  rw [show (isNoneV .none = true) = True from eq_true rfl]
theorem q_eqs : pCmp .Eq (.str x) (.str y) H Q = Q (.bool (x == y)) H := rfl
theorem q_nes : pCmp .NotEq (.str x) (.str y) H Q = Q (.bool (!(x == y))) H := rfl
theorem q_lt : pCmp .Lt (.int i) (.int j) H Q = Q (.bool (decide (i < j))) H := rfl
theorem q_le : pCmp .LtE (.int i) (.int j) H Q = Q (.bool (decide (i ≤ j))) H := rfl
theorem q_gt : pCmp .Gt (.int i) (.int j) H Q = Q (.bool (decide (j < i))) H := rfl
theorem q_ge : pCmp .GtE (.int i) (.int j) H Q = Q (.bool (decide (j ≤ i))) H := rfl
theorem q_in : pCmp .In a (.tup l) H Q = oK (memV a l) fun c => Q (.bool c) H := rfl
theorem q_inl : pCmp .In a (.ref n) H Q = oK (listAt H n) fun l => oK (memV a l) fun c => Q (.bool c) H := rfl
theorem q_nin : pCmp .NotIn a (.tup l) H Q = oK (memV a l) fun c => Q (.bool (!c)) H := rfl
theorem q_stup : pSub (.tup l) (.int i) H Q = oK (idxP l i) fun v => Q v H := rfl
theorem q_sref : pSub (.ref n) (.int i) H Q = oK (listAt H n) fun l => oK (idx l i) fun v => Q v H := rfl
theorem q_sscr : pSub (.scr ns) (.int i) H Q = oK (idxP ns i) fun v => Q (.int v) H := rfl
theorem q_fn {vs : List V} : pCall Φ (.fn x) vs H Q X = Φ x vs H Q X := rfl
theorem q_lentup : pCall Φ (.bi .len) [.tup l] H Q X = Q (.int (l.length : Int)) H := rfl
theorem q_lenref : pCall Φ (.bi .len) [.ref n] H Q X = oK (listAt H n) fun l => Q (.int (l.length : Int)) H := rfl
theorem q_lenscr : pCall Φ (.bi .len) [.scr ns] H Q X = Q (.int (ns.length : Int)) H := rfl
theorem q_isi {t : Ty} : pCall Φ (.bi .isinstance) [v, .ty t] H Q X = oK (isInstH H v t) fun c => Q (.bool c) H := rfl
theorem q_all : pCall Φ (.bi .all) [.ref n] H Q X = oK (listAt H n) fun l => oK (allBools l) fun bs => Q (.bool (bs.all id)) H := rfl
theorem q_max : pCall Φ (.bi .max) [.int i, .int j] H Q X = Q (.int (max i j)) H := rfl
theorem q_maxl : pCall Φ (.bi .max) [.ref n] H Q X = oK (listAt H n) fun l => oK (intsOf l) fun ns => ns ≠ [] ∧ ∀ m, m ∈ ns → (∀ x ∈ ns, x ≤ m) → Q (.int m) H := rfl
theorem q_repr : pCall Φ (.bi .repr) [v] H Q X = oK (toPyT H v) fun d => (d.showable = true ∧ d.depth ≤ 60 ∧ d.shown.length ≤ 16000000) ∧ Q (.opq d.shown) H := rfl
theorem q_eqo : pCmp .Eq (.opq x) (.opq y) H Q = Q (.bool (x == y)) H := rfl
theorem q_any : pCall Φ (.bi .any) [.ref n] H Q X = oK (listAt H n) fun l => oK (allBools l) fun bs => Q (.bool (bs.any id)) H := rfl
theorem q_clear : pMeth (.ref n) .clear [] H Q = oK (listAt H n) fun l => Q .none (H.set n (.list [])) := rfl
theorem q_reverse : pMeth (.ref n) .reverse [] H Q = oK (listAt H n) fun l => Q .none (H.set n (.list l.reverse)) := rfl
theorem q_min : pCall Φ (.bi .min) [.int i, .int j] H Q X = Q (.int (min i j)) H := rfl
theorem q_listc : pCall Φ (.ty .list) [.ref n] H Q X = oK (listAt H n) fun l => Q (.ref H.length) (H ++ [.list l]) := rfl
theorem q_sdict : pSub (.ref n) (.str x) H Q = oK (dictAt H n) fun es => oK (es.lookup x) fun v => Q v H := rfl
theorem q_setd {QH : Hp → Prop} : pSet (.ref n) (.str x) v H QH = oK (dictAt H n) fun es => es.length ≤ 100000 ∧ QH (H.set n (.dict ((x, v) :: es))) := rfl
theorem q_count : pMeth (.ref n) .count [v] H Q = oK (listAt H n) fun l => oK (strsOf l) fun ys => oK (strV v) fun y => Q (.int ((ys.count y : Nat) : Int)) H := rfl
theorem q_attr : pAttr (.ref n) x H Q = oK (nsAt H n) fun p => oK (p.2.lookup x) fun v => Q v H := rfl
theorem q_seta {QH : Hp → Prop} : pSetA (.ref n) x v H QH = oK (nsAt H n) fun p => p.2.length ≤ 100000 ∧ QH (H.set p.1 (.ns ((x, v) :: p.2))) := rfl
theorem q_revl : pRev (.ref n) H Q = oK (listAt H n) fun xs => Q (.ref H.length) (H ++ [.list xs.reverse]) := rfl
theorem u_range2 {R : List V → (Hp → Prop) → Prop} : pSrc .range2 (.tup [.int i, .int j]) H R = ((-(2 ^ 62) ≤ i ∧ i < 2 ^ 62 ∧ -(2 ^ 62) ≤ j ∧ j < 2 ^ 62 ∧ j - i ≤ 1000000) ∧ R (rangeL i j) (fun _ => True)) := rfl
theorem rV_ref : refV (.ref n) = some n := rfl
theorem X_attr {L : Lc} {o : IE} : (wp2 Φ (.attr o x)).E L H Q X = (wp2 Φ o).E L H (fun vo H1 => pAttr vo x H1 Q) X := rfl
theorem X_rev {L : Lc} {o : IE} : (wp2 Φ (.rev o)).E L H Q X = (wp2 Φ o).E L H (fun vo H1 => pRev vo H1 Q) X := rfl
theorem X_mcall {L : Lc} {o : IE} {args : List IE} : (wp2 Φ (.mcall o x args)).E L H Q X = (wp2 Φ o).E L H (fun vo H1 => oK (refV vo) fun i => oK (nsAt H1 i) fun _ => wpEs Φ args L H1 (fun vs H2 => Φ (Str.ofString "Book." ++ x) (.ref i :: vs) H2 Q X) X) X := rfl
theorem X_new {L : Lc} : (wp2 Φ .new).E L H Q X = Φ "Book.__init__" [.ref (H.length + 1)] (H ++ [.ns []] ++ [.inst H.length]) (fun v H1 => isNoneV v = true ∧ Q (.ref (H.length + 1)) H1) X := rfl
theorem X_dct {L : Lc} : (wp2 Φ .dct).E L H Q X = Q (.ref H.length) (H ++ [.dict []]) := rfl
theorem Z_seta {L : Lc} {QF : QS} {XF : XS} {o e : IE} : wpS Φ (.setAttr o x e) L H QF XF = (wp2 Φ e).E L H (fun vv H1 => (wp2 Φ o).E L H1 (fun vo H2 => pSetA vo x vv H2 (QF .next L)) (fun x => XF x L)) (fun x => XF x L) := rfl
theorem Y_attr {L : Lc} {o : IE} {P : Bool → Hp → Prop} : (wp2 Φ (.attr o x)).T L H P X = (wp2 Φ (.attr o x)).E L H (fun v H1 => tX v fun c => P c H1) X := rfl
theorem Y_mcall {L : Lc} {o : IE} {args : List IE} {P : Bool → Hp → Prop} : (wp2 Φ (.mcall o x args)).T L H P X = (wp2 Φ (.mcall o x args)).E L H (fun v H1 => tX v fun c => P c H1) X := rfl
theorem q_int : pCall Φ (.ty .int) [.bool b] H Q X = Q (.int (if b then 1 else 0)) H := rfl
theorem q_tuple : pCall Φ (.ty .tuple) [.ref n] H Q X = oK (listAt H n) fun l => Q (.tup l) H := rfl
theorem q_append : pMeth (.ref n) .append [v] H Q = oK (listAt H n) fun l => l.length ≤ 1000000 ∧ Q .none (H.set n (.list (l ++ [v]))) := rfl
theorem q_set {QH : Hp → Prop} : pSet (.ref n) (.int i) v H QH = oK (listAt H n) fun l => (0 ≤ i ∧ i < (l.length : Int)) ∧ QH (H.set n (.list (l.set i.toNat v))) := rfl
theorem Z_set {L : Lc} {QF : QS} {XF : XS} {o k e : IE} : wpS Φ (.setItem o k e) L H QF XF = (wp2 Φ e).E L H (fun vv H1 => (wp2 Φ o).E L H1 (fun vo H2 => (wp2 Φ k).E L H2 (fun vk H3 => pSet vo vk vv H3 (QF .next L)) (fun x => XF x L)) (fun x => XF x L)) (fun x => XF x L) := rfl
theorem q_ninl : pCmp .NotIn a (.ref n) H Q = oK (listAt H n) fun l => oK (memV a l) fun c => Q (.bool (!c)) H := rfl
theorem u_tup {R : List V → (Hp → Prop) → Prop} : pSrc .val (.tup l) H R = R l (fun _ => True) := rfl
theorem u_ref {R : List V → (Hp → Prop) → Prop} : pSrc .val (.ref n) H R = oK (listAt H n) fun l => R l (fun H' => listAt H' n = some l) := rfl
theorem q_slice {lo hi : V} : pSlice (.ref n) lo hi H Q = oK (listAt H n) fun xs => oK (cutL lo hi xs) fun ys => Q (.ref H.length) (H ++ [.list ys]) := rfl
theorem X_slice {L : Lc} {o : IE} {lo hi : Option IE} : (wp2 Φ (.slice o lo hi)).E L H Q X = (wp2 Φ o).E L H (fun vo H1 => wpO Φ lo L H1 (fun vl H2 => wpO Φ hi L H2 (fun vh H3 => pSlice vo vl vh H3 Q) X) X) X := rfl
theorem XO_none {L : Lc} : wpO Φ none L H Q X = Q .none H := rfl
theorem XO_some {L : Lc} {e : IE} : wpO Φ (some e) L H Q X = (wp2 Φ e).E L H Q X := rfl
theorem u_rev {R : List V → (Hp → Prop) → Prop} : pSrc .rev (.ref n) H R = oK (listAt H n) fun l => R l.reverse (fun H' => listAt H' n = some l) := rfl
theorem u_range {R : List V → (Hp → Prop) → Prop} : pSrc .range (.int i) H R = ((-(2 ^ 62) ≤ i ∧ i ≤ 1000000) ∧ R (rangeL 0 i) (fun _ => True)) := rfl
end
theorem fn_of {Φ : Orc} {f : Fn} {vs : List V} {H : Hp} {Q : V → Hp → Prop} {X : XL} (h1 : vs.length = f.params) (h : wpSs Φ f.body (initL f vs) H (fun fl _ H1 => Q (retV fl) H1) (fun x _ H1 => X x H1)) : wpFn Φ f vs H Q X := ⟨h1, h⟩
theorem retV_ret {v : V} : retV (.ret v) = v := rfl
theorem retV_next : retV .next = .none := rfl
theorem idx_0 {α : Type} {l : List α} : idx l 0 = l[0]? := rfl
theorem idx_1 {α : Type} {l : List α} : idx l 1 = l[1]? := rfl
theorem idx_2 {α : Type} {l : List α} : idx l 2 = l[2]? := rfl
theorem idx_3 {α : Type} {l : List α} : idx l 3 = l[3]? := rfl
theorem idx_4 {α : Type} {l : List α} : idx l 4 = l[4]? := rfl
theorem idx_5 {α : Type} {l : List α} : idx l 5 = l[5]? := rfl
theorem iP_0 {α : Type} {l : List α} : idxP l 0 = l[0]? := rfl
theorem iP_1 {α : Type} {l : List α} : idxP l 1 = l[1]? := rfl
theorem iP_2 {α : Type} {l : List α} : idxP l 2 = l[2]? := rfl
theorem iP_3 {α : Type} {l : List α} : idxP l 3 = l[3]? := rfl
noncomputable def ext (n : Str) (C : List V → Hp → (V → Hp → Prop) → XL → Prop) (Φ : Orc) : Orc := fun x vs H Q X => if x == n then C vs H Q X else Φ x vs H Q X
noncomputable def noΦ : Orc := fun _ _ _ _ _ => False
section
variable {H : Hp} {Q : V → Hp → Prop} {Φ : Orc} {X : XL} {x : Str} {v : V} {R : List V → (Hp → Prop) → Prop}
theorem q_lenstr : pCall Φ (.bi .len) [.str x] H Q X = Q (.int (x.length : Int)) H := rfl
theorem q_sstr {i : Int} : pSub (.str x) (.int i) H Q = oK (idxP x.cps.toList i) fun c => Q (.str ⟨#[c]⟩) H := rfl
theorem q_ins : pCmp .In v (.str x) H Q = oK (strV v) fun y => Q (.bool (Txt.contains x y)) H := rfl
theorem q_nins : pCmp .NotIn v (.str x) H Q = oK (strV v) fun y => Q (.bool (!Txt.contains x y)) H := rfl
theorem q_adds {y : Str} : pBin .Add (.str x) (.str y) H Q = (x.length + y.length ≤ 1000000 ∧ Q (.str (x ++ y)) H) := rfl
theorem sV_str : strV (.str x) = some x := rfl
theorem u_str : pSrc .val (.str x) H R = (x.cps.all (· < 128) = true ∧ R (x.cps.toList.map fun c => V.str ⟨#[c]⟩) (fun _ => True)) := rfl
end
theorem nsAt_some {H : Hp} {i : Nat} {p : Nat × List (Str × V)} (h : nsAt H i = some p) : H[i]? = some (.inst p.1) ∧ H[p.1]? = some (.ns p.2) := by
  refine e1_2 (Option.bind_eq_some_iff.mp h) fun j h1 h => ?_
  refine e1_2 (Option.map_eq_some_iff.mp h) fun fs h2 e_3 => ?_
  obtain rfl := e_3
  refine e1_2 (Option.bind_eq_some_iff.mp h1) fun o e1 h1 => ?_
  refine e1_2 (Option.bind_eq_some_iff.mp h2) fun o2 e2 h2 => ?_
  have o1 : o = .inst j := by
    cases o with
    | inst _ => exact congrArg O.inst (Option.some.inj h1)
    | _ => exact no_some h1
  have o2' : o2 = .ns fs := by
    cases o2 with
    | ns _ => exact congrArg O.ns (Option.some.inj h2)
    | _ => exact no_some h2
  exact ⟨by rw [e1, o1], by rw [e2, o2']⟩
theorem listAt_pre {H H' : Hp} {i : Nat} {l : List V} (p : H <+: H') (h : listAt H i = some l) : listAt H' i = some l := by
  obtain ⟨Δ, rfl⟩ := p
  refine e1_2 (Option.bind_eq_some_iff.mp h) fun o e h => ?_
  unfold listAt
  rw [List.getElem?_append_left (List.getElem?_eq_some_iff.mp e).1, e]
  exact h
theorem listAt_new {H : Hp} {l : List V} : listAt (H ++ [.list l]) H.length = some l := by simp [listAt, lstO]
theorem set_new {H : Hp} {l m : List V} : (H ++ [O.list l]).set H.length (.list m) = H ++ [.list m] := by simp
theorem pre_new {H : Hp} {o : O} : H <+: H ++ [o] := List.prefix_append _ _
theorem idx_nat {α : Type} {l : List α} {k : Nat} : idx l (k : Int) = l[k]? := by simp [idx]
end Mine
namespace Mine
open PySem
theorem sw_once_once : ((Str.ofString "once") == (Str.ofString "once")) = true := by decide
theorem sw_once_every : ((Str.ofString "once") == (Str.ofString "every")) = false := by decide
theorem sw_once_week : ((Str.ofString "once") == (Str.ofString "week")) = false := by decide
theorem sw_once_month : ((Str.ofString "once") == (Str.ofString "month")) = false := by decide
theorem sw_once_from : ((Str.ofString "once") == (Str.ofString "from")) = false := by decide
theorem sw_once_until : ((Str.ofString "once") == (Str.ofString "until")) = false := by decide
theorem sw_once_also : ((Str.ofString "once") == (Str.ofString "also")) = false := by decide
theorem sw_once_but : ((Str.ofString "once") == (Str.ofString "but")) = false := by decide
theorem sw_every_once : ((Str.ofString "every") == (Str.ofString "once")) = false := by decide
theorem sw_every_every : ((Str.ofString "every") == (Str.ofString "every")) = true := by decide
theorem sw_every_week : ((Str.ofString "every") == (Str.ofString "week")) = false := by decide
theorem sw_every_month : ((Str.ofString "every") == (Str.ofString "month")) = false := by decide
theorem sw_every_from : ((Str.ofString "every") == (Str.ofString "from")) = false := by decide
theorem sw_every_until : ((Str.ofString "every") == (Str.ofString "until")) = false := by decide
theorem sw_every_also : ((Str.ofString "every") == (Str.ofString "also")) = false := by decide
theorem sw_every_but : ((Str.ofString "every") == (Str.ofString "but")) = false := by decide
theorem sw_week_once : ((Str.ofString "week") == (Str.ofString "once")) = false := by decide
theorem sw_week_every : ((Str.ofString "week") == (Str.ofString "every")) = false := by decide
theorem sw_week_week : ((Str.ofString "week") == (Str.ofString "week")) = true := by decide
theorem sw_week_month : ((Str.ofString "week") == (Str.ofString "month")) = false := by decide
theorem sw_week_from : ((Str.ofString "week") == (Str.ofString "from")) = false := by decide
theorem sw_week_until : ((Str.ofString "week") == (Str.ofString "until")) = false := by decide
theorem sw_week_also : ((Str.ofString "week") == (Str.ofString "also")) = false := by decide
theorem sw_week_but : ((Str.ofString "week") == (Str.ofString "but")) = false := by decide
theorem sw_month_once : ((Str.ofString "month") == (Str.ofString "once")) = false := by decide
theorem sw_month_every : ((Str.ofString "month") == (Str.ofString "every")) = false := by decide
theorem sw_month_week : ((Str.ofString "month") == (Str.ofString "week")) = false := by decide
theorem sw_month_month : ((Str.ofString "month") == (Str.ofString "month")) = true := by decide
theorem sw_month_from : ((Str.ofString "month") == (Str.ofString "from")) = false := by decide
theorem sw_month_until : ((Str.ofString "month") == (Str.ofString "until")) = false := by decide
theorem sw_month_also : ((Str.ofString "month") == (Str.ofString "also")) = false := by decide
theorem sw_month_but : ((Str.ofString "month") == (Str.ofString "but")) = false := by decide
theorem sw_from_once : ((Str.ofString "from") == (Str.ofString "once")) = false := by decide
theorem sw_from_every : ((Str.ofString "from") == (Str.ofString "every")) = false := by decide
theorem sw_from_week : ((Str.ofString "from") == (Str.ofString "week")) = false := by decide
theorem sw_from_month : ((Str.ofString "from") == (Str.ofString "month")) = false := by decide
theorem sw_from_from : ((Str.ofString "from") == (Str.ofString "from")) = true := by decide
theorem sw_from_until : ((Str.ofString "from") == (Str.ofString "until")) = false := by decide
theorem sw_from_also : ((Str.ofString "from") == (Str.ofString "also")) = false := by decide
theorem sw_from_but : ((Str.ofString "from") == (Str.ofString "but")) = false := by decide
theorem sw_until_once : ((Str.ofString "until") == (Str.ofString "once")) = false := by decide
theorem sw_until_every : ((Str.ofString "until") == (Str.ofString "every")) = false := by decide
theorem sw_until_week : ((Str.ofString "until") == (Str.ofString "week")) = false := by decide
theorem sw_until_month : ((Str.ofString "until") == (Str.ofString "month")) = false := by decide
theorem sw_until_from : ((Str.ofString "until") == (Str.ofString "from")) = false := by decide
theorem sw_until_until : ((Str.ofString "until") == (Str.ofString "until")) = true := by decide
theorem sw_until_also : ((Str.ofString "until") == (Str.ofString "also")) = false := by decide
theorem sw_until_but : ((Str.ofString "until") == (Str.ofString "but")) = false := by decide
theorem sw_also_once : ((Str.ofString "also") == (Str.ofString "once")) = false := by decide
theorem sw_also_every : ((Str.ofString "also") == (Str.ofString "every")) = false := by decide
theorem sw_also_week : ((Str.ofString "also") == (Str.ofString "week")) = false := by decide
theorem sw_also_month : ((Str.ofString "also") == (Str.ofString "month")) = false := by decide
theorem sw_also_from : ((Str.ofString "also") == (Str.ofString "from")) = false := by decide
theorem sw_also_until : ((Str.ofString "also") == (Str.ofString "until")) = false := by decide
theorem sw_also_also : ((Str.ofString "also") == (Str.ofString "also")) = true := by decide
theorem sw_also_but : ((Str.ofString "also") == (Str.ofString "but")) = false := by decide
theorem sw_but_once : ((Str.ofString "but") == (Str.ofString "once")) = false := by decide
theorem sw_but_every : ((Str.ofString "but") == (Str.ofString "every")) = false := by decide
theorem sw_but_week : ((Str.ofString "but") == (Str.ofString "week")) = false := by decide
theorem sw_but_month : ((Str.ofString "but") == (Str.ofString "month")) = false := by decide
theorem sw_but_from : ((Str.ofString "but") == (Str.ofString "from")) = false := by decide
theorem sw_but_until : ((Str.ofString "but") == (Str.ofString "until")) = false := by decide
theorem sw_but_also : ((Str.ofString "but") == (Str.ofString "also")) = false := by decide
theorem sw_but_but : ((Str.ofString "but") == (Str.ofString "but")) = true := by decide
end Mine
set_option compiler.extract_closed false in
local macro_rules
  | `(tactic| simp_arith only [$a,*]) => do
    let p ← ("Mine.X_lit Mine.X_loc Mine.X_bin Mine.negX_int Mine.X_neg Mine.X_not Mine.Y_not Mine.X_and Mine.Y_and Mine.X_or Mine.Y_or Mine.X_cmp Mine.X_cmp2 Mine.X_ite Mine.Y_ite Mine.X_tup Mine.X_lst Mine.X_call Mine.X_meth Mine.X_sub Mine.X_comp Mine.Y_lit Mine.Y_loc Mine.Y_cmp Mine.Y_cmp2 Mine.Y_call Mine.Y_sub Mine.XEs_nil Mine.XEs_cons Mine.Z_expr Mine.Z_assign Mine.Z_ret Mine.Z_ite Mine.Z_for Mine.Zs_nil Mine.sqX_next Mine.sqX_ret Mine.Zs_cons Mine.wkX_next Mine.wkX_ret Mine.fkX_next Mine.fkX_ret Mine.oKK_some Mine.oK_some Mine.tX_bool Mine.iX_t Mine.iX_f Mine.iX_d Mine.q_add Mine.q_sub Mine.q_mul Mine.q_div Mine.q_mod Mine.q_pow Mine.q_list Mine.q_eq Mine.q_ne Mine.q_eqs Mine.q_nes Mine.q_lt Mine.q_le Mine.q_gt Mine.q_ge Mine.q_in Mine.q_inl Mine.q_nin Mine.q_stup Mine.q_sref Mine.q_sscr Mine.q_fn Mine.q_lentup Mine.q_lenref Mine.q_lenscr Mine.q_isi Mine.q_all Mine.q_int Mine.q_tuple Mine.q_append Mine.q_set Mine.q_repr Mine.q_eqo Mine.Z_set Mine.q_ninl Mine.u_tup Mine.u_ref Mine.u_range Mine.q_slice Mine.X_slice Mine.XO_none Mine.XO_some Mine.u_rev Mine.q_is Mine.q_isnot Mine.q_any Mine.q_max Mine.q_maxl Mine.sqX_cont Mine.Z_cont Mine.fkX_cont Mine.q_clear Mine.q_reverse Mine.X_comp2 Mine.q_min Mine.q_listc Mine.q_sdict Mine.q_setd Mine.q_count Mine.q_attr Mine.q_seta Mine.q_revl Mine.u_range2 Mine.rV_ref Mine.X_attr Mine.X_rev Mine.X_mcall Mine.X_new Mine.X_dct Mine.Z_seta Mine.Y_attr Mine.Y_mcall Mine.retV_ret Mine.retV_next".splitOn " ").toArray.mapM fun n => `(Lean.Parser.Tactic.simpLemma| ↓ $(Lean.mkIdent n.toName):term)
    let q ← ("List.getElem?_cons_zero List.getElem?_cons_succ List.set_cons_zero List.set_cons_succ Bool.not_true Bool.not_false Mine.idx_0 Mine.idx_1 Mine.idx_2 Mine.idx_3 Mine.idx_4 Mine.idx_5 Mine.iP_0 Mine.iP_1 Mine.iP_2 Mine.iP_3 Int.reduceAdd Int.reduceSub Int.reduceMul Int.reduceNeg Int.reducePow Int.reduceLT Int.reduceLE Int.reduceEq Int.reduceNe Int.reduceToNat Int.reduceAbs Nat.reduceAdd Nat.reduceLT Nat.reduceLeDiff Nat.reducePow Nat.reduceLT List.length_cons List.length_nil true_implies false_implies not_true_eq_false not_false_eq_true and_true true_and and_self or_true true_or decide_true decide_false exists_eq_left' Option.some.injEq".splitOn " ").toArray.mapM fun n => `(Lean.Parser.Tactic.simpLemma| $(Lean.mkIdent n.toName):term)
    `(tactic| simp only [$[$p],*, $[$q],*, $a,*])
set_option compiler.extract_closed false in
local macro_rules
  | `(tactic| simp_arith! only [$a,*]) => do
    let p ← ("Mine.X_lit Mine.X_loc Mine.X_bin Mine.negX_int Mine.X_neg Mine.X_not Mine.Y_not Mine.X_and Mine.Y_and Mine.X_or Mine.Y_or Mine.X_cmp Mine.X_cmp2 Mine.X_ite Mine.Y_ite Mine.X_tup Mine.X_lst Mine.X_call Mine.X_meth Mine.X_sub Mine.X_comp Mine.Y_lit Mine.Y_loc Mine.Y_cmp Mine.Y_cmp2 Mine.Y_call Mine.Y_sub Mine.XEs_nil Mine.XEs_cons Mine.Z_expr Mine.Z_assign Mine.Z_ret Mine.Z_ite Mine.Z_for Mine.Zs_nil Mine.sqX_next Mine.sqX_ret Mine.Zs_cons Mine.wkX_next Mine.wkX_ret Mine.fkX_next Mine.fkX_ret Mine.oKK_some Mine.oK_some Mine.tX_bool Mine.iX_t Mine.iX_f Mine.iX_d Mine.q_add Mine.q_sub Mine.q_mul Mine.q_div Mine.q_mod Mine.q_pow Mine.q_list Mine.q_eq Mine.q_ne Mine.q_eqs Mine.q_nes Mine.q_lt Mine.q_le Mine.q_gt Mine.q_ge Mine.q_in Mine.q_inl Mine.q_nin Mine.q_stup Mine.q_sref Mine.q_sscr Mine.q_fn Mine.q_lentup Mine.q_lenref Mine.q_lenscr Mine.q_isi Mine.q_all Mine.q_int Mine.q_tuple Mine.q_append Mine.q_set Mine.q_repr Mine.q_eqo Mine.Z_set Mine.q_ninl Mine.u_tup Mine.u_ref Mine.u_range Mine.q_slice Mine.X_slice Mine.XO_none Mine.XO_some Mine.u_rev Mine.q_is Mine.q_isnot Mine.q_any Mine.q_max Mine.q_maxl Mine.sqX_cont Mine.Z_cont Mine.fkX_cont Mine.q_clear Mine.q_reverse Mine.X_comp2 Mine.q_min Mine.q_listc Mine.q_sdict Mine.q_setd Mine.q_count Mine.q_attr Mine.q_seta Mine.q_revl Mine.u_range2 Mine.rV_ref Mine.X_attr Mine.X_rev Mine.X_mcall Mine.X_new Mine.X_dct Mine.Z_seta Mine.Y_attr Mine.Y_mcall Mine.retV_ret Mine.retV_next".splitOn " ").toArray.mapM fun n => `(Lean.Parser.Tactic.simpLemma| ↓ $(Lean.mkIdent n.toName):term)
    let q ← ("List.getElem?_cons_zero List.getElem?_cons_succ List.set_cons_zero List.set_cons_succ Bool.not_true Bool.not_false Mine.idx_0 Mine.idx_1 Mine.idx_2 Mine.idx_3 Mine.idx_4 Mine.idx_5 Mine.iP_0 Mine.iP_1 Mine.iP_2 Mine.iP_3 Int.reduceAdd Int.reduceSub Int.reduceMul Int.reduceNeg Int.reducePow Int.reduceLT Int.reduceLE Int.reduceEq Int.reduceNe Int.reduceToNat Int.reduceAbs Nat.reduceAdd Nat.reduceLT Nat.reduceLeDiff Nat.reducePow Nat.reduceLT List.length_cons List.length_nil true_implies false_implies not_true_eq_false not_false_eq_true and_true true_and and_self or_true true_or decide_true decide_false exists_eq_left' Option.some.injEq Mine.sw_once_once Mine.sw_once_every Mine.sw_once_week Mine.sw_once_month Mine.sw_once_from Mine.sw_once_until Mine.sw_once_also Mine.sw_once_but Mine.sw_every_once Mine.sw_every_every Mine.sw_every_week Mine.sw_every_month Mine.sw_every_from Mine.sw_every_until Mine.sw_every_also Mine.sw_every_but Mine.sw_week_once Mine.sw_week_every Mine.sw_week_week Mine.sw_week_month Mine.sw_week_from Mine.sw_week_until Mine.sw_week_also Mine.sw_week_but Mine.sw_month_once Mine.sw_month_every Mine.sw_month_week Mine.sw_month_month Mine.sw_month_from Mine.sw_month_until Mine.sw_month_also Mine.sw_month_but Mine.sw_from_once Mine.sw_from_every Mine.sw_from_week Mine.sw_from_month Mine.sw_from_from Mine.sw_from_until Mine.sw_from_also Mine.sw_from_but Mine.sw_until_once Mine.sw_until_every Mine.sw_until_week Mine.sw_until_month Mine.sw_until_from Mine.sw_until_until Mine.sw_until_also Mine.sw_until_but Mine.sw_also_once Mine.sw_also_every Mine.sw_also_week Mine.sw_also_month Mine.sw_also_from Mine.sw_also_until Mine.sw_also_also Mine.sw_also_but Mine.sw_but_once Mine.sw_but_every Mine.sw_but_week Mine.sw_but_month Mine.sw_but_from Mine.sw_but_until Mine.sw_but_also Mine.sw_but_but".splitOn " ").toArray.mapM fun n => `(Lean.Parser.Tactic.simpLemma| $(Lean.mkIdent n.toName):term)
    `(tactic| simp only [$[$p],*, $[$q],*, $a,*])
namespace Mine
open PySem
structure Wd where
  prog : Program
  w : World
  hB : Heap
  mg : Str → Option Value
  mb : Str → Option Value
  bk : Addr
  mt : Str → Option Value
noncomputable def strip (x : Str) : Option Str := if x.cps.toList.take 5 = (Str.ofString "Book.").cps.toList then some ⟨(x.cps.toList.drop 5).toArray⟩ else none
noncomputable def refA : Option Value → Option Addr
  | some v => (match v with
    | .ref a => some a
    | _ => none)
  | none => none
noncomputable def Wd.fa (D : Wd) (x : Str) : Option Addr := match strip x with
  | some m => refA (D.mt m)
  | none => refA (D.mg x)
theorem fa_fn {D : Wd} {x : Str} {a : Addr} (h : strip x = none) (e : D.mg x = some (.ref a)) : D.fa x = some a := by unfold Wd.fa; rw [h]; show refA (D.mg x) = _; rw [e]; rfl
theorem fa_mt {D : Wd} {m : Str} {a : Addr} (e : D.mt m = some (.ref a)) : D.fa (Str.ofString "Book." ++ m) = some a := by
  have hl : (Str.ofString "Book." ++ m).cps.toList = (Str.ofString "Book.").cps.toList ++ m.cps.toList := Array.toList_append
  have hn : (Str.ofString "Book.").cps.toList.length = 5 := by decide +kernel
  have h : strip (Str.ofString "Book." ++ m) = some m := by
    unfold strip
    rw [hl, List.take_left' hn, if_pos rfl, List.drop_left' hn]
  unfold Wd.fa
  rw [h]
  show refA (D.mt m) = some a
  rw [e]; rfl
noncomputable def TupAt (h : Heap) (a : Addr) (vs : List Value) : Prop := ∃ n, h.get? a = some { cls := .type "tuple", data := .seq vs.toArray n } ∧ vs.length ≤ 2000000
noncomputable def StrFine (x : Str) : Prop := x.length ≤ 2000000 ∧ PyData.strOk x = true
mutual
noncomputable def Rep (mg : Wd) (γ : List Addr) (h : Heap) (v : Value) : V → Prop
  | .none => v = .none
  | .bool b => v = .bool b
  | .int i => ∃ t, v = .int i t
  | .str s => ∃ t, v = .str s t ∧ StrFine s
  | .tup l => ∃ a vs, v = .ref a ∧ TupAt h a vs ∧ Reps mg γ h vs l
  | .ref i => ∃ a, γ[i]? = some a ∧ v = .ref a
  | .fn x => ∃ a, v = .ref a ∧ mg.fa x = some a
  | .ty n => v = .type n.name
  | .bi n => v = .builtin n.name
  | .scr ns => ∃ (a : Addr) (vs : List Value), v = .ref a ∧ mg.hB.IsList a vs.toArray ∧ vs.length ≤ 2000000 ∧ vs.length = ns.length ∧ ∀ (k : Nat) (i : Int), ns[k]? = some i → ∃ t, vs[k]? = some (.int i t)
  | .bk => v = .ref mg.bk
  | .opq s => ∃ t, v = .str s t
noncomputable def Reps (mg : Wd) (γ : List Addr) (h : Heap) (vs : List Value) : List V → Prop
  | [] => vs = []
  | V :: l => ∃ v r, vs = v :: r ∧ Rep mg γ h v V ∧ Reps mg γ h r l
end
noncomputable def FsRep (mg : Wd) (γ : List Addr) (h : Heap) (fs : List (Str × V)) (m : Str → Option Value) : Prop :=
  (∀ x V, fs.lookup x = some V → ∃ v, m x = some v ∧ Rep mg γ h v V) ∧ ∀ x, fs.lookup x = none → m x = none
noncomputable def ORep (mg : Wd) (γ : List Addr) (h : Heap) (a : Addr) : O → Prop
  | .list xs => ∃ vs n, h.get? a = some { cls := .type "list", data := .seq vs.toArray n } ∧ Reps mg γ h vs xs ∧ vs.length ≤ 2000000
  | .inst j => ∃ o dx, h.get? a = some o ∧ γ[j]? = some dx ∧ o.cls = .ref mg.bk ∧ (∀ c, o.data ≠ .cls c) ∧ o.dict = some dx ∧ dx ≠ a
  | .ns fs => ∃ m, h.Ns1 a m ∧ FsRep mg γ h fs m ∧ ∀ x, fldOk x = false → m x = none
  | .dict es => ∃ kvs, h.DictOf (strKind mg.prog mg.w) a kvs ∧ FsRep mg γ h es (valueAt kvs) ∧ kvs.length ≤ es.length
structure HRel (D : Wd) (γ : List Addr) (H : Hp) (h : Heap) : Prop where
  len : γ.length = H.length
  nodup : γ.Nodup
  objs : ∀ (i : Nat) (a : Addr) (o : O), γ[i]? = some a → H[i]? = some o → ORep D γ h a o
  fresh : ∀ a ∈ γ, D.hB.get? a = none
  base : ∀ b o, D.hB.get? b = some o → h.get? b = some o
structure Stp (wr γ γ' : List Addr) (s s' : Shared) : Prop where
  same : ∃ h' tk, s' = { s with heap := h', toks := tk }
  keep : ∀ b o, b ∉ γ → b ∉ wr → s.heap.get? b = some o → s'.heap.get? b = some o
  ext : ∃ δ, γ' = γ ++ δ ∧ ∀ a ∈ δ, s.heap.get? a = none
theorem ORep.there {D : Wd} {γ : List Addr} {h : Heap} {a : Addr} : ∀ {o : O}, ORep D γ h a o → (∃ ob, h.get? a = some ob) ∧ ∀ ws, ¬ TupAt h a ws
  | .list _, ⟨vs, n, e, _⟩ => ⟨⟨_, e⟩, fun ws ⟨m, e', _⟩ => by
    rw [e] at e'
    exact absurd (congrArg Obj.cls (Option.some.inj e')) (show ¬ Value.type "list" = Value.type "tuple" by decide)⟩
  | .inst _, ⟨o, dx, e, _, c, _⟩ => ⟨⟨_, e⟩, fun ws ⟨m, e', _⟩ => by
    rw [e] at e'
    rw [Option.some.inj e'] at c; cases c⟩
  | .ns _, ⟨m, ⟨o, es, ep, e, d, _⟩, _⟩ => ⟨⟨_, e⟩, fun ws ⟨m, e', _⟩ => by
    rw [e] at e'
    rw [Option.some.inj e'] at d; cases d⟩
  | .dict _, ⟨kvs, ⟨o, es, ep, e, _, d, _⟩, _⟩ => ⟨⟨_, e⟩, fun ws ⟨m, e', _⟩ => by
    rw [e] at e'
    rw [Option.some.inj e'] at d; cases d⟩
theorem HRel.obj {D : Wd} {γ : List Addr} {H : Hp} {h : Heap} (R : HRel D γ H h) {i : Nat} {a : Addr} (e : γ[i]? = some a) : ∃ o, H[i]? = some o ∧ ORep D γ h a o := by
  have hi : i < H.length := R.len ▸ (List.getElem?_eq_some_iff.mp e).1
  exact ⟨_, List.getElem?_eq_getElem hi, R.objs i a _ e (List.getElem?_eq_getElem hi)⟩
theorem HRel.alive {D : Wd} {γ : List Addr} {H : Hp} {h : Heap} (R : HRel D γ H h) {a : Addr} (ha : a ∈ γ) : (∃ o, h.get? a = some o) ∧ ∀ ws, ¬ TupAt h a ws := by
  obtain ⟨i, hi, e⟩ := List.getElem_of_mem ha
  obtain ⟨o, _, r⟩ := R.obj (i := i) (a := a) (by rw [← e]; exact List.getElem?_eq_getElem hi)
  exact r.there
theorem Stp.refl {wr γ : List Addr} {s : Shared} : Stp wr γ γ s s := ⟨⟨s.heap, s.toks, rfl⟩, fun _ _ _ _ e => e, ⟨[], by simp, by simp⟩⟩
theorem Stp.trans {D : Wd} {wr γ γ1 γ2 : List Addr} {s s1 s2 : Shared} {H1 : Hp} (R1 : HRel D γ1 H1 s1.heap) (a : Stp wr γ γ1 s s1) (b : Stp wr γ1 γ2 s1 s2)
    (hw : ∀ x ∈ wr, ∀ o, s.heap.get? x = some o → ∃ o', s1.heap.get? x = some o') : Stp wr γ γ2 s s2 := by
  refine e1_2 (a.ext) fun δ1 e1 f1 => ?_
  refine e1_2 (b.ext) fun δ2 e2 f2 => ?_
  refine ⟨?_, ?_, ⟨δ1 ++ δ2, by rw [e2, e1, List.append_assoc], ?_⟩⟩
  · refine e2_1 (a.same) fun h1 t1 q1 => ?_
    refine e2_1 (b.same) fun h2 t2 q2 => ?_
    exact ⟨h2, t2, by rw [q2, q1]⟩
  · intro x o hx hxw e
    refine b.keep x o (fun hm => ?_) hxw (a.keep x o hx hxw e)
    rw [e1] at hm
    rcases List.mem_append.mp hm with q | q
    · exact hx q
    · rw [f1 x q] at e; exact no_some e
  · intro x hx
    rcases List.mem_append.mp hx with q | q
    · exact f1 x q
    · cases e : s.heap.get? x with
      | none => rfl
      | some o =>
        have hn := f2 x q
        by_cases hg : x ∈ γ
        · obtain ⟨⟨o', e'⟩, _⟩ := R1.alive (a := x) (by rw [e1]; exact List.mem_append_left _ hg)
          rw [hn] at e'; exact no_some e'
        · by_cases hxw : x ∈ wr
          · obtain ⟨o', e'⟩ := hw x hxw o e
            rw [hn] at e'; exact no_some e'
          · have e' := a.keep x o hg hxw e
            rw [hn] at e'; exact no_some e'
theorem Stp.trans0 {D : Wd} {γ γ1 γ2 : List Addr} {s s1 s2 : Shared} {H1 : Hp} (R1 : HRel D γ1 H1 s1.heap) (a : Stp [] γ γ1 s s1) (b : Stp [] γ1 γ2 s1 s2) : Stp [] γ γ2 s s2 :=
  a.trans R1 b (fun _ h => nomatch h)
theorem Stp.weak {wr γ γ' : List Addr} {s s' : Shared} (a : Stp [] γ γ' s s') : Stp wr γ γ' s s' := ⟨a.same, fun b o h1 _ e => a.keep b o h1 (fun h => nomatch h) e, a.ext⟩
theorem getElem?_ext {γ γ' : List Addr} {i : Nat} {a : Addr} (h : ∃ δ, γ' = γ ++ δ) (e : γ[i]? = some a) : γ'[i]? = some a := by
  obtain ⟨δ, rfl⟩ := h
  rw [List.getElem?_append_left]
  · exact e
  · obtain ⟨h1, _⟩ := List.getElem?_eq_some_iff.mp e; exact h1
theorem nodup_inj {l : List Addr} (hn : l.Nodup) {i j : Nat} (hi : i < l.length) (hj : j < l.length) (e : l[i] = l[j]) : i = j := by
  have p := List.pairwise_iff_getElem.mp hn
  rcases Nat.lt_trichotomy i j with q | q | q
  · exact absurd e (p i j hi hj q)
  · exact q
  · exact absurd e.symm (p j i hj hi q)
mutual
theorem Rep.mono {mg : Wd} {γ γ' : List Addr} {h h' : Heap} (hg : ∃ δ, γ' = γ ++ δ) (hk : ∀ a vs, TupAt h a vs → TupAt h' a vs) {v : Value} : ∀ {V : V}, Rep mg γ h v V → Rep mg γ' h' v V
  | .none, x => x
  | .bool _, x => x
  | .int _, x => x
  | .str _, x => x
  | .tup l, x => by
    refine e2_3 x fun a vs e t r => ?_
    exact Exists.intro a ⟨vs, e, hk _ _ t, Reps.mono hg hk r⟩
  | .ref _, x => by
    refine e1_2 x fun a e r => ?_
    exact Exists.intro a ⟨getElem?_ext hg e, r⟩
  | .fn _, x => x
  | .ty _, x => x
  | .bi _, x => x
  | .scr _, x => x
  | .bk, x => x
  | .opq _, x => x
theorem Reps.mono {mg : Wd} {γ γ' : List Addr} {h h' : Heap} (hg : ∃ δ, γ' = γ ++ δ) (hk : ∀ a vs, TupAt h a vs → TupAt h' a vs) {vs : List Value} : ∀ {l : List V}, Reps mg γ h vs l → Reps mg γ' h' vs l
  | [], x => x
  | V :: l, x => by
    refine e2_3 x fun v r e a b => ?_
    exact Exists.intro v ⟨r, e, Rep.mono hg hk a, Reps.mono hg hk b⟩
end
theorem FsRep.mono {mg : Wd} {γ γ' : List Addr} {h h' : Heap} (hg : ∃ δ, γ' = γ ++ δ) (hk : ∀ a vs, TupAt h a vs → TupAt h' a vs) {fs : List (Str × V)} {m : Str → Option Value} (x : FsRep mg γ h fs m) : FsRep mg γ' h' fs m :=
  ⟨fun y V e => let ⟨v, q, r⟩ := x.1 y V e; ⟨v, q, Rep.mono hg hk r⟩, x.2⟩
theorem ORep.mono {mg : Wd} {γ γ' : List Addr} {h h' : Heap} {a : Addr} (hg : ∃ δ, γ' = γ ++ δ) (ht : ∀ a vs, TupAt h a vs → TupAt h' a vs) (hk : ∀ o, h.get? a = some o → h'.get? a = some o) : ∀ {o : O}, ORep mg γ h a o → ORep mg γ' h' a o
  | .list _, ⟨vs, n, e, r, z⟩ => ⟨vs, n, hk _ e, Reps.mono hg ht r, z⟩
  | .inst _, ⟨o, dx, e, j, r⟩ => ⟨o, dx, hk _ e, getElem?_ext hg j, r⟩
  | .ns _, ⟨m, n, r, q⟩ => ⟨m, n.at hk, r.mono hg ht, q⟩
  | .dict _, ⟨kvs, n, r, z⟩ => ⟨kvs, n.at hk, r.mono hg ht, z⟩
theorem Reps.length {mg : Wd} {γ : List Addr} {h : Heap} : ∀ {vs : List Value} {l : List V}, Reps mg γ h vs l → vs.length = l.length
  | vs, [], x => by obtain rfl := x; rfl
  | vs, V :: l, x => by
    refine e2_3 x fun v r e_4 _ b => ?_
    obtain rfl := e_4
    exact congrArg (· + 1) (Reps.length b)
theorem Reps.get {mg : Wd} {γ : List Addr} {h : Heap} : ∀ {vs : List Value} {l : List V} {k : Nat} {V : V}, Reps mg γ h vs l → l[k]? = some V → ∃ v, vs[k]? = some v ∧ Rep mg γ h v V
  | vs, [], _, _, _, e => no_some e
  | vs, V :: l, 0, W, x, e => by
    refine e2_3 x fun v r e_5 a b => ?_
    obtain rfl := e_5
    obtain rfl := Option.some.inj e
    exact ⟨v, rfl, a⟩
  | vs, V :: l, k + 1, W, x, e => by
    refine e2_3 x fun v r e_6 a b => ?_
    obtain rfl := e_6
    exact Reps.get (k := k) b e
theorem Reps.append {mg : Wd} {γ : List Addr} {h : Heap} : ∀ {vs : List Value} {l : List V} {ws : List Value} {m : List V}, Reps mg γ h vs l → Reps mg γ h ws m → Reps mg γ h (vs ++ ws) (l ++ m)
  | vs, [], ws, m, x, y => by obtain rfl := x; exact y
  | vs, V :: l, ws, m, x, y => by
    refine e2_3 x fun v r e_7 a b => ?_
    obtain rfl := e_7
    exact Exists.intro v ⟨r ++ ws, rfl, a, Reps.append b y⟩
theorem Reps.drop {mg : Wd} {γ : List Addr} {h : Heap} : ∀ {vs : List Value} {l : List V} (n : Nat), Reps mg γ h vs l → Reps mg γ h (vs.drop n) (l.drop n)
  | vs, l, 0, x => x
  | vs, [], n + 1, x => by obtain rfl := x; exact rfl
  | vs, V :: l, n + 1, x => by
    refine e2_3 x fun v r e_8 a b => ?_
    obtain rfl := e_8
    exact Reps.drop n b
theorem Reps.take {mg : Wd} {γ : List Addr} {h : Heap} : ∀ {vs : List Value} {l : List V} (n : Nat), Reps mg γ h vs l → Reps mg γ h (vs.take n) (l.take n)
  | vs, l, 0, x => rfl
  | vs, [], n + 1, x => by obtain rfl := x; exact rfl
  | vs, V :: l, n + 1, x => by
    refine e2_3 x fun v r e_9 a b => ?_
    obtain rfl := e_9
    exact Exists.intro v ⟨_, rfl, a, Reps.take n b⟩
theorem Reps.one {mg : Wd} {γ : List Addr} {h : Heap} {v : Value} {V : V} (x : Rep mg γ h v V) : Reps mg γ h [v] [V] := Exists.intro v ⟨[], rfl, x, rfl⟩
theorem Reps.reverse {mg : Wd} {γ : List Addr} {h : Heap} : ∀ {vs : List Value} {l : List V}, Reps mg γ h vs l → Reps mg γ h vs.reverse l.reverse
  | vs, [], x => by obtain rfl := x; exact rfl
  | vs, V :: l, x => by
    refine e2_3 x fun v r e_10 a b => ?_
    obtain rfl := e_10
    rw [List.reverse_cons, List.reverse_cons]
    exact (Reps.reverse b).append (Reps.one a)
theorem Reps.of_get {mg : Wd} {γ : List Addr} {h : Heap} : ∀ {vs : List Value} {l : List V}, vs.length = l.length → (∀ (k : Nat) (v : Value) (V : V), vs[k]? = some v → l[k]? = some V → Rep mg γ h v V) → Reps mg γ h vs l
  | [], [], _, _ => rfl
  | [], _ :: _, e, _ => Nat.noConfusion e
  | _ :: _, [], e, _ => Nat.noConfusion e
  | v :: vs, V :: l, e, f => Exists.intro v ⟨vs, rfl, f 0 v V rfl rfl, Reps.of_get (Nat.succ.inj e) fun k u U h1 h2 => f (k + 1) u U h1 h2⟩
section
variable {D : Wd} {wr γ γ' : List Addr} {H : Hp} {s s' : Shared}
theorem TupAt.stp (R : HRel D γ H s.heap) (t : Stp wr γ γ' s s') (hw : ∀ x ∈ wr, ∀ ws, ¬ TupAt s.heap x ws) {a : Addr} {vs : List Value} (x : TupAt s.heap a vs) : TupAt s'.heap a vs := by
  refine e1_2 (id x) fun n e f => ?_
  exact ⟨n, t.keep a _ (fun hm => (R.alive hm).2 _ x) (fun hm => hw a hm _ x) e, f⟩
theorem Rep.stp (R : HRel D γ H s.heap) (t : Stp wr γ γ' s s') (hw : ∀ x ∈ wr, ∀ ws, ¬ TupAt s.heap x ws) {v : Value} {V : V} (x : Rep D γ s.heap v V) : Rep D γ' s'.heap v V :=
  Rep.mono (let ⟨δ, e, _⟩ := t.ext; ⟨δ, e⟩) (fun _ _ q => q.stp R t hw) x
theorem Reps.stp (R : HRel D γ H s.heap) (t : Stp wr γ γ' s s') (hw : ∀ x ∈ wr, ∀ ws, ¬ TupAt s.heap x ws) {vs : List Value} {l : List V} (x : Reps D γ s.heap vs l) : Reps D γ' s'.heap vs l :=
  Reps.mono (let ⟨δ, e, _⟩ := t.ext; ⟨δ, e⟩) (fun _ _ q => q.stp R t hw) x
theorem Rep.stp0 (R : HRel D γ H s.heap) (t : Stp [] γ γ' s s') {v : Value} {V : V} (x : Rep D γ s.heap v V) : Rep D γ' s'.heap v V := x.stp R t (fun _ h => nomatch h)
theorem Reps.stp0 (R : HRel D γ H s.heap) (t : Stp [] γ γ' s s') {vs : List Value} {l : List V} (x : Reps D γ s.heap vs l) : Reps D γ' s'.heap vs l := x.stp R t (fun _ h => nomatch h)
theorem stp_grow {h' : Heap} {tk : Nat} (hk : ∀ b o, s.heap.get? b = some o → h'.get? b = some o) : Stp wr γ γ s { s with heap := h', toks := tk } :=
  ⟨⟨h', tk, rfl⟩, fun b o _ _ e => hk b o e, ⟨[], by simp, by simp⟩⟩
theorem tupAt_grow {h h' : Heap} (hk : ∀ b o, h.get? b = some o → h'.get? b = some o) {a : Addr} {vs : List Value} (x : TupAt h a vs) : TupAt h' a vs := by
  obtain ⟨n, e, r⟩ := x; exact ⟨n, hk _ _ e, r⟩
theorem HRel.grow {h h' : Heap} (R : HRel D γ H h) (hk : ∀ b o, h.get? b = some o → h'.get? b = some o) : HRel D γ H h' :=
  ⟨R.len, R.nodup, fun i a o e1 e2 => (R.objs i a o e1 e2).mono ⟨[], by simp⟩ (fun _ _ => tupAt_grow hk) (hk a), R.fresh, fun b o e => hk _ _ (R.base b o e)⟩
theorem HRel.adopt {o : O} {h : Heap} {a : Addr} (R : HRel D γ H h) (hn : a ∉ γ) (hB : D.hB.get? a = none) (ho : ORep D (γ ++ [a]) h a o) : HRel D (γ ++ [a]) (H ++ [o]) h where
  len := by rw [List.length_append, List.length_append, R.len]; rfl
  nodup := by
    refine List.nodup_append.mpr ⟨R.nodup, by simp, fun b hb c hc => ?_⟩
    rw [List.mem_singleton.mp hc]
    intro e
    exact hn (e ▸ hb)
  objs := fun i b ob e1 e2 => by
    by_cases hi : i < γ.length
    · rw [List.getElem?_append_left hi] at e1
      rw [List.getElem?_append_left (R.len ▸ hi)] at e2
      exact (R.objs i b ob e1 e2).mono ⟨[a], rfl⟩ (fun _ _ x => x) (fun _ x => x)
    · have hge := Nat.le_of_not_lt hi
      rw [List.getElem?_append_right hge] at e1
      rw [List.getElem?_append_right (R.len ▸ hge), ← R.len] at e2
      have h0 : i - γ.length = 0 := by
        have := (List.getElem?_eq_some_iff.mp e1).1
        exact Nat.lt_one_iff.mp this
      rw [h0] at e1 e2
      obtain rfl := Option.some.inj e1
      obtain rfl := Option.some.inj e2
      exact ho
  fresh := fun b hb => by
    rcases List.mem_append.mp hb with q | q
    · exact R.fresh b q
    · rw [List.mem_singleton.mp q]; exact hB
  base := R.base
theorem HRel.nin {h : Heap} {a : Addr} (R : HRel D γ H h) (hn : h.get? a = none) : a ∉ γ ∧ D.hB.get? a = none := by
  refine ⟨fun hm => ?_, ?_⟩
  · obtain ⟨⟨o, e⟩, _⟩ := R.alive hm
    rw [hn] at e; exact no_some e
  · cases e : D.hB.get? a with
    | none => rfl
    | some o => have := R.base _ _ e; rw [hn] at this; exact no_some this
theorem HRel.add {o : O} {h h' : Heap} {a : Addr} (R : HRel D γ H h) (hk : ∀ b ob, h.get? b = some ob → h'.get? b = some ob) (hn : h.get? a = none) (ho : ORep D (γ ++ [a]) h' a o) : HRel D (γ ++ [a]) (H ++ [o]) h' :=
  (R.grow hk).adopt (R.nin hn).1 (R.nin hn).2 ho
theorem HRel.addList {vs : List Value} {l : List V} {h h' : Heap} {a : Addr} {n : Nat} (R : HRel D γ H h) (r : Reps D γ h vs l) (hz : l.length ≤ 2000000)
    (hk : ∀ b o, h.get? b = some o → h'.get? b = some o) (hn : h.get? a = none) (ha : h'.get? a = some { cls := .type "list", data := .seq vs.toArray n }) :
    HRel D (γ ++ [a]) (H ++ [.list l]) h' := R.add hk hn ⟨vs, n, ha, Reps.mono ⟨_, rfl⟩ (fun _ _ => tupAt_grow hk) r, by rw [r.length]; exact hz⟩
theorem none_end (h : Heap) : h.get? h.objs.size = none := by
  cases e : h.get? h.objs.size with
  | none => rfl
  | some o => exact absurd (Heap.lt_size e) (Nat.lt_irrefl _)
theorem Stp.add {h' : Heap} {tk : Nat} {a : Addr} (hk : ∀ b o, s.heap.get? b = some o → h'.get? b = some o) (hn : s.heap.get? a = none) : Stp wr γ (γ ++ [a]) s { s with heap := h', toks := tk } :=
  ⟨⟨_, _, rfl⟩, fun b o _ _ e => hk b o e, ⟨[a], rfl, fun b hb => by rw [List.mem_singleton.mp hb]; exact hn⟩⟩
theorem HRel.setObj {i : Nat} {a : Addr} {o : O} {h h' : Heap} (R : HRel D γ H h) (hi : γ[i]? = some a) (hk : ∀ b o, b ≠ a → h.get? b = some o → h'.get? b = some o)
    (ho : (∀ b ws, TupAt h b ws → TupAt h' b ws) → ORep D γ h' a o) : HRel D γ (H.set i o) h' := by
  have ha : a ∈ γ := List.mem_of_getElem? hi
  have ht : ∀ b ws, TupAt h b ws → TupAt h' b ws := fun b ws x => by
    refine e1_2 (id x) fun m q d => ?_
    exact ⟨m, hk _ _ (fun e => (R.alive ha).2 ws (e ▸ x)) q, d⟩
  refine ⟨by rw [List.length_set]; exact R.len, R.nodup, fun j b ob e1 e2 => ?_, R.fresh, fun b ob q => hk b ob (fun e => ?_) (R.base b ob q)⟩
  · by_cases hj : i = j
    · subst hj
      rw [hi] at e1
      obtain rfl := Option.some.inj e1
      rw [List.getElem?_set_self (R.len ▸ (List.getElem?_eq_some_iff.mp hi).1)] at e2
      obtain rfl := Option.some.inj e2
      exact ho ht
    · rw [List.getElem?_set_ne hj] at e2
      refine (R.objs j b ob e1 e2).mono ⟨[], by simp⟩ ht fun o q => hk b o (fun e => ?_) q
      subst e
      obtain ⟨h1, q1⟩ := List.getElem?_eq_some_iff.mp hi
      obtain ⟨h2, q2⟩ := List.getElem?_eq_some_iff.mp e1
      exact hj (nodup_inj R.nodup h1 h2 (q1.trans q2.symm))
  · rw [e, R.fresh _ ha] at q; exact no_some q
theorem HRel.setList {i : Nat} {a : Addr} {vs : List Value} {l : List V} {n : Nat} {h h' : Heap} (R : HRel D γ H h) (hi : γ[i]? = some a) (r : Reps D γ h vs l) (hz : l.length ≤ 2000000)
    (e : h'.get? a = some { cls := .type "list", data := .seq vs.toArray n }) (hk : ∀ b o, b ≠ a → h.get? b = some o → h'.get? b = some o) :
    HRel D γ (H.set i (.list l)) h' := R.setObj hi hk fun ht => ⟨vs, n, e, Reps.mono ⟨[], by simp⟩ ht r, by rw [r.length]; exact hz⟩
end
end Mine
namespace Mine
open PySem
noncomputable def PostV (D : Wd) (γ : List Addr) (s : Shared) (Q : V → Hp → Prop) (v : Value) (s' : Shared) : Prop :=
  ∃ γ' V H', Stp [] γ γ' s s' ∧ HRel D γ' H' s'.heap ∧ Rep D γ' s'.heap v V ∧ Q V H'
noncomputable def PostL (D : Wd) (γ : List Addr) (s : Shared) (Q : List V → Hp → Prop) (vs : List Value) (s' : Shared) : Prop :=
  ∃ γ' Vs H', Stp [] γ γ' s s' ∧ HRel D γ' H' s'.heap ∧ Reps D γ' s'.heap vs Vs ∧ Q Vs H'
noncomputable def PostB (D : Wd) (γ : List Addr) (s : Shared) (Q : Bool → Hp → Prop) (c : Bool) (s' : Shared) : Prop :=
  ∃ γ' H', Stp [] γ γ' s s' ∧ HRel D γ' H' s'.heap ∧ Q c H'
noncomputable def PostX (_ : Wd) (_ : List Addr) (_ : Shared) (_ : XL) (_ : Value) (_ : Shared) : Prop := False
noncomputable abbrev Wd.M (D : Wd) : Model := model D.prog D.w
structure AOkC (D : Wd) (k : Nat) (A : Around) : Prop where
  handled : A.handled = none
  depth : A.depth + 3 * k < 900
  units : A.units + 16 * k < 9000
  guards : A.guards = some []
structure AOk (D : Wd) (k : Nat) (A : Around) : Prop where
  handled : A.handled = none
  depth : A.depth + 3 * k + 2 < 900
  units : A.units + 16 * k + 8 < 9000
  guards : A.guards = some []
theorem AOk.c {D : Wd} {k : Nat} {A : Around} (h : AOk D k A) : AOkC D k A := ⟨h.handled, by have := h.depth; lia, by have := h.units; lia, h.guards⟩
theorem AOkC.mono {D : Wd} {k k' : Nat} {A : Around} (h : AOkC D k A) (hk : k' ≤ k) : AOkC D k' A := ⟨h.handled, by have := h.depth; lia, by have := h.units; lia, h.guards⟩
theorem AOkC.deeper {D : Wd} {k : Nat} {A : Around} (h : AOkC D (k + 1) A) (env : Env) : AOk D k (A.deeper env) :=
  ⟨h.handled, by have := h.depth; show A.depth + 1 + 3 * k + 2 < 900; lia, by have := h.units; show A.units + 3 + 16 * k + 8 < 9000; lia, h.guards⟩
theorem under_guards (A : Around) (c : Code) : (A.under c).guards = pushGuards c.guards A.guards := rfl
theorem AOk.under {D : Wd} {k : Nat} {A : Around} (h : AOk D k A) (C : Addr) : AOkC D k (A.under (.builtin "type.__call__" ⟨[.ref C], []⟩)) := by
  have e1 : (Code.builtin "type.__call__" ⟨[.ref C], []⟩).weight = 1 := by with_unfolding_all rfl
  have e2 : (Code.builtin "type.__call__" ⟨[.ref C], []⟩).guards = [] := by with_unfolding_all rfl
  exact ⟨h.handled, by have := h.depth; show A.depth + (Code.builtin "type.__call__" ⟨[.ref C], []⟩).weight + 3 * k < 900; lia, by have := h.units; show A.units + 1 + 16 * k < 9000; lia, by rw [under_guards, e2, h.guards]; rfl⟩
section
variable {D : Wd} {γ γ1 : List Addr} {H H1 : Hp} {s s1 : Shared} {A : Around}
theorem PostV.back {Q : V → Hp → Prop} {v : Value} {s' : Shared} (t : Stp [] γ γ1 s s1) (R : HRel D γ1 H1 s1.heap) (h : PostV D γ1 s1 Q v s') : PostV D γ s Q v s' := by
  refine e3_4 h fun γ' V H' a b c d => ?_
  exact ⟨γ', V, H', t.trans0 R a, b, c, d⟩
theorem PostL.back {Q : List V → Hp → Prop} {v : List Value} {s' : Shared} (t : Stp [] γ γ1 s s1) (R : HRel D γ1 H1 s1.heap) (h : PostL D γ1 s1 Q v s') : PostL D γ s Q v s' := by
  refine e3_4 h fun γ' V H' a b c d => ?_
  exact ⟨γ', V, H', t.trans0 R a, b, c, d⟩
theorem PostB.back {Q : Bool → Hp → Prop} {v : Bool} {s' : Shared} (t : Stp [] γ γ1 s s1) (R : HRel D γ1 H1 s1.heap) (h : PostB D γ1 s1 Q v s') : PostB D γ s Q v s' := by
  refine e2_3 h fun γ' H' a b d => ?_
  exact ⟨γ', H', t.trans0 R a, b, d⟩
theorem PostX.back {X : XL} {v : Value} {s' : Shared} (_ : Stp [] γ γ1 s s1) (_ : HRel D γ1 H1 s1.heap) (h : PostX D γ1 s1 X v s') : PostX D γ s X v s' := h
theorem backV {t : Sem Value} {Q : V → Hp → Prop} {X : XL} (st : Stp [] γ γ1 s s1) (R : HRel D γ1 H1 s1.heap) (h : wpAny D.M A t (PostV D γ1 s1 Q) (PostX D γ1 s1 X) s1) :
    wpAny D.M A t (PostV D γ s Q) (PostX D γ s X) s1 := wpAny_mono h (fun _ _ x => x.back st R) (fun _ _ x => x.back st R)
theorem backB {t : Sem Bool} {Q : Bool → Hp → Prop} {X : XL} (st : Stp [] γ γ1 s s1) (R : HRel D γ1 H1 s1.heap) (h : wpAny D.M A t (PostB D γ1 s1 Q) (PostX D γ1 s1 X) s1) :
    wpAny D.M A t (PostB D γ s Q) (PostX D γ s X) s1 := wpAny_mono h (fun _ _ x => x.back st R) (fun _ _ x => x.back st R)
theorem backL {t : Sem (List Value)} {Q : List V → Hp → Prop} {X : XL} (st : Stp [] γ γ1 s s1) (R : HRel D γ1 H1 s1.heap) (h : wpAny D.M A t (PostL D γ1 s1 Q) (PostX D γ1 s1 X) s1) :
    wpAny D.M A t (PostL D γ s Q) (PostX D γ s X) s1 := wpAny_mono h (fun _ _ x => x.back st R) (fun _ _ x => x.back st R)
theorem andThen {t : Sem Value} {Q : V → Hp → Prop} {P : Value → Shared → Prop} {X : XL} (h : wpAny D.M A t (PostV D γ s Q) (PostX D γ s X) s)
    (k : ∀ v s1 γ1 V H1, Stp [] γ γ1 s s1 → HRel D γ1 H1 s1.heap → Rep D γ1 s1.heap v V → Q V H1 → P v s1) : wpAny D.M A t P (PostX D γ s X) s :=
  wpAny_mono h (fun v s1 ⟨γ1, V, H1, a, b, c, d⟩ => k v s1 γ1 V H1 a b c d) (fun _ _ x => x)
theorem andThenL {t : Sem (List Value)} {Q : List V → Hp → Prop} {P : List Value → Shared → Prop} {X : XL} (h : wpAny D.M A t (PostL D γ s Q) (PostX D γ s X) s)
    (k : ∀ v s1 γ1 V H1, Stp [] γ γ1 s s1 → HRel D γ1 H1 s1.heap → Reps D γ1 s1.heap v V → Q V H1 → P v s1) : wpAny D.M A t P (PostX D γ s X) s :=
  wpAny_mono h (fun v s1 ⟨γ1, V, H1, a, b, c, d⟩ => k v s1 γ1 V H1 a b c d) (fun _ _ x => x)
theorem andThenB {t : Sem Bool} {Q : Bool → Hp → Prop} {P : Bool → Shared → Prop} {X : XL} (h : wpAny D.M A t (PostB D γ s Q) (PostX D γ s X) s)
    (k : ∀ v s1 γ1 H1, Stp [] γ γ1 s s1 → HRel D γ1 H1 s1.heap → Q v H1 → P v s1) : wpAny D.M A t P (PostX D γ s X) s :=
  wpAny_mono h (fun v s1 ⟨γ1, H1, a, b, d⟩ => k v s1 γ1 H1 a b d) (fun _ _ x => x)
theorem thenV {t : Sem Value} {Q : V → Hp → Prop} {P : Value → Shared → Prop} {X : XL} (st : Stp [] γ γ1 s s1) (R : HRel D γ1 H1 s1.heap) (h : wpAny D.M A t (PostV D γ1 s1 Q) (PostX D γ1 s1 X) s1)
    (k : ∀ v s2 γ2 V H2, Stp [] γ1 γ2 s1 s2 → HRel D γ2 H2 s2.heap → Rep D γ2 s2.heap v V → Q V H2 → P v s2) : wpAny D.M A t P (PostX D γ s X) s1 :=
  wpAny_mono h (fun v s2 ⟨γ2, V, H2, a, b, c, d⟩ => k v s2 γ2 V H2 a b c d) (fun _ _ x => x.back st R)
theorem thenL {t : Sem (List Value)} {Q : List V → Hp → Prop} {P : List Value → Shared → Prop} {X : XL} (st : Stp [] γ γ1 s s1) (R : HRel D γ1 H1 s1.heap) (h : wpAny D.M A t (PostL D γ1 s1 Q) (PostX D γ1 s1 X) s1)
    (k : ∀ v s2 γ2 V H2, Stp [] γ1 γ2 s1 s2 → HRel D γ2 H2 s2.heap → Reps D γ2 s2.heap v V → Q V H2 → P v s2) : wpAny D.M A t P (PostX D γ s X) s1 :=
  wpAny_mono h (fun v s2 ⟨γ2, V, H2, a, b, c, d⟩ => k v s2 γ2 V H2 a b c d) (fun _ _ x => x.back st R)
theorem thenB {t : Sem Bool} {Q : Bool → Hp → Prop} {P : Bool → Shared → Prop} {X : XL} (st : Stp [] γ γ1 s s1) (R : HRel D γ1 H1 s1.heap) (h : wpAny D.M A t (PostB D γ1 s1 Q) (PostX D γ1 s1 X) s1)
    (k : ∀ v s2 γ2 H2, Stp [] γ1 γ2 s1 s2 → HRel D γ2 H2 s2.heap → Q v H2 → P v s2) : wpAny D.M A t P (PostX D γ s X) s1 :=
  wpAny_mono h (fun v s2 ⟨γ2, H2, a, b, d⟩ => k v s2 γ2 H2 a b d) (fun _ _ x => x.back st R)
theorem PostV.now {Q : V → Hp → Prop} {v : Value} {V : V} (R : HRel D γ H s.heap) (r : Rep D γ s.heap v V) (h : Q V H) {tk : Nat} : PostV D γ s Q v { s with toks := tk } :=
  ⟨γ, V, H, stp_grow fun _ _ e => e, R, r, h⟩
theorem PostV.here {Q : V → Hp → Prop} {v : Value} {V : V} (R : HRel D γ H s.heap) (r : Rep D γ s.heap v V) (h : Q V H) : PostV D γ s Q v s :=
  ⟨γ, V, H, Stp.refl, R, r, h⟩
theorem PostB.now {Q : Bool → Hp → Prop} {c : Bool} (R : HRel D γ H s.heap) (h : Q c H) {tk : Nat} : PostB D γ s Q c { s with toks := tk } :=
  ⟨γ, H, stp_grow fun _ _ e => e, R, h⟩
theorem PostB.here {Q : Bool → Hp → Prop} {c : Bool} (R : HRel D γ H s.heap) (h : Q c H) : PostB D γ s Q c s := ⟨γ, H, Stp.refl, R, h⟩
theorem PostV.grown {Q : V → Hp → Prop} {v : Value} {V : V} {h' : Heap} {tk : Nat} (R : HRel D γ H s.heap) (hk : ∀ b o, s.heap.get? b = some o → h'.get? b = some o) (r : Rep D γ h' v V) (h : Q V H) :
    PostV D γ s Q v { s with heap := h', toks := tk } := ⟨γ, V, H, stp_grow hk, R.grow hk, r, h⟩
theorem rep_new {h : Heap} {a : Addr} (R : HRel D γ H s.heap) : Rep D (γ ++ [a]) h (.ref a) (.ref H.length) :=
  Exists.intro a ⟨by rw [← R.len, List.getElem?_concat_length], rfl⟩
theorem PostV.addList {Q : V → Hp → Prop} {vs : List Value} {l : List V} {h' : Heap} {a : Addr} {n tk : Nat} (R : HRel D γ H s.heap) (r : Reps D γ s.heap vs l) (hz : l.length ≤ 2000000)
    (hk : ∀ b o, s.heap.get? b = some o → h'.get? b = some o) (hn : s.heap.get? a = none) (ha : h'.get? a = some { cls := .type "list", data := .seq vs.toArray n }) (h : Q (.ref H.length) (H ++ [.list l])) :
    PostV D γ s Q (.ref a) { s with heap := h', toks := tk } :=
  ⟨γ ++ [a], .ref H.length, H ++ [.list l], Stp.add hk hn, R.addList r hz hk hn ha, rep_new R, h⟩
theorem PostV.newList {Q : V → Hp → Prop} {vs : List Value} {l : List V} (R : HRel D γ H s.heap) (r : Reps D γ s.heap vs l) (hz : l.length ≤ 2000000) (h : Q (.ref H.length) (H ++ [.list l])) :
    PostV D γ s Q (.ref s.heap.objs.size) { s with heap := s.heap.push { cls := .type "list", data := .seq vs.toArray } } :=
  PostV.addList (tk := s.toks) R r hz (fun _ _ e => Heap.get?_push_of_some _ e) (none_end _) (Heap.get?_push_size _ rfl) h
theorem stp_set {i : Nat} {a : Addr} {h' : Heap} {tk : Nat} (hi : γ[i]? = some a) (hk : ∀ b o, b ≠ a → s.heap.get? b = some o → h'.get? b = some o) : Stp [] γ γ s { s with heap := h', toks := tk } :=
  ⟨⟨_, _, rfl⟩, fun b o hb _ e => hk b o (fun q => hb (q ▸ List.mem_of_getElem? hi)) e, ⟨[], by simp, by simp⟩⟩
theorem PostV.setList {Q : V → Hp → Prop} {vs : List Value} {l : List V} {h' : Heap} {i : Nat} {a : Addr} {n tk : Nat} {v : Value} {V : V} (R : HRel D γ H s.heap) (hi : γ[i]? = some a) (r : Reps D γ s.heap vs l) (hz : l.length ≤ 2000000)
    (hk : ∀ b o, b ≠ a → s.heap.get? b = some o → h'.get? b = some o) (ha : h'.get? a = some { cls := .type "list", data := .seq vs.toArray n }) (rv : Rep D γ h' v V) (h : Q V (H.set i (.list l))) :
    PostV D γ s Q v { s with heap := h', toks := tk } :=
  ⟨γ, V, H.set i (.list l), stp_set hi hk, R.setList hi r hz ha hk, rv, h⟩
theorem PostV.newTuple {Q : V → Hp → Prop} {vs : List Value} {l : List V} (R : HRel D γ H s.heap) (r : Reps D γ s.heap vs l) (hz : l.length ≤ 2000000) (h : Q (.tup l) H) :
    PostV D γ s Q (.ref s.heap.objs.size) { s with heap := s.heap.push { cls := .type "tuple", data := .seq vs.toArray } } :=
  have hk : ∀ b o, s.heap.get? b = some o → (s.heap.push { cls := .type "tuple", data := .seq vs.toArray }).get? b = some o := fun _ _ e => Heap.get?_push_of_some _ e
  PostV.grown (V := .tup l) (tk := s.toks) R hk (Exists.intro _ ⟨vs, rfl, ⟨0, Heap.get?_push_size _ rfl, by rw [r.length]; exact hz⟩, Reps.mono ⟨[], by simp⟩ (fun _ _ => tupAt_grow hk) r⟩) h
end
structure LRel (D : Wd) (γ : List Addr) (env : Env) (slots : List (Str × Nat)) (h : Heap) (L : Lc) : Prop where
  ns : ∃ m, h.Ns env.locals m ∧ ∀ (x : Str) (i : Nat) (V : V), env.kindOf x = some .local → slots.lookup x = some i → L[i]? = some (some V) → ∃ v, m x = some v ∧ Rep D γ h v V
  cel : ∀ (x : Str), env.kindOf x = some .cell → ∃ c u, env.cells.lookup x = some c ∧ h.IsCell c u ∧ c ∉ γ ∧
    ∀ (i : Nat) (V : V), slots.lookup x = some i → L[i]? = some (some V) → ∃ v, u = some v ∧ Rep D γ h v V
  nin : env.locals ∉ γ
structure EnvOk (c : CC) (env : Env) : Prop where
  scope : env.scope = c.scope
  kind : c.scope.kind = .function
  globals : env.globals = mainGlobals
  builtins : env.builtins = builtinsNs
structure BkOk (D : Wd) (mts : List Str) : Prop where
  cls : ∃ N nm q bs sn sub col dd k0 k1 k2 k3 k5, D.hB.get? D.bk = some (excClassObj nm q D.bk N bs [.type "object"] true sn sub false col dd k0 k1 k2 k3 k5 "object.__new__") ∧ D.hB.Ns N D.mt
  noG : D.mt "__getattribute__" = none
  noH : D.mt "__getattr__" = none
  noS : D.mt "__setattr__" = none
  noF : ∀ x, fldOk x = true → D.mt x = none
  mts : ∀ m, mts.contains m = true → fldOk m = false ∧ (∃ y, typeLookup (.type "object") m = pure y) ∧ ∃ a o, D.mt m = some (.ref a) ∧ D.hB.get? a = some o ∧ o.cls = .type "function" ∧ (∃ fd, o.data = .func fd) ∧ D.fa (Str.ofString "Book." ++ m) = some a
  init : ∃ a o, D.mt "__init__" = some (.ref a) ∧ D.hB.get? a = some o ∧ o.cls = .type "function" ∧ D.fa "Book.__init__" = some a
structure GOk (D : Wd) (G : List (Str × V)) (mts : List Str) : Prop where
  gns : D.hB.Ns mainGlobals D.mg
  bns : D.hB.Ns builtinsNs D.mb
  val : ∀ (x : Str) (V : V), G.lookup x = some V → ∃ v, (D.mg x = some v ∨ (D.mg x = none ∧ D.mb x = some v)) ∧ ∀ γ, Rep D γ D.hB v V
  lim : D.hB.NoLimit
  bk : BkOk D mts
section
variable {D : Wd} {γ γ1 : List Addr} {H H1 : Hp} {s s1 : Shared} {env : Env} {slots : List (Str × Nat)} {L : Lc}
theorem notin_ext (t : Stp [] γ γ1 s s1) {a : Addr} {o : Obj} (h : a ∉ γ) (e : s.heap.get? a = some o) : a ∉ γ1 := by
  refine e1_2 (t.ext) fun δ e_11 f => ?_
  obtain rfl := e_11
  intro q
  rcases List.mem_append.mp q with q | q
  · exact h q
  · rw [f a q] at e; exact no_some e
theorem LRel.stp (l : LRel D γ env slots s.heap L) (R : HRel D γ H s.heap) (t : Stp [] γ γ1 s s1) : LRel D γ1 env slots s1.heap L where
  ns := by
    refine e1_2 (l.ns) fun m n f => ?_
    refine ⟨m, n.at' fun o e => t.keep _ _ l.nin (fun h => nomatch h) e, fun x i V a b c => ?_⟩
    refine e1_2 (f x i V a b c) fun v e q => ?_
    exact ⟨v, e, q.stp0 R t⟩
  cel := fun x hx => by
    refine e2_4 (l.cel x hx) fun c u a e_12 hc f => ?_
    obtain ⟨o, ho, hd⟩ := e_12
    refine ⟨c, u, a, ⟨o, t.keep _ _ hc (fun h => nomatch h) ho, hd⟩, notin_ext t hc ho, fun i V b d => ?_⟩
    refine e1_2 (f i V b d) fun v e q => ?_
    exact ⟨v, e, q.stp0 R t⟩
  nin := by
    refine e1_2 (l.ns) fun m e_13 f => ?_
    obtain ⟨o, es, ep, ho, r⟩ := e_13
    exact notin_ext t l.nin ho
theorem LRel.grow {h h' : Heap} (l : LRel D γ env slots h L) (hk : ∀ b o, h.get? b = some o → h'.get? b = some o) : LRel D γ env slots h' L where
  ns := by
    refine e1_2 (l.ns) fun m n f => ?_
    refine ⟨m, n.keeps hk, fun x i V a b c => ?_⟩
    refine e1_2 (f x i V a b c) fun v e q => ?_
    exact ⟨v, e, Rep.mono ⟨[], by simp⟩ (fun _ _ => tupAt_grow hk) q⟩
  cel := fun x hx => by
    refine e2_4 (l.cel x hx) fun c u a q hc f => ?_
    refine ⟨c, u, a, q.keeps hk, hc, fun i V b d => ?_⟩
    refine e1_2 (f i V b d) fun v e q => ?_
    exact ⟨v, e, Rep.mono ⟨[], by simp⟩ (fun _ _ => tupAt_grow hk) q⟩
  nin := l.nin
end
noncomputable def OrcOk (D : Wd) (k : Nat) (Φ : Orc) : Prop := ∀ x vs H Q X, Φ x vs H Q X → ∀ A γ s vals a, AOkC D k A → HRel D γ H s.heap → Reps D γ s.heap vals vs → D.fa x = some a →
  (∃ o fd, D.hB.get? a = some o ∧ o.data = .func fd) ∧ wpAny D.M A (call (.ref a) vals) (PostV D γ s Q) (PostX D γ s X) s
noncomputable def SEP (P : Around → Prop) (D : Wd) (Φ : Orc) (c : CC) (e : Expr) (ie : IE) : Prop := ∀ env A γ H s L Q X, EnvOk c env → P A → HRel D γ H s.heap → LRel D γ env c.slots s.heap L →
  (wp2 Φ ie).E L H Q X → wpAny D.M A (eval e env) (PostV D γ s Q) (PostX D γ s X) s
noncomputable def STP (P : Around → Prop) (D : Wd) (Φ : Orc) (c : CC) (e : Expr) (ie : IE) : Prop := ∀ env A γ H s L Q X, EnvOk c env → P A → HRel D γ H s.heap → LRel D γ env c.slots s.heap L →
  (wp2 Φ ie).T L H Q X → wpAny D.M A (isTrue e env (eval e env)) (PostB D γ s Q) (PostX D γ s X) s
noncomputable abbrev SE (D : Wd) (Φ : Orc) (k : Nat) (c : CC) (e : Expr) (ie : IE) : Prop := SEP (AOk D k) D Φ c e ie
noncomputable abbrev ST (D : Wd) (Φ : Orc) (k : Nat) (c : CC) (e : Expr) (ie : IE) : Prop := STP (AOk D k) D Φ c e ie
end Mine
namespace Mine
open PySem PyProof.Rows
theorem strOk_iff {x : Str} : PyData.strOk x = true ↔ ∀ c ∈ x.cps.toList, c < 0x110000 := by
  unfold PyData.strOk
  rw [← Array.all_toList, List.all_eq_true]
  simp
theorem strOk_append {x y : Str} : PyData.strOk (x ++ y) = true ↔ PyData.strOk x = true ∧ PyData.strOk y = true := by
  simp only [strOk_iff]
  have e : (x ++ y).cps.toList = x.cps.toList ++ y.cps.toList := by show (x.cps ++ y.cps).toList = _; simp
  rw [e]
  simp only [List.mem_append]
  exact ⟨fun h => ⟨fun c hc => h c (.inl hc), fun c hc => h c (.inr hc)⟩, fun h c hc => hc.elim (h.1 c) (h.2 c)⟩
section
variable {D : Wd} {γ : List Addr} {H : Hp} {s : Shared} {A : Around} {E : Value → Shared → Prop} {Q : V → Hp → Prop} {x : Str} {t : Tok}
theorem rep_b {h : Heap} {b : Bool} : Rep D γ h (.bool b) (.bool b) := rfl
theorem rep_i {h : Heap} {i : Int} {t : Tok} : Rep D γ h (.int i t) (.int i) := Exists.intro t rfl
theorem rep_s {h : Heap} {x : Str} {t : Tok} (f : StrFine x) : Rep D γ h (.str x t) (.str x) := Exists.intro t ⟨rfl, f⟩
theorem lstO_some {o : O} {l : List V} (h : lstO o = some l) : o = .list l := by
  cases o with
  | list _ => exact congrArg O.list (Option.some.inj h)
  | _ => exact no_some h
theorem listAt_at {H : Hp} {i : Nat} {l : List V} (h : listAt H i = some l) : H[i]? = some (.list l) := by
  refine e1_2 (Option.bind_eq_some_iff.mp h) fun o e h => ?_
  rw [e, lstO_some h]
theorem HRel.list {i : Nat} {a : Addr} {l : List V} (R : HRel D γ H s.heap) (hi : γ[i]? = some a) (hl : listAt H i = some l) : ∃ vs n, s.heap.get? a = some { cls := .type "list", data := .seq vs.toArray n } ∧ Reps D γ s.heap vs l ∧ vs.length ≤ 2000000 := R.objs i a _ hi (listAt_at hl)
theorem lenStr_ok (R : HRel D γ H s.heap) (f : StrFine x) (q : Q (.int x.length) H) : wpAny D.M A (call (.builtin "len") [.str x t]) (PostV D γ s Q) E s :=
  PySem.P.len_str (by have := f.1; lia) (PostV.now R rep_i q)
end
end Mine
namespace Mine
open PySem PyProof.Rows
section
variable {D : Wd} {γ : List Addr} {H : Hp} {s : Shared} {A : Around} {E : Value → Shared → Prop}
theorem TupAt.isTup {h : Heap} {a : Addr} {vs : List Value} (x : TupAt h a vs) : IsTup h a vs.toArray := by
  obtain ⟨n, e, _⟩ := x; exact ⟨_, e, rfl, n, rfl⟩
theorem TupAt.isTuple {h : Heap} {a : Addr} {vs : List Value} (x : TupAt h a vs) : h.IsTuple a vs.toArray := by
  obtain ⟨n, e, _⟩ := x; exact ⟨_, e, rfl, n, rfl⟩
theorem TupAt.size {h : Heap} {a : Addr} {vs : List Value} (x : TupAt h a vs) : vs.length ≤ 2000000 := by
  obtain ⟨n, e, z⟩ := x; exact z
theorem strFine_append {x y : Str} (f : StrFine x) (g : StrFine y) (h : x.length + y.length ≤ 1000000) : StrFine (x ++ y) := by
  refine ⟨by rw [strLen_append]; lia, ?_⟩
  have a := f.2; have b := g.2
  unfold PyData.strOk at a b ⊢
  show (x.cps ++ y.cps).all _ = true
  rw [Array.all_append, a, b]; rfl
theorem truth_ok {v : Value} {c : Bool} {Q : Bool → Hp → Prop} (R : HRel D γ H s.heap) (r : Rep D γ s.heap v (.bool c)) (q : Q c H) :
    wpAny D.M A (truthy v) (PostB D γ s Q) E s := by
  obtain rfl := r
  exact wpAny_truthy_bool (PostB.here R q)
theorem neg_ok {v : Value} {i : Int} {Q : V → Hp → Prop} (R : HRel D γ H s.heap) (r : Rep D γ s.heap v (.int i)) (q : Q (.int (-i)) H) :
    wpAny D.M A (unaryOp .USub v) (PostV D γ s Q) E s := by
  obtain ⟨t, rfl⟩ := r
  exact neg_int (PostV.now R rep_i q)
theorem bin_ok {op : Operator} {a b : Value} {Va Vb : V} {Q : V → Hp → Prop} (R : HRel D γ H s.heap) (ra : Rep D γ s.heap a Va) (rb : Rep D γ s.heap b Vb) (h : pBin op Va Vb H Q) :
    wpAny D.M A (binaryOp op a b) (PostV D γ s Q) E s := by
  cases op with
  | Add =>
    replace h : pAdd Va Vb H Q := h
    cases Va with
    | int i =>
      refine e1_2 (oK_elim (show oK (intV Vb) _ from h)) fun j e h => ?_
      rw [intV_some e] at rb
      obtain ⟨t, rfl⟩ := ra; obtain ⟨u, rfl⟩ := rb
      exact add_int (PostV.now R rep_i h)
    | str x =>
      refine e1_2 (oK_elim (show oK (strV Vb) _ from h)) fun y e h => ?_
      rw [strV_some e] at rb
      obtain ⟨t, rfl, f⟩ := ra; obtain ⟨u, rfl, g⟩ := rb
      refine PyProof.Rows.add_str (fun t' tk => PostV.now R (rep_s (strFine_append f g h.1)) h.2) (by rw [sizeLine_eq]; lia)
    | ref i =>
      refine e1_2 (oK_elim (show oK (refV Vb) _ from h)) fun j e h => ?_
      rw [refV_some e] at rb
      obtain ⟨x, hx, rfl⟩ := ra; obtain ⟨y, hy, rfl⟩ := rb
      refine e1_2 (oK_elim h) fun xs h1 h => ?_
      refine e1_3 (oK_elim h) fun ys h2 h3 h4 => ?_
      refine e2_3 (R.list hx h1) fun vs n e rs z => ?_
      refine e2_3 (R.list hy h2) fun ws m e' rs' z' => ?_
      have := rs.length; have := rs'.length
      refine P.add_list (items := vs.toArray) (items2 := ws.toArray) (n := n) (n2 := m) e e' ?_ (by simp [sizeLine_eq]; lia)
      rw [List.append_toArray]
      exact PostV.newList R (rs.append rs') (by simp; lia) h4
    | _ => exact h.elim
  | Sub =>
    refine e2_3 (pInt_elim (show pInt Va Vb _ from h)) fun i j e_14 e_15 h => ?_
    obtain rfl := e_14
    obtain rfl := e_15
    obtain ⟨t, rfl⟩ := ra; obtain ⟨u, rfl⟩ := rb
    exact sub_int (PostV.now R rep_i h)
  | Mult =>
    refine e2_3 (pInt_elim (show pInt Va Vb _ from h)) fun i j e_16 e_17 h => ?_
    obtain rfl := e_16
    obtain rfl := e_17
    obtain ⟨t, rfl⟩ := ra; obtain ⟨u, rfl⟩ := rb
    refine mul_int (PostV.now R rep_i h.2) ?_
    rcases h.1 with q | q
    · exact IntMulOk.of_left (intBits_le_64 q.1 q.2)
    · exact IntMulOk.of_right (intBits_le_64 q.1 q.2)
  | FloorDiv =>
    refine e2_3 (pInt_elim (show pInt Va Vb _ from h)) fun i j e_18 e_19 h => ?_
    obtain rfl := e_18
    obtain rfl := e_19
    obtain ⟨t, rfl⟩ := ra; obtain ⟨u, rfl⟩ := rb
    have hj : j ≠ 0 := by have := h.1.1; lia
    refine floordiv_int hj (PostV.now (V := .int (i.fdiv j)) R rep_i ?_) (.inl (PyProof.noPylong_of_log2 ?_))
    · rw [Int.fdiv_eq_ediv_of_nonneg _ (by lia)]; exact h.2
    · have h1 := h.1
      have h2 : j.natAbs < 2 ^ 128 := by lia
      have h3 : j.natAbs ≠ 0 := by lia
      have := (Nat.log2_lt h3).mpr h2
      lia
  | Mod =>
    refine e2_3 (pInt_elim (show pInt Va Vb _ from h)) fun i j e_20 e_21 h => ?_
    obtain rfl := e_20
    obtain rfl := e_21
    obtain ⟨t, rfl⟩ := ra; obtain ⟨u, rfl⟩ := rb
    have hj : j ≠ 0 := by have := h.1.1; lia
    refine mod_int' hj (PostV.now (V := .int (i.fmod j)) R rep_i ?_)
    rw [Int.fmod_eq_emod_of_nonneg _ (by lia)]; exact h.2
  | Pow =>
    refine e2_3 (pInt_elim (show pInt Va Vb _ from h)) fun i j e_22 e_23 h => ?_
    obtain rfl := e_22
    obtain rfl := e_23
    obtain ⟨t, rfl⟩ := ra; obtain ⟨u, rfl⟩ := rb
    exact pow_int_small h.1.1 h.1.2.1 h.1.2.2 (PostV.now R rep_i h.2)
  | _ => exact h.elim
theorem seq_pos {k : Int} {n : Nat} (h0 : 0 ≤ k) (h1 : k < (n : Int)) : seqIndex? k n = some k.toNat := by
  have e : (if k < 0 then k + (n : Int) else k) = k := if_neg (by lia)
  show (if (0 ≤ (if k < 0 then k + (n : Int) else k) && decide ((if k < 0 then k + (n : Int) else k) < (n : Int))) = true then some (if k < 0 then k + (n : Int) else k).toNat else none) = _
  rw [e, if_pos (by rw [Bool.and_eq_true, decide_eq_true_eq, decide_eq_true_eq]; exact ⟨h0, h1⟩)]
theorem dctO_some {o : O} {l : List (Str × V)} (h : dctO o = some l) : o = .dict l := by
  cases o with
  | dict _ => exact congrArg O.dict (Option.some.inj h)
  | _ => exact no_some h
theorem HRel.dict {i : Nat} {a : Addr} {es : List (Str × V)} (R : HRel D γ H s.heap) (hi : γ[i]? = some a) (h : dictAt H i = some es) : ∃ kvs, s.heap.DictOf (strKind D.prog D.w) a kvs ∧ FsRep D γ s.heap es (valueAt kvs) ∧ kvs.length ≤ es.length := by
  refine e1_2 (Option.bind_eq_some_iff.mp h) fun o e h => ?_
  rw [dctO_some h] at e
  exact R.objs i a _ hi e
theorem isStr {x : Str} {t : Tok} : Value.isStrOf x (.str x t) = true := beq_self_eq_true x
theorem subI_ok {value slice : Expr} {a b : Value} {Va : V} {k : Int} {Q : V → Hp → Prop} (R : HRel D γ H s.heap) (ra : Rep D γ s.heap a Va) (rb : Rep D γ s.heap b (.int k)) (h : pSubI Va k H Q)
    (hs' : subscripted slice false a b = operate [a, b] (getItem a b)) : wpAny D.M A (subscriptTail value slice a b) (PostV D γ s Q) E s := by
  obtain ⟨u, rfl⟩ := rb
  cases Va with
  | tup l =>
    refine e2_3 ra fun t vs e_24 ta rs => ?_
    obtain rfl := e_24
    refine e1_2 (oK_elim h) fun v hv q => ?_
    have hz := ta.size
    obtain ⟨h0, hv⟩ := idxP_some hv
    refine e1_2 (rs.get hv) fun w hw rw_ => ?_
    have hlt : k.toNat < vs.length := (List.getElem?_eq_some_iff.mp hw).1
    exact item_tupleT (j := k.toNat) ta.isTup (by lia) (by lia) (seq_pos h0 (by lia)) hw (PostV.here R rw_ q) hs'
  | ref i =>
    refine e1_2 ra fun x hx e_25 => ?_
    obtain rfl := e_25
    refine e1_2 (oK_elim h) fun l hl h => ?_
    refine e1_2 (oK_elim h) fun v hv q => ?_
    refine e2_3 (R.list hx hl) fun vs n e rs hz => ?_
    have hL : s.heap.IsList x vs.toArray := ⟨_, e, rfl, n, rfl⟩
    have hlen := rs.length
    unfold idx at hv
    by_cases h0 : 0 ≤ k
    · rw [if_pos h0] at hv
      refine e1_2 (rs.get hv) fun w hw rw_ => ?_
      have hlt := (List.getElem?_eq_some_iff.mp hw).1
      exact tail_any hL.typeIs slot_list_getitem.lookup (wpAny_getItem_list hL h0 (by lia) (by rw [List.getElem?_toArray]; exact hw) (PostV.here R rw_ q)) hs'
    · rw [if_neg h0] at hv
      by_cases h1 : 0 ≤ k + (l.length : Int)
      · rw [if_pos h1, ← hlen] at hv
        refine e1_2 (rs.get hv) fun w hw rw_ => ?_
        have hsz : vs.toArray.size = vs.length := List.size_toArray
        exact tail_any hL.typeIs slot_list_getitem.lookup (wpAny_getItem_list_neg hL (by lia) (by rw [hsz]; lia) (by lia) (by rw [hsz, List.getElem?_toArray]; exact hw) (PostV.here R rw_ q)) hs'
      · rw [if_neg h1] at hv; exact no_some hv
  | scr ns =>
    obtain ⟨x, vs, rfl, e, hz, hlen, hI⟩ := ra
    refine e1_2 (oK_elim h) fun v hv q => ?_
    have hL : s.heap.IsList x vs.toArray := let ⟨o, h1, h2, n, h3⟩ := e; ⟨o, R.base _ _ h1, h2, n, h3⟩
    obtain ⟨h0, hv⟩ := idxP_some hv
    obtain ⟨t, hw⟩ := hI _ _ hv
    have hlt := (List.getElem?_eq_some_iff.mp hw).1
    exact tail_any hL.typeIs slot_list_getitem.lookup (wpAny_getItem_list hL h0 (by lia) (by rw [List.getElem?_toArray]; exact hw) (PostV.here (v := .int v t) (V := .int v) R rep_i q)) hs'
  | str x =>
    refine e1_2 ra fun t e_27 fx => ?_
    obtain rfl := e_27
    refine e1_2 (oK_elim h) fun v hv q => ?_
    have hz := fx.1
    have hl : x.cps.toList.length = x.length := Array.length_toList
    obtain ⟨h0, hv⟩ := idxP_some hv
    have hlt := (List.getElem?_eq_some_iff.mp hv).1
    refine tail_any (typeIs_str s x t) F.slot_str_getitem.lookup (P.getItem_str (c := v) (by simp; lia) (by rw [seq_pos h0 (by lia)]; simpa using hv) (PostV.now R (V := .str ⟨#[v]⟩) ?_ q)) hs'
    exact rep_s ⟨by show 1 ≤ _; lia, strOk_iff.mpr fun c hc => by simp at hc; subst hc; exact strOk_iff.mp fx.2 _ (List.mem_of_getElem? hv)⟩
  | _ => exact h.elim
theorem sub_ok {value slice : Expr} {a b : Value} {Va Vb : V} {Q : V → Hp → Prop} (R : HRel D γ H s.heap) (ra : Rep D γ s.heap a Va) (rb : Rep D γ s.heap b Vb) (h : pSub Va Vb H Q)
    (hs : ∀ lo hi st p, slice ≠ .Slice lo hi st p) : wpAny D.M A (subscriptTail value slice a b) (PostV D γ s Q) E s := by
  have hs' : ∀ o i, subscripted slice false o i = operate [o, i] (getItem o i) := fun o i => by
    unfold subscripted
    split
    · rename_i lo hi p _ _; exact absurd rfl (hs _ _ _ _)
    · rename_i h1; cases h1
    · rfl
  cases Vb with
  | str x =>
    refine e1_2 (oK_elim (show oK (refV Va) _ from h)) fun j hj h => ?_
    rw [refV_some hj] at ra
    refine e1_2 (oK_elim h) fun es he h => ?_
    refine e1_2 (oK_elim h) fun v hv q => ?_
    refine e1_2 rb fun t e_28 _ => ?_
    obtain rfl := e_28
    refine e1_2 ra fun a ha e_29 => ?_
    obtain rfl := e_29
    refine e1_3 (R.dict ha he) fun kvs hd hf _ => ?_
    refine e1_2 (hf.1 x v hv) fun w hw rw_ => ?_
    exact tail_any hd.mapOf.typeIs slot_dict_getitem.lookup (wpAny_getItem_of (knd := strKind D.prog D.w) (k := x) (isStr (t := t)) hd.mapOf hw (PostV.now R rw_ q)) (hs' _ _)
  | int k => exact subI_ok R ra rb h (hs' _ _)
  | _ => exact h.elim
end
end Mine
namespace Mine
open PySem PyProof.Rows PySem.SeqAt
mutual
theorem toPy_reads {mg : Wd} {γ : List Addr} {h : Heap} {v : Value} : ∀ {V : V} {d : PyData}, Rep mg γ h v V → toPy V = some d → ∃ as, Reads h v d as ∧ d.canLay0 = true
  | .none, d, r, e => by obtain rfl := r; obtain rfl := Option.some.inj e; exact ⟨_, .none, rfl⟩
  | .bool b, d, r, e => by obtain rfl := r; obtain rfl := Option.some.inj e; exact ⟨_, .bool b, rfl⟩
  | .int i, d, r, e => by obtain ⟨t, rfl⟩ := r; obtain rfl := Option.some.inj e; exact ⟨_, .int i t, rfl⟩
  | .str x, d, r, e => by obtain ⟨t, rfl, f⟩ := r; obtain rfl := Option.some.inj e; exact ⟨_, .str x t, f.2⟩
  | .tup l, d, r, e => by
    refine e2_3 r fun a vs e_30 e_31 rs => ?_
    obtain rfl := e_30
    obtain ⟨n, q, z⟩ := e_31
    refine e1_2 (Option.map_eq_some_iff.mp (show (toPys l).map _ = some d from e)) fun ds hd e_32 => ?_
    obtain rfl := e_32
    refine e1_2 (toPys_reads rs hd) fun as ra c => ?_
    exact ⟨as, .tuple q rfl rfl ra, c⟩
  | .ref i, d, r, e => no_some e
  | .fn i, d, r, e => no_some e
  | .ty i, d, r, e => no_some e
  | .bi i, d, r, e => no_some e
  | .scr i, d, r, e => no_some e
  | .bk, d, r, e => no_some e
  | .opq i, d, r, e => no_some e
theorem toPys_reads {mg : Wd} {γ : List Addr} {h : Heap} {vs : List Value} : ∀ {l : List V} {ds : List PyData}, Reps mg γ h vs l → toPys l = some ds → ∃ as, ReadsAll h vs ds as ∧ PyData.canLayAll0 ds = true
  | [], ds, r, e => by obtain rfl := r; obtain rfl := Option.some.inj e; exact ⟨_, .nil, rfl⟩
  | V :: l, ds, r, e => by
    refine e2_3 r fun v r' e_33 a b => ?_
    obtain rfl := e_33
    refine e1_2 (Option.bind_eq_some_iff.mp (show (toPy V).bind _ = some ds from e)) fun d h1 e => ?_
    refine e1_2 (Option.map_eq_some_iff.mp e) fun ds' h2 e_34 => ?_
    obtain rfl := e_34
    refine e1_2 (toPy_reads a h1) fun as q1 c1 => ?_
    refine e1_2 (toPys_reads b h2) fun bs q2 c2 => ?_
    exact ⟨_, .cons q1 q2, by show (d.canLay0 && PyData.canLayAll0 ds') = true; rw [c1, c2]; rfl⟩
end
section
variable {D : Wd} {γ : List Addr} {H : Hp} {s : Shared} {A : Around} {E : Value → Shared → Prop} {k : Nat}
theorem toPyH_reads {v : Value} {V : V} {d : PyData} (R : HRel D γ H s.heap) (r : Rep D γ s.heap v V) (e : toPyH H V = some d) : ∃ as, Reads s.heap v d as ∧ d.canLay0 = true := by
  cases V with
  | ref i =>
    refine e1_2 (Option.map_eq_some_iff.mp (show ((listAt H i).bind toPys).map _ = some d from e)) fun ds hb e_35 => ?_
    obtain rfl := e_35
    refine e1_2 (Option.bind_eq_some_iff.mp hb) fun l hl hd => ?_
    refine e1_2 r fun a hi e_36 => ?_
    obtain rfl := e_36
    refine e2_3 (R.list hi hl) fun vs n q rs z => ?_
    refine e1_2 (toPys_reads rs hd) fun as ra c => ?_
    exact ⟨_, .list q rfl rfl ra, c⟩
  | _ => exact toPy_reads r e
theorem room (hA : AOk D k A) {n m : Nat} (h : n ≤ 60) : A.units + min n m < cLine := by
  have := hA.units
  have : min n m ≤ n := Nat.min_le_left _ _
  show _ < 9900
  lia
theorem room1 (hA : AOk D k A) {n m : Nat} (h : n ≤ 60) : A.units + 1 + min m n < cLine := by
  have := hA.units
  have : min m n ≤ n := Nat.min_le_right _ _
  show _ < 9900
  lia
theorem eqH_some {a b : V} {c : Bool} (h : eqH H a b = some c) : ∃ d e, toPyH H a = some d ∧ toPyH H b = some e ∧ d.depth ≤ 60 ∧ c = PyData.eqv d e := by
  refine e1_2 (Option.bind_eq_some_iff.mp h) fun d h1 h => ?_
  refine e1_2 (Option.bind_eq_some_iff.mp h) fun e h2 h => ?_
  by_cases hd : d.depth ≤ 60
  · rw [if_pos hd] at h; exact ⟨d, e, h1, h2, hd, (Option.some.inj h).symm⟩
  · rw [if_neg hd] at h; exact no_some h
theorem memV_some {a : V} {l : List V} {c : Bool} (h : memV a l = some c) : ∃ d ds, toPy a = some d ∧ toPys l = some ds ∧ d.depth ≤ 60 ∧ c = ds.any fun e => PyData.eqv e d := by
  refine e1_2 (Option.bind_eq_some_iff.mp h) fun d h1 h => ?_
  refine e1_2 (Option.bind_eq_some_iff.mp h) fun e h2 h => ?_
  by_cases hd : d.depth ≤ 60
  · rw [if_pos hd] at h; exact ⟨d, e, h1, h2, hd, (Option.some.inj h).symm⟩
  · rw [if_neg hd] at h; exact no_some h
theorem in_ok {n : Bool} {a b : Value} {Va Vb : V} {P : Bool → Prop} {Q : Value → Shared → Prop} (hA : AOk D k A) (R : HRel D γ H s.heap) (ra : Rep D γ s.heap a Va) (rb : Rep D γ s.heap b Vb) (h : pIn Va Vb H P) (hq : ∀ c, P c → Q (.bool (if n then !c else c)) s) :
    wpAny D.M A (compareOp (if n then .NotIn else .In) a b) Q E s := by
  cases Vb with
  | str x =>
    refine e1_2 (oK_elim h) fun y hy q => ?_
    rw [strV_some hy] at ra
    refine e1_2 ra fun u e_37 _ => ?_
    obtain rfl := e_37
    refine e1_2 rb fun t e_38 _ => ?_
    obtain rfl := e_38
    cases n with
    | true => exact PySem.P.notIn_str (hq _ q)
    | false => exact PySem.P.in_str (hq _ q)
  | tup l =>
    refine e1_2 (oK_elim h) fun c hc q => ?_
    refine e2_4 (memV_some hc) fun d ds h1 h2 hd e_39 => ?_
    obtain rfl := e_39
    refine e1_2 (toPy_reads ra h1) fun as r1 c1 => ?_
    obtain ⟨bs, r2, c2⟩ := toPy_reads (d := .tuple ds) rb (show (toPys l).map PyData.tuple = _ by rw [h2]; rfl)
    cases n with
    | true => exact notIn_tuple_reads r2 r1 c2 c1 (room1 hA hd) (hq _ q)
    | false => exact in_tuple_reads r2 r1 c2 c1 (room1 hA hd) (hq _ q)
  | ref i =>
    refine e1_2 (oK_elim h) fun l hl h => ?_
    refine e1_2 (oK_elim h) fun c hc q => ?_
    refine e2_4 (memV_some hc) fun d ds h1 h2 hd e_40 => ?_
    obtain rfl := e_40
    refine e1_2 (toPy_reads ra h1) fun as r1 c1 => ?_
    obtain ⟨bs, r2, c2⟩ := toPyH_reads (d := .list ds) R rb (show ((listAt H i).bind toPys).map PyData.list = _ by rw [hl]; show (toPys l).map _ = _; rw [h2]; rfl)
    cases n with
    | true => exact notIn_list_reads r2 r1 c2 c1 (room1 hA hd) (hq _ q)
    | false => exact in_list_reads r2 r1 c2 c1 (room1 hA hd) (hq _ q)
  | _ => exact h.elim
theorem isNoneV_eq {v : V} (h : isNoneV v = true) : v = .none := by
  cases v with
  | none => rfl
  | _ => exact Bool.noConfusion h
theorem none_rep {v : Value} : ∀ {V : V}, Rep D γ s.heap v V → (v == Value.none) = isNoneV V
  | .none, r => by obtain rfl := r; rfl
  | .bool _, r => by obtain rfl := r; rfl
  | .int _, ⟨t, e⟩ => by rw [e]; rfl
  | .str _, ⟨t, e, _⟩ => by rw [e]; rfl
  | .tup _, ⟨a, vs, e, _⟩ => by rw [e]; rfl
  | .opq _, ⟨t, e⟩ => by rw [e]; rfl
  | .ref _, ⟨a, _, e⟩ => by rw [e]; rfl
  | .fn _, ⟨a, e, _⟩ => by rw [e]; rfl
  | .ty _, r => by obtain rfl := r; rfl
  | .bi _, r => by obtain rfl := r; rfl
  | .scr _, ⟨a, vs, e, _⟩ => by rw [e]; rfl
  | .bk, r => by obtain rfl := r; rfl
theorem isnot_none {M : Model} {v : Value} {Q : Value → Shared → Prop} (h : Q (.bool (!(v == .none))) s) : wpAny M A (compareOp .IsNot v .none) Q E s := by
  show wpAny M A (do return .bool (!(← isSame v .none))) Q E s
  rw [isSame_none]; exact wpAny_bind (wpAny_pure (wpAny_pure h))
theorem cmp_ok {op : CmpOp} {a b : Value} {Va Vb : V} {Q : V → Hp → Prop} (hA : AOk D k A) (R : HRel D γ H s.heap) (ra : Rep D γ s.heap a Va) (rb : Rep D γ s.heap b Vb) (h : pCmp op Va Vb H Q) :
    wpAny D.M A (compareOp op a b) (PostV D γ s Q) E s := by
  cases op with
  | Eq =>
    refine e1_2 (oK_elim (show oK (eqK H Va Vb) _ from h)) fun c hc q => ?_
    rcases eqK_some hc with ⟨x, y, rfl, rfl, rfl⟩ | hc
    · obtain ⟨t, rfl⟩ := ra; obtain ⟨u, rfl⟩ := rb
      exact eq_str (PostV.here R rep_b q)
    refine e2_4 (eqH_some hc) fun d e h1 h2 hd e_41 => ?_
    obtain rfl := e_41
    refine e1_2 (toPyH_reads R ra h1) fun as r1 c1 => ?_
    refine e1_2 (toPyH_reads R rb h2) fun bs r2 c2 => ?_
    exact compareEq_reads r1 r2 c1 c2 (room hA hd) (PostV.here R rep_b q)
  | NotEq =>
    refine e1_2 (oK_elim (show oK (eqH H Va Vb) _ from h)) fun c hc q => ?_
    refine e2_4 (eqH_some hc) fun d e h1 h2 hd e_42 => ?_
    obtain rfl := e_42
    refine e1_2 (toPyH_reads R ra h1) fun as r1 c1 => ?_
    refine e1_2 (toPyH_reads R rb h2) fun bs r2 c2 => ?_
    exact compareNe_reads r1 r2 c1 c2 (room hA hd) (PostV.here R rep_b q)
  | Lt =>
    refine e2_3 (pInt_elim (show pInt Va Vb _ from h)) fun i j e_43 e_44 h => ?_
    obtain rfl := e_43
    obtain rfl := e_44
    obtain ⟨t, rfl⟩ := ra; obtain ⟨u, rfl⟩ := rb
    exact lt_int (PostV.here R rep_b h)
  | LtE =>
    refine e2_3 (pInt_elim (show pInt Va Vb _ from h)) fun i j e_45 e_46 h => ?_
    obtain rfl := e_45
    obtain rfl := e_46
    obtain ⟨t, rfl⟩ := ra; obtain ⟨u, rfl⟩ := rb
    exact le_int (PostV.here R rep_b h)
  | Gt =>
    refine e2_3 (pInt_elim (show pInt Va Vb _ from h)) fun i j e_47 e_48 h => ?_
    obtain rfl := e_47
    obtain rfl := e_48
    obtain ⟨t, rfl⟩ := ra; obtain ⟨u, rfl⟩ := rb
    exact gt_int (PostV.here R rep_b h)
  | GtE =>
    refine e2_3 (pInt_elim (show pInt Va Vb _ from h)) fun i j e_49 e_50 h => ?_
    obtain rfl := e_49
    obtain rfl := e_50
    obtain ⟨t, rfl⟩ := ra; obtain ⟨u, rfl⟩ := rb
    exact ge_int (PostV.here R rep_b h)
  | In => exact in_ok (n := false) (P := fun c => Q (.bool c) H) hA R ra rb h fun c q => PostV.here R rep_b q
  | NotIn => exact in_ok (n := true) (P := fun c => Q (.bool (!c)) H) hA R ra rb h fun c q => PostV.here R rep_b q
  | Is =>
    obtain ⟨hn, q⟩ := h
    rw [isNoneV_eq hn] at rb
    obtain rfl := rb
    exact is_none (PostV.here R rep_b (by rw [none_rep ra]; exact q))
  | IsNot =>
    obtain ⟨hn, q⟩ := h
    rw [isNoneV_eq hn] at rb
    obtain rfl := rb
    exact isnot_none (PostV.here R rep_b (by rw [none_rep ra]; exact q))
theorem len_ok {v : Value} {n : Int} {Q : V → Hp → Prop} {V : V} (R : HRel D γ H s.heap) (r : Rep D γ s.heap v V)
    (h : (∃ l, V = .tup l ∧ n = (l.length : Int)) ∨ (∃ i l, V = .ref i ∧ listAt H i = some l ∧ n = (l.length : Int))) (q : Q (.int n) H) :
    wpAny D.M A (call (.builtin "len") [v]) (PostV D γ s Q) E s := by
  rcases h with ⟨l, rfl, rfl⟩ | ⟨i, l, rfl, hl, rfl⟩
  · refine e2_3 r fun a vs e_51 t rs => ?_
    obtain rfl := e_51
    have := t.size; have hlen := rs.length
    refine len_tuple t.isTup (by simp; lia) (PostV.now R ?_ q)
    exact Exists.intro (s.toks + 1) (by simp [hlen])
  · refine e1_2 r fun a hi e_52 => ?_
    obtain rfl := e_52
    refine e2_3 (R.list hi hl) fun vs n e rs z => ?_
    have hlen := rs.length
    refine len_list (items := vs.toArray) ⟨_, e, rfl, n, rfl⟩ (by simp; lia) (PostV.now R ?_ q)
    exact Exists.intro (s.toks + 1) (by simp [hlen])
end
end Mine
namespace Mine
open PySem PyProof.Rows PySem.SeqAt
section
variable {D : Wd} {γ : List Addr} {H : Hp} {s : Shared} {A : Around} {E : Value → Shared → Prop} {k : Nat}
theorem isi_ok {v : Value} {t : Ty} {c : Bool} {Q : V → Hp → Prop} {W : V} (R : HRel D γ H s.heap) (r : Rep D γ s.heap v W) (h : isInstH H W t = some c) (q : Q (.bool c) H) :
    wpAny D.M A (call (.builtin "isinstance") [v, .type t.name]) (PostV D γ s Q) E s := by
  cases W with
  | none =>
    obtain rfl := r
    cases t with
    | int => obtain rfl := Option.some.inj h; exact IsiPair.NoneType_int (PostV.now R rep_b q)
    | bool => obtain rfl := Option.some.inj h; exact IsiPair.NoneType_bool (PostV.now R rep_b q)
    | str => obtain rfl := Option.some.inj h; exact IsiPair.NoneType_str (PostV.now R rep_b q)
    | tuple => obtain rfl := Option.some.inj h; exact IsiPair.NoneType_tuple (PostV.now R rep_b q)
    | list => obtain rfl := Option.some.inj h; exact IsiPair.NoneType_list (PostV.now R rep_b q)
    | _ => exact no_some h
  | bool b =>
    obtain rfl := r
    cases t with
    | int => obtain rfl := Option.some.inj h; exact IsiPair.bool_int (PostV.here R rep_b q)
    | bool => obtain rfl := Option.some.inj h; exact IsiPair.bool_bool (PostV.here R rep_b q)
    | str => obtain rfl := Option.some.inj h; exact IsiPair.bool_str (PostV.now R rep_b q)
    | tuple => obtain rfl := Option.some.inj h; exact IsiPair.bool_tuple (PostV.now R rep_b q)
    | list => obtain rfl := Option.some.inj h; exact IsiPair.bool_list (PostV.now R rep_b q)
    | _ => exact no_some h
  | int i =>
    obtain ⟨u, rfl⟩ := r
    cases t with
    | int => obtain rfl := Option.some.inj h; exact IsiPair.int_int (PostV.here R rep_b q)
    | bool => obtain rfl := Option.some.inj h; exact IsiPair.int_bool (PostV.now R rep_b q)
    | str => obtain rfl := Option.some.inj h; exact IsiPair.int_str (PostV.now R rep_b q)
    | tuple => obtain rfl := Option.some.inj h; exact IsiPair.int_tuple (PostV.now R rep_b q)
    | list => obtain rfl := Option.some.inj h; exact IsiPair.int_list (PostV.now R rep_b q)
    | _ => exact no_some h
  | str x =>
    refine e1_2 r fun u e_53 _ => ?_
    obtain rfl := e_53
    cases t with
    | int => obtain rfl := Option.some.inj h; exact IsiPair.str_int (PostV.now R rep_b q)
    | bool => obtain rfl := Option.some.inj h; exact IsiPair.str_bool (PostV.now R rep_b q)
    | str => obtain rfl := Option.some.inj h; exact IsiPair.str_str (PostV.here R rep_b q)
    | tuple => obtain rfl := Option.some.inj h; exact IsiPair.str_tuple (PostV.now R rep_b q)
    | list => obtain rfl := Option.some.inj h; exact IsiPair.str_list (PostV.now R rep_b q)
    | _ => exact no_some h
  | tup l =>
    refine e2_3 r fun a vs e_54 e_55 _ => ?_
    obtain rfl := e_54
    obtain ⟨n, e, _⟩ := e_55
    cases t with
    | int => obtain rfl := Option.some.inj h; exact IsiPair.tuple_int e rfl (PostV.now R rep_b q)
    | bool => obtain rfl := Option.some.inj h; exact IsiPair.tuple_bool e rfl (PostV.now R rep_b q)
    | str => obtain rfl := Option.some.inj h; exact IsiPair.tuple_str e rfl (PostV.now R rep_b q)
    | tuple => obtain rfl := Option.some.inj h; exact IsiPair.tuple_tuple e rfl (PostV.here R rep_b q)
    | list => obtain rfl := Option.some.inj h; exact IsiPair.tuple_list e rfl (PostV.now R rep_b q)
    | _ => exact no_some h
  | ref i =>
    refine e1_2 r fun a hi e_56 => ?_
    obtain rfl := e_56
    have hl0 : ∃ l, listAt H i = some l ∧ c = subTy .list t ∧ isiTy t = true := by
      cases ht : isiTy t with
      | false => unfold isInstH at h; rw [ht] at h; exact no_some h
      | true =>
        unfold isInstH at h; rw [ht] at h
        refine e1_2 (Option.map_eq_some_iff.mp h) fun y h1 h2 => ?_
        refine e1_2 (Option.map_eq_some_iff.mp h1) fun l h3 h4 => ?_
        exact ⟨l, h3, by rw [← h2, ← h4], rfl⟩
    refine e1_3 hl0 fun l hl e_57 ht => ?_
    obtain rfl := e_57
    refine e2_3 (R.list hi hl) fun vs n e rs z => ?_
    cases t with
    | int => exact IsiPair.list_int e rfl (PostV.now R rep_b q)
    | bool => exact IsiPair.list_bool e rfl (PostV.now R rep_b q)
    | str => exact IsiPair.list_str e rfl (PostV.now R rep_b q)
    | tuple => exact IsiPair.list_tuple e rfl (PostV.now R rep_b q)
    | list => exact IsiPair.list_list e rfl (PostV.here R rep_b q)
    | _ => exact Bool.noConfusion ht
  | _ => cases t <;> exact no_some h
theorem boolV_some {v : V} {b : Bool} (h : boolV v = some b) : v = .bool b := by
  cases v with
  | bool _ => exact congrArg V.bool (Option.some.inj h)
  | _ => exact no_some h
theorem allBools_reps {mg : Wd} {h : Heap} : ∀ {l : List V} {bs : List Bool} {vs : List Value}, allBools l = some bs → Reps mg γ h vs l → vs = bs.map Value.bool
  | [], bs, vs, e, r => by obtain rfl := Option.some.inj e; exact r
  | u :: l, bs, vs, e, r => by
    refine e1_2 (Option.bind_eq_some_iff.mp (show (boolV u).bind _ = some bs from e)) fun b hb e => ?_
    refine e1_2 (Option.map_eq_some_iff.mp e) fun cs hc e_58 => ?_
    obtain rfl := e_58
    refine e2_3 r fun v w e_59 a b' => ?_
    obtain rfl := e_59
    rw [boolV_some hb] at a
    obtain rfl := a
    rw [allBools_reps hc b']; rfl
theorem any_ok {i : Nat} {v : Value} {l : List V} {bs : List Bool} {Q : V → Hp → Prop} (hA : AOk D k A) (R : HRel D γ H s.heap) (r : Rep D γ s.heap v (.ref i)) (hl : listAt H i = some l) (hb : allBools l = some bs)
    (q : Q (.bool (bs.any id)) H) : wpAny D.M A (call (.builtin "any") [v]) (PostV D γ s Q) E s := by
  refine e1_2 r fun a hi e_60 => ?_
  obtain rfl := e_60
  refine e2_3 (R.list hi hl) fun vs n e rs z => ?_
  have hvs := allBools_reps hb rs
  subst hvs
  have hL : s.heap.IsList a (bs.map Value.bool).toArray := ⟨_, e, rfl, n, rfl⟩
  refine call_any_walk (wpAny_pyIter_list hL ?_)
  have ha : a ≠ s.heap.objs.size := Nat.ne_of_lt (Heap.lt_size e)
  refine ⟨_, _, _, _, _, _, fun j => bs.getD j false, rfl, Walks.list (by exact hA.handled) s.heap.objs.size a ha (bs.map Value.bool).toArray, ?_, ?_, ?_⟩
  · refine ⟨⟨_, Heap.get?_push_size _ rfl, rfl, rfl⟩, ⟨_, Heap.get?_push_of_some _ e, rfl, n, rfl⟩⟩
  · intro j v s' Q' E' hv hq
    have : v = .bool (bs.getD j false) := by
      rw [List.getElem?_toArray, List.getElem?_map, Option.map_eq_some_iff] at hv
      refine e1_2 hv fun b hb1 e_61 => ?_
      obtain rfl := e_61
      simp [List.getD, hb1]
    subst this
    exact wpAny_truthy_bool hq
  · intro h' tk hk
    have e1 : (List.range (bs.map Value.bool).toArray.size).any (fun j => bs.getD j false) = bs.any id := by
      simp only [List.size_toArray, List.length_map]
      rw [Bool.eq_iff_iff]
      simp only [List.any_eq_true, List.mem_range, id]
      constructor
      · rintro ⟨j, hj, hx⟩
        exact ⟨bs[j], List.getElem_mem hj, by simpa [List.getD, hj] using hx⟩
      · rintro ⟨b, hb', hx⟩
        obtain ⟨j, hj, rfl⟩ := List.getElem_of_mem hb'
        exact ⟨j, hj, by simpa [List.getD, hj] using hx⟩
    have hkk : ∀ b o, s.heap.get? b = some o → h'.get? b = some o := fun b o eb => hk b o (by
      intro hm; simp at hm; subst hm; exact absurd (Heap.lt_size eb) (Nat.lt_irrefl _)) (Heap.get?_push_of_some _ eb)
    rw [e1]
    exact PostV.grown R hkk rep_b q
theorem all_ok {i : Nat} {v : Value} {l : List V} {bs : List Bool} {Q : V → Hp → Prop} (hA : AOk D k A) (R : HRel D γ H s.heap) (r : Rep D γ s.heap v (.ref i)) (hl : listAt H i = some l) (hb : allBools l = some bs)
    (q : Q (.bool (bs.all id)) H) : wpAny D.M A (call (.builtin "all") [v]) (PostV D γ s Q) E s := by
  refine e1_2 r fun a hi e_63 => ?_
  obtain rfl := e_63
  refine e2_3 (R.list hi hl) fun vs n e rs z => ?_
  have hvs := allBools_reps hb rs
  subst hvs
  have hL : s.heap.IsList a (bs.map Value.bool).toArray := ⟨_, e, rfl, n, rfl⟩
  refine call_all_walk (wpAny_pyIter_list hL ?_)
  have ha : a ≠ s.heap.objs.size := Nat.ne_of_lt (Heap.lt_size e)
  refine ⟨_, _, _, _, _, _, fun j => bs.getD j true, rfl, Walks.list (by exact hA.handled) s.heap.objs.size a ha (bs.map Value.bool).toArray, ?_, ?_, ?_⟩
  · refine ⟨⟨_, Heap.get?_push_size _ rfl, rfl, rfl⟩, ⟨_, Heap.get?_push_of_some _ e, rfl, n, rfl⟩⟩
  · intro j v s' Q' E' hv hq
    have : v = .bool (bs.getD j true) := by
      rw [List.getElem?_toArray, List.getElem?_map, Option.map_eq_some_iff] at hv
      refine e1_2 hv fun b hb1 e_64 => ?_
      obtain rfl := e_64
      simp [List.getD, hb1]
    subst this
    exact wpAny_truthy_bool hq
  · intro h' tk hk
    have e1 : (List.range (bs.map Value.bool).toArray.size).all (fun j => bs.getD j true) = bs.all id := by
      simp only [List.size_toArray, List.length_map]
      rw [Bool.eq_iff_iff]
      simp only [List.all_eq_true, List.mem_range, id]
      constructor
      · intro hx b hb'
        obtain ⟨j, hj, rfl⟩ := List.getElem_of_mem hb'
        have := hx j hj
        simpa [List.getD, hj] using this
      · intro hx j hj
        have := hx bs[j] (List.getElem_mem hj)
        simpa [List.getD, hj] using this
    have hkk : ∀ b o, s.heap.get? b = some o → h'.get? b = some o := fun b o eb => hk b o (by
      intro hm; simp at hm; subst hm; exact absurd (Heap.lt_size eb) (Nat.lt_irrefl _)) (Heap.get?_push_of_some _ eb)
    rw [e1]
    exact PostV.grown R hkk rep_b q
theorem int_of_bool_ok {v : Value} {b : Bool} {Q : V → Hp → Prop} (R : HRel D γ H s.heap) (r : Rep D γ s.heap v (.bool b)) (q : Q (.int (if b then 1 else 0)) H) :
    wpAny D.M A (call (.type "int") [v]) (PostV D γ s Q) E s := by
  obtain rfl := r
  exact call_int_bool (PostV.now R rep_i q)
theorem tuple_of_list_ok {v : Value} {i : Nat} {l : List V} {Q : V → Hp → Prop} (R : HRel D γ H s.heap) (r : Rep D γ s.heap v (.ref i)) (hl : listAt H i = some l) (q : Q (.tup l) H) :
    wpAny D.M A (call (.type "tuple") [v]) (PostV D γ s Q) E s := by
  refine e1_2 r fun a hi e_66 => ?_
  obtain rfl := e_66
  refine e2_3 (R.list hi hl) fun vs n e rs z => ?_
  refine call_tuple_list (items := vs.toArray) ⟨_, e, rfl, n, rfl⟩ (fun h' hk => ?_) (by simp [sizeLine_eq]; lia)
  have hk' : ∀ b o, s.heap.get? b = some o → (h'.push { cls := .type "tuple", data := .seq vs.toArray }).get? b = some o := fun b o eb => Heap.get?_push_of_some _ (hk b o eb)
  refine PostV.grown (V := .tup l) (tk := s.toks) R hk' ?_ q
  exact Exists.intro _ ⟨vs, rfl, ⟨0, Heap.get?_push_size _ rfl, z⟩, Reps.mono ⟨[], by simp⟩ (fun _ _ => tupAt_grow hk') rs⟩
theorem list_of_ok {v : Value} {i : Nat} {l : List V} {Q : V → Hp → Prop} (R : HRel D γ H s.heap) (r : Rep D γ s.heap v (.ref i)) (hl : listAt H i = some l) (q : Q (.ref H.length) (H ++ [.list l])) :
    wpAny D.M A (call (.type "list") [v]) (PostV D γ s Q) E s := by
  refine e1_2 r fun a hi e_67 => ?_
  obtain rfl := e_67
  refine e2_3 (R.list hi hl) fun vs n e rs z => ?_
  refine call_list_seq a (T := "list") (items := vs.toArray) (.inl rfl) e rfl rfl (fun h' c' hk hn => ?_) (by rw [sizeLine_eq]; show vs.length ≤ _; lia)
  exact PostV.addList (tk := s.toks) R rs (by rw [← rs.length]; exact z) hk (none_end _) hn q
theorem max_ok {a b : Int} {v u : Value} {Q : V → Hp → Prop} (hA : AOk D k A) (R : HRel D γ H s.heap) (r : Rep D γ s.heap v (.int a)) (r' : Rep D γ s.heap u (.int b)) (q : Q (.int (max a b)) H) :
    wpAny D.M A (call (.builtin "max") [v, u]) (PostV D γ s Q) E s := by
  obtain ⟨t, rfl⟩ := r; obtain ⟨t', rfl⟩ := r'
  refine max_two_ints hA.handled fun h' tk hk => ?_
  by_cases c : b > a
  · rw [if_pos c]
    have e : max a b = b := by lia
    rw [e] at q
    exact PostV.grown R hk rep_i q
  · rw [if_neg c]
    have e : max a b = a := by lia
    rw [e] at q
    exact PostV.grown R hk rep_i q
theorem ints_are : ∀ {l : List V} {ns : List Int} {vs : List Value}, intsOf l = some ns → Reps D γ s.heap vs l → IntsAre vs ns
  | [], ns, vs, h, r => by obtain rfl := Option.some.inj h; obtain rfl := r; exact .nil
  | v :: l, ns, vs, h, r => by
    refine e2_3 r fun w ws e_68 a b => ?_
    obtain rfl := e_68
    refine e1_2 (Option.bind_eq_some_iff.mp (show (intV v).bind _ = some ns from h)) fun i hi h => ?_
    refine e1_2 (Option.map_eq_some_iff.mp h) fun js hj e_69 => ?_
    obtain rfl := e_69
    rw [intV_some hi] at a
    obtain ⟨t, rfl⟩ := a
    exact .cons i t (ints_are hj b)
theorem maxl_ok {i : Nat} {v : Value} {l : List V} {ns : List Int} {Q : V → Hp → Prop} (hA : AOk D k A) (R : HRel D γ H s.heap) (r : Rep D γ s.heap v (.ref i)) (hl : listAt H i = some l) (hn : intsOf l = some ns) (h0 : ns ≠ [])
    (q : ∀ m, m ∈ ns → (∀ x ∈ ns, x ≤ m) → Q (.int m) H) : wpAny D.M A (call (.builtin "max") [v]) (PostV D γ s Q) E s := by
  refine e1_2 r fun a hi e_70 => ?_
  obtain rfl := e_70
  refine e2_3 (R.list hi hl) fun vs n e rs z => ?_
  have hia := ints_are hn rs
  obtain ⟨xs, hx⟩ := hia.allInts.items
  have hnum : xs.toList.map (·.1) = ns := by
    rw [← hia.numsOf, ← nums_intItems, ← hx]
  have hsz : 0 < xs.size := by
    have := congrArg List.length hnum
    rw [List.length_map, Array.length_toList] at this
    have := List.length_pos_iff.mpr h0
    lia
  refine max_intList hA.handled (xs := xs) (by rw [← hx]; exact ⟨_, e, rfl, n, rfl⟩) hsz fun v h' tk hv hk => ?_
  obtain ⟨t, rfl⟩ := intItems_at hv
  obtain ⟨h1, h2⟩ := argBest_gt (numAt xs) (xs.size - 1)
  refine PostV.grown R hk rep_i (q _ ?_ fun x hxm => ?_)
  · rw [numAt_eq, ← hnum]; exact getD_mem (by rw [List.length_map, Array.length_toList]; lia)
  · rw [← hnum] at hxm
    refine e1_2 (mem_getD hxm) fun j hj e_71 => ?_
    obtain rfl := e_71
    rw [List.length_map, Array.length_toList] at hj
    rw [← numAt_eq]; exact h2 j (by lia)
theorem min_ok {a b : Int} {v u : Value} {Q : V → Hp → Prop} (hA : AOk D k A) (R : HRel D γ H s.heap) (r : Rep D γ s.heap v (.int a)) (r' : Rep D γ s.heap u (.int b)) (q : Q (.int (min a b)) H) :
    wpAny D.M A (call (.builtin "min") [v, u]) (PostV D γ s Q) E s := by
  obtain ⟨t, rfl⟩ := r; obtain ⟨t', rfl⟩ := r'
  refine min_two_ints hA.handled fun h' tk hk => ?_
  by_cases c : b < a
  · rw [if_pos c]
    have e : min a b = b := by lia
    rw [e] at q
    exact PostV.grown R hk rep_i q
  · rw [if_neg c]
    have e : min a b = a := by lia
    rw [e] at q
    exact PostV.grown R hk rep_i q
mutual
theorem toPyT_reads {v : Value} (R : HRel D γ H s.heap) : ∀ {V : V} {d : PyData}, Rep D γ s.heap v V → toPyT H V = some d → ∃ as, Reads s.heap v d as ∧ d.canLay0 = true
  | .none, d, r, e => toPy_reads r e
  | .bool b, d, r, e => toPy_reads r e
  | .int i, d, r, e => toPy_reads r e
  | .str x, d, r, e => toPy_reads r e
  | .ref i, d, r, e => toPyH_reads R r e
  | .tup l, d, r, e => by
    refine e2_3 r fun a vs e_72 e_73 rs => ?_
    obtain rfl := e_72
    obtain ⟨n, q, z⟩ := e_73
    refine e1_2 (Option.map_eq_some_iff.mp (show (toPysT H l).map _ = some d from e)) fun ds hd e_74 => ?_
    obtain rfl := e_74
    refine e1_2 (toPysT_reads R rs hd) fun as ra c => ?_
    exact ⟨as, .tuple q rfl rfl ra, c⟩
  | .opq i, d, r, e => no_some e
  | .fn i, d, r, e => no_some e
  | .ty i, d, r, e => no_some e
  | .bi i, d, r, e => no_some e
  | .scr i, d, r, e => no_some e
  | .bk, d, r, e => no_some e
theorem toPysT_reads {vs : List Value} (R : HRel D γ H s.heap) : ∀ {l : List V} {ds : List PyData}, Reps D γ s.heap vs l → toPysT H l = some ds → ∃ as, ReadsAll s.heap vs ds as ∧ PyData.canLayAll0 ds = true
  | [], ds, r, e => by obtain rfl := r; obtain rfl := Option.some.inj e; exact ⟨_, .nil, rfl⟩
  | V :: l, ds, r, e => by
    refine e2_3 r fun v r' e_75 a b => ?_
    obtain rfl := e_75
    refine e1_2 (Option.bind_eq_some_iff.mp (show (toPyT H V).bind _ = some ds from e)) fun d h1 e => ?_
    refine e1_2 (Option.map_eq_some_iff.mp e) fun ds' h2 e_76 => ?_
    obtain rfl := e_76
    refine e1_2 (toPyT_reads R a h1) fun as q1 c1 => ?_
    refine e1_2 (toPysT_reads R b h2) fun bs q2 c2 => ?_
    exact ⟨_, .cons q1 q2, by show (d.canLay0 && PyData.canLayAll0 ds') = true; rw [c1, c2]; rfl⟩
end
theorem repr_ok {v : Value} {W : V} {d : PyData} {Q : V → Hp → Prop} (hA : AOk D k A) (R : HRel D γ H s.heap) (r : Rep D γ s.heap v W) (hd : toPyT H W = some d) (h1 : d.showable = true) (h2 : d.depth ≤ 60) (h3 : d.shown.length ≤ 16000000) (q : Q (.opq d.shown) H) :
    wpAny D.M A (call (.builtin "repr") [v]) (PostV D γ s Q) E s := by
  have ho : ∀ (h : Heap) (x : Str) (t : Tok), Rep D γ h (.str x t) (.opq x) := fun _ x t => Exists.intro t rfl
  have big : ∀ a, v = .ref a → wpAny D.M A (call (.builtin "repr") [v]) (PostV D γ s Q) E s := by
    rintro a rfl
    refine e1_2 (toPyT_reads R r hd) fun as rd c => ?_
    refine repr_of_reads' rd h1 (fun h => by rw [PyData.hasDict_of_canLay d c] at h; cases h) hA.guards (by have := hA.units; show _ < 9900; lia) (fun _ _ e => e) (fun h' u tk hk => ?_) (by rw [sizeLine_eq]; lia)
    exact PostV.grown R hk (ho _ _ u) q
  cases W with
  | none => obtain rfl := r; obtain rfl := Option.some.inj hd; exact P.repr_of_none (PostV.now R (ho _ _ _) q)
  | bool b => obtain rfl := r; obtain rfl := Option.some.inj hd; exact P.repr_of_bool (PostV.now R (ho _ _ _) q)
  | int i => obtain ⟨t, rfl⟩ := r; obtain rfl := Option.some.inj hd; exact P.repr_of_int (of_decide_eq_true h1) (PostV.now R (ho _ _ _) q)
  | str x => obtain ⟨t, rfl, f⟩ := r; obtain rfl := Option.some.inj hd; exact P.repr_of_str (PostV.now R (ho _ _ _) q) (by rw [sizeLine_eq]; show (PyData.shown (.str x)).length ≤ _; lia)
  | tup l => obtain ⟨a, vs, rfl, _⟩ := r; exact big a rfl
  | ref i => obtain ⟨a, _, rfl⟩ := r; exact big a rfl
  | _ => exact no_some hd
theorem len_any {v : Value} {W : V} {Q : V → Hp → Prop} (R : HRel D γ H s.heap) (a : Rep D γ s.heap v W) (h : pLen W H Q) : wpAny D.M A (call (.builtin "len") [v]) (PostV D γ s Q) E s := by
  cases W with
  | tup l => exact len_ok R a (.inl ⟨_, rfl, rfl⟩) h
  | ref i =>
    refine e1_2 (oK_elim h) fun l hl q => ?_
    exact len_ok R a (.inr ⟨_, l, rfl, hl, rfl⟩) q
  | scr ns =>
    obtain ⟨x, ws, rfl, e, hz, hlen, hI⟩ := a
    refine len_list (items := ws.toArray) (let ⟨o, h1, h2, n, h3⟩ := e; ⟨o, R.base _ _ h1, h2, n, h3⟩) (by show (ws.length : Int) < _; lia) (PostV.now R ?_ h)
    exact Exists.intro (s.toks + 1) (by simp [hlen])
  | str x => obtain ⟨t, rfl, f⟩ := a; exact lenStr_ok R f h
  | _ => exact h.elim
theorem ty_ok {b : Ty} {v : Value} {W : V} {Q : V → Hp → Prop} (R : HRel D γ H s.heap) (a : Rep D γ s.heap v W) (h : pTy1 b W H Q) : wpAny D.M A (call (.type b.name) [v]) (PostV D γ s Q) E s := by
  cases b with
  | int =>
    refine e1_2 (oK_elim (show oK (boolV W) _ from h)) fun b hb q => ?_
    rw [boolV_some hb] at a
    exact int_of_bool_ok R a q
  | tuple =>
    refine e1_2 (oK_elim (show oK (refV W) _ from h)) fun i hi h => ?_
    rw [refV_some hi] at a
    refine e1_2 (oK_elim h) fun l hl q => ?_
    exact tuple_of_list_ok R a hl q
  | list =>
    refine e1_2 (oK_elim (show oK (refV W) _ from h)) fun i hi h => ?_
    rw [refV_some hi] at a
    refine e1_2 (oK_elim h) fun l hl q => ?_
    exact list_of_ok R a hl q
  | _ => exact h.elim
theorem call_ok {Φ : Orc} {f : Value} {vals : List Value} {vs : List V} {Q : V → Hp → Prop} {X : XL} {W : V} (hA : AOk D k A) (R : HRel D γ H s.heap) (rf : Rep D γ s.heap f W) (rv : Reps D γ s.heap vals vs)
    (h : pCall Φ W vs H Q X) (hn : ∀ x, W ≠ .fn x) : wpAny D.M A (call f vals) (PostV D γ s Q) (PostX D γ s X) s := by
  cases W with
  | fn x => exact absurd rfl (hn _)
  | bi b =>
    obtain rfl := rf
    cases b with
    | len =>
      refine e1_2 (on1P_elim (show on1P vs _ from h)) fun W e_78 h => ?_
      obtain rfl := e_78
      refine e2_3 rv fun v r e_79 a e_80 => ?_
      obtain rfl := e_79
      obtain rfl := e_80
      exact len_any R a h
    | isinstance =>
      refine e2_2 (on2P_elim (show on2P vs _ from h)) fun W W' e_81 h => ?_
      obtain rfl := e_81
      obtain ⟨v, r, rfl, a, u, r', rfl, b, rfl⟩ := rv
      refine e1_2 (oK_elim h) fun t ht h => ?_
      rw [tyV_some ht] at b
      obtain rfl := b
      refine e1_2 (oK_elim h) fun c hc q => ?_
      exact isi_ok R a hc q
    | any =>
      refine e1_2 (on1P_elim (show on1P vs _ from h)) fun W e_85 h => ?_
      obtain rfl := e_85
      refine e2_3 rv fun v r e_86 a e_87 => ?_
      obtain rfl := e_86
      obtain rfl := e_87
      refine e1_2 (oK_elim h) fun i hi h => ?_
      rw [refV_some hi] at a
      refine e1_2 (oK_elim h) fun l hl h => ?_
      refine e1_2 (oK_elim h) fun bs hb q => ?_
      exact any_ok hA R a hl hb q
    | all =>
      refine e1_2 (on1P_elim (show on1P vs _ from h)) fun W e_88 h => ?_
      obtain rfl := e_88
      refine e2_3 rv fun v r e_89 a e_90 => ?_
      obtain rfl := e_89
      obtain rfl := e_90
      refine e1_2 (oK_elim h) fun i hi h => ?_
      rw [refV_some hi] at a
      refine e1_2 (oK_elim h) fun l hl h => ?_
      refine e1_2 (oK_elim h) fun bs hb q => ?_
      exact all_ok hA R a hl hb q
    | max =>
      have h : pMax vs H Q := h
      cases vs with
      | nil => exact h.elim
      | cons W r => cases r with
        | nil =>
          refine e2_3 rv fun v r e_91 a e_92 => ?_
          obtain rfl := e_91
          obtain rfl := e_92
          refine e1_2 (oK_elim (show oK (refV W) _ from h)) fun i hi h => ?_
          rw [refV_some hi] at a
          refine e1_2 (oK_elim h) fun l hl h => ?_
          refine e1_3 (oK_elim h) fun ns hn h0 q => ?_
          exact maxl_ok hA R a hl hn h0 q
        | cons W' r =>
          obtain ⟨rfl, h⟩ := on0P_elim (show on0P r _ from h)
          obtain ⟨v, r, rfl, a, u, r', rfl, b, rfl⟩ := rv
          refine e2_3 (pInt_elim h) fun i j e_96 e_97 h => ?_
          obtain rfl := e_96
          obtain rfl := e_97
          exact max_ok hA R a b h
    | repr =>
      refine e1_2 (on1P_elim (show on1P vs _ from h)) fun W e_98 h => ?_
      obtain rfl := e_98
      refine e2_3 rv fun v r e_99 a e_100 => ?_
      obtain rfl := e_99
      obtain rfl := e_100
      refine e1_3 (oK_elim h) fun d hd h1 q => ?_
      exact repr_ok hA R a hd h1.1 h1.2.1 h1.2.2 q
    | min =>
      refine e2_2 (on2P_elim (show on2P vs _ from h)) fun W W' e_101 h => ?_
      obtain rfl := e_101
      obtain ⟨v, r, rfl, a, u, r', rfl, b, rfl⟩ := rv
      refine e2_3 (pInt_elim h) fun i j e_105 e_106 h => ?_
      obtain rfl := e_105
      obtain rfl := e_106
      exact min_ok hA R a b h
  | ty b =>
    obtain rfl := rf
    refine e1_2 (on1P_elim (show on1P vs _ from h)) fun W e_107 h => ?_
    obtain rfl := e_107
    refine e2_3 rv fun v r e_108 a e_109 => ?_
    obtain rfl := e_108
    obtain rfl := e_109
    exact ty_ok R a h
  | _ => exact h.elim
theorem append_ok {i : Nat} {o v : Value} {l : List V} {Q : V → Hp → Prop} {W : V} (R : HRel D γ H s.heap) (ro : Rep D γ s.heap o (.ref i)) (r : Rep D γ s.heap v W) (hl : listAt H i = some l) (hz : l.length ≤ 1000000)
    (q : Q .none (H.set i (.list (l ++ [W])))) : wpAny D.M A (call (.builtin "list.append") [o, v]) (PostV D γ s Q) E s := by
  refine e1_2 ro fun a hi e_110 => ?_
  obtain rfl := e_110
  refine e2_3 (R.list hi hl) fun vs n e rs z => ?_
  have hlen := rs.length
  refine wpAny_list_append_plain (items := vs.toArray) ⟨n, e⟩ (fun h' hp hs => ?_) (by simp [sizeLine_eq]; lia)
  obtain ⟨m, hm⟩ := hp
  have em : vs.toArray.push v = (vs ++ [v]).toArray := by simp
  rw [em] at hm
  exact PostV.setList (tk := s.toks) R hi (rs.append (Reps.one r)) (by simp; lia) (fun b o' hb e' => hs.extBut b o' hb e') hm (show Rep _ _ _ _ .none from rfl) q
theorem clear_ok {pos : Pos} {i : Nat} {o : Value} {l : List V} {Q : V → Hp → Prop} (R : HRel D γ H s.heap) (ro : Rep D γ s.heap o (.ref i)) (hl : listAt H i = some l) (q : Q .none (H.set i (.list []))) : wpAny D.M A (callWith pos (.builtin "list.clear") [o] [] []) (PostV D γ s Q) E s := by
  refine e1_2 ro fun a hi e_111 => ?_
  obtain rfl := e_111
  refine e2_3 (R.list hi hl) fun vs n e rs z => ?_
  refine P.clear_list (items := vs.toArray) (n := n) e ?_ (by rw [sizeLine_eq]; show vs.length ≤ _; lia)
  exact PostV.setList (vs := []) (tk := s.toks) R hi (show Reps D γ s.heap [] [] from rfl) (Nat.zero_le _) (fun b o' hb e' => (Heap.SameBut.update ..).extBut b o' hb e') (IsL.update e fun _ => #[]) (show Rep _ _ _ _ .none from rfl) q
theorem reverse_ok {pos : Pos} {i : Nat} {o : Value} {l : List V} {Q : V → Hp → Prop} (R : HRel D γ H s.heap) (ro : Rep D γ s.heap o (.ref i)) (hl : listAt H i = some l) (q : Q .none (H.set i (.list l.reverse))) : wpAny D.M A (callWith pos (.builtin "list.reverse") [o] [] []) (PostV D γ s Q) E s := by
  refine e1_2 ro fun a hi e_112 => ?_
  obtain rfl := e_112
  refine e2_3 (R.list hi hl) fun vs n e rs z => ?_
  refine P.reverse_list (items := vs.toArray) (n := n) e ?_ (by rw [sizeLine_eq]; show vs.length ≤ _; lia)
  have e' := IsL.update e fun x => x.reverse
  have em : vs.toArray.reverse = vs.reverse.toArray := by simp
  simp only [em] at e'
  exact PostV.setList (vs := vs.reverse) (tk := s.toks) R hi rs.reverse (by rw [List.length_reverse, ← rs.length]; exact z) (fun b o' hb e' => (Heap.SameBut.update ..).extBut b o' hb e') e' (show Rep _ _ _ _ .none from rfl) q
theorem strs_are : ∀ {l : List V} {ys : List Str} {vs : List Value}, strsOf l = some ys → Reps D γ s.heap vs l → StrsAre vs ys
  | [], ys, vs, h, r => by obtain rfl := Option.some.inj h; obtain rfl := r; exact .nil
  | v :: l, ys, vs, h, r => by
    refine e2_3 r fun w ws e_113 a b => ?_
    obtain rfl := e_113
    refine e1_2 (Option.bind_eq_some_iff.mp (show (strV v).bind _ = some ys from h)) fun y hy h => ?_
    refine e1_2 (Option.map_eq_some_iff.mp h) fun zs hz e_114 => ?_
    obtain rfl := e_114
    rw [strV_some hy] at a
    refine e1_2 a fun u e_115 _ => ?_
    obtain rfl := e_115
    exact .cons y u (strs_are hz b)
theorem countIn_strs {y : Str} : ∀ {ys : List Str}, Spec.countIn (.str y) (ys.map PyData.str) = ((ys.count y : Nat) : Int)
  | [] => rfl
  | z :: r => by
    show (if Spec.same (.str z) (.str y) then 1 else 0) + Spec.countIn (.str y) (r.map PyData.str) = _
    rw [countIn_strs, List.count_cons]
    show (if (z == y) = true then (1 : Int) else 0) + _ = _
    cases z == y <;> simp <;> lia
theorem count_ok {i : Nat} {o v : Value} {l : List V} {ys : List Str} {y : Str} {Q : V → Hp → Prop} (R : HRel D γ H s.heap) (ro : Rep D γ s.heap o (.ref i)) (r : Rep D γ s.heap v (.str y)) (hl : listAt H i = some l) (hy : strsOf l = some ys)
    (q : Q (.int ((ys.count y : Nat) : Int)) H) : wpAny D.M A (call (.builtin "list.count") [o, v]) (PostV D γ s Q) E s := by
  refine e1_2 ro fun a hi e_116 => ?_
  obtain rfl := e_116
  refine e1_2 r fun t e_117 _ => ?_
  obtain rfl := e_117
  refine e2_3 (R.list hi hl) fun vs n e rs z => ?_
  exact count_list_strs ⟨_, e, rfl, n, rfl⟩ (strs_are hy rs) (PostV.now R rep_i (by rw [countIn_strs]; exact q))
end
end Mine
namespace Mine
open PySem PyProof.Rows
section
variable {D : Wd} {Φ : Orc} {k : Nat}
theorem mapO_cons {α β : Type} {f : α → Option β} {a : α} {r : List α} {l : List β} (h : mapO f (a :: r) = some l) : ∃ b bs, l = b :: bs ∧ f a = some b ∧ mapO f r = some bs := by
  refine e1_2 (Option.bind_eq_some_iff.mp (show (f a).bind _ = some l from h)) fun b h1 h => ?_
  refine e1_2 (Option.map_eq_some_iff.mp h) fun bs h2 h => ?_
  exact ⟨b, bs, h.symm, h1, h2⟩
theorem mapO_nil {α β : Type} {f : α → Option β} {l : List β} (h : mapO f ([] : List α) = some l) : l = [] := (Option.some.inj h).symm
theorem starEach_of {env : Env} {pos : Pos} : ∀ {args : List Expr}, args.any isStar = false → backTo pos (starEach args env) = args.map fun e => (false, eval e env)
  | [], _ => rfl
  | e :: r, h => by
    rw [List.any_cons, Bool.or_eq_false_iff] at h
    have ih := starEach_of (env := env) (pos := pos) h.2
    have e1 : starEach (e :: r) env = (false, eval e env) :: starEach r env := by
      cases e <;> first | rfl | exact Bool.noConfusion h.1
    rw [e1]
    show ((false, eval e env) :: backTo pos (starEach r env)) = _
    rw [ih]; rfl
theorem spliced_ok {c : CC} {n : Nat} (ih : ∀ e ie, compE n c e = some ie → SE D Φ k c e ie) {env : Env} {A : Around} {X : XL} (he : EnvOk c env) (hA : AOk D k A) {L : Lc} : ∀ (args : List Expr) (ies : List IE) (γ : List Addr) (H : Hp) (s : Shared) (Q : List V → Hp → Prop),
    mapO (compE n c) args = some ies → HRel D γ H s.heap → LRel D γ env c.slots s.heap L → wpEs Φ ies L H Q X →
    wpAny D.M A (spliced (args.map fun e => (false, eval e env))) (PostL D γ s Q) (PostX D γ s X) s
  | [], ies, γ, H, s, Q, hm, R, _, h => by
    rw [mapO_nil hm] at h
    exact Calls.spliced_nil ⟨γ, [], H, Stp.refl, R, (show Reps _ _ _ [] [] from rfl), h⟩
  | e :: r, ies, γ, H, s, Q, hm, R, l, h => by
    refine e2_3 (mapO_cons hm) fun b bs e_118 h1 h2 => ?_
    obtain rfl := e_118
    refine Calls.spliced_cons (andThen (ih e b h1 env A γ H s L _ X he hA R l h) ?_)
    intro v s1 γ1 V H1 st R1 rv q
    refine wpAny_mono (spliced_ok ih he hA r bs γ1 H1 s1 _ h2 R1 (l.stp R st) q) (fun vs s2 p => ?_) (fun _ _ x => x.back st R1)
    refine e3_4 p fun γ2 Vs H2 st2 R2 rvs q2 => ?_
    exact ⟨γ2, V :: Vs, H2, st.trans0 R1 st2, R2, Exists.intro v ⟨vs, rfl, rv.stp0 R1 st2, rvs⟩, q2⟩
theorem evalArgs_ok {c : CC} {n : Nat} (ih : ∀ e ie, compE n c e = some ie → SE D Φ k c e ie) {env : Env} {A : Around} {X : XL} (he : EnvOk c env) (hA : AOk D k A) {L : Lc} {args : List Expr} {ies : List IE} {γ : List Addr} {H : Hp} {s : Shared} {Q : List V → Hp → Prop} {f : Value}
    (hm : mapO (compE n c) args = some ies) (R : HRel D γ H s.heap) (l : LRel D γ env c.slots s.heap L) (h : wpEs Φ ies L H Q X) :
    wpAny D.M A (evalArgs f true (args.map fun e => (false, eval e env)) []) (fun a s' => a.kw = [] ∧ PostL D γ s Q a.pos s') (PostX D γ s X) s := by
  have hs := spliced_ok ih he hA args ies γ H s Q hm R l h
  cases args with
  | nil =>
    rw [mapO_nil hm] at h
    exact evalArgs_nil3 ⟨rfl, γ, [], H, Stp.refl, R, (show Reps _ _ _ [] [] from rfl), h⟩
  | cons e r => exact Calls.evalArgs_plain (wpAny_mono hs (fun vs s' p => ⟨rfl, p⟩) fun _ _ x => x)
theorem name_ok {c : CC} {env : Env} {A : Around} {γ : List Addr} {H : Hp} {s : Shared} {L : Lc} {Q : V → Hp → Prop} {X : XL} {x : Str} {pos : Pos} {ie : IE} (g : GOk D c.G c.mts) (he : EnvOk c env) (R : HRel D γ H s.heap) (l : LRel D γ env c.slots s.heap L)
    (hc : nameV c x = some ie) (h : (wp2 Φ ie).E L H Q X) : wpAny D.M A (eval (.Name x pos) env) (PostV D γ s Q) (PostX D γ s X) s := by
  refine e1_2 (Option.bind_eq_some_iff.mp hc) fun kk hk hc => ?_
  obtain ⟨hd, hk⟩ := onlyIf_some hk
  have hd' : (x == ("__debug__" : Str)) = false := bnot hd
  have hkf : env.scope.kind = .function := by rw [he.scope]; exact he.kind
  have hk' : env.kindOf x = some kk := by unfold Env.kindOf; rw [he.scope]; exact hk
  cases kk with
  | globalImplicit =>
    refine e1_2 (Option.map_eq_some_iff.mp hc) fun V hV e_119 => ?_
    obtain rfl := e_119
    refine e1_2 (g.val x V hV) fun v hv rv => ?_
    refine Calls.Name_function_global hkf hk' ?_ hd'
    have rr : Rep D γ s.heap v V := Rep.mono ⟨[], by simp⟩ (fun _ _ => tupAt_grow R.base) (rv γ)
    rcases hv with hv | ⟨hv1, hv2⟩
    · exact Calls.loadGlobal_global (by rw [he.globals]; exact g.gns.keeps R.base) hv (PostV.here R rr h)
    · exact Calls.loadGlobal_builtin (by rw [he.globals]; exact g.gns.keeps R.base) hv1 (by rw [he.builtins]; exact g.bns.keeps R.base) hv2 (PostV.here R rr h)
  | «local» =>
    refine e1_2 (Option.map_eq_some_iff.mp hc) fun i hi e_120 => ?_
    obtain rfl := e_120
    refine e1_2 (oKK_elim h) fun V hL q => ?_
    refine e1_2 (l.ns) fun m hn f => ?_
    refine e1_2 (f x i V hk' hi hL) fun v hv rv => ?_
    exact wpAny_Name (wpAny_loadName_local hkf hk' hn hv (PostV.here R rv q)) hd'
  | cell =>
    refine e1_2 (Option.map_eq_some_iff.mp hc) fun i hi e_121 => ?_
    obtain rfl := e_121
    refine e1_2 (oKK_elim h) fun V hL q => ?_
    refine e2_4 (l.cel x hk') fun ca u hca hcell _ f => ?_
    refine e1_2 (f i V hi hL) fun v e_122 rv => ?_
    obtain rfl := e_122
    exact wpAny_Name (wpAny_loadName_cell hkf hk' hca hcell (PostV.here R rv q)) hd'
  | _ => exact no_some hc
theorem nameV_T {c : CC} {x : Str} {ie : IE} (hc : nameV c x = some ie) : (wp2 Φ ie).T = fun L H Q X => (wp2 Φ ie).E L H (fun v H1 => tX v fun c => Q c H1) X := by
  refine e1_2 (Option.bind_eq_some_iff.mp hc) fun kk _ hc => ?_
  cases kk with
  | globalImplicit => obtain ⟨_, _, rfl⟩ := Option.map_eq_some_iff.mp hc; rfl
  | «local» => obtain ⟨_, _, rfl⟩ := Option.map_eq_some_iff.mp hc; rfl
  | cell => obtain ⟨_, _, rfl⟩ := Option.map_eq_some_iff.mp hc; rfl
  | _ => exact no_some hc
theorem globV_lit {c : CC} {x : Str} {V : V} (h : globV c x = some V) : nameV c x = some (.lit V) := by
  refine e1_2 (Option.bind_eq_some_iff.mp h) fun kk hk h => ?_
  unfold nameV
  rw [hk]
  cases kk with
  | globalImplicit => exact Option.map_eq_some_iff.mpr ⟨V, h, rfl⟩
  | _ => exact no_some h
theorem const_ok {env : Env} {A : Around} {γ : List Addr} {H : Hp} {s : Shared} {Q : V → Hp → Prop} {X : XL} {kk : Const} {n : Nat} {pos : Pos} {W : V} (R : HRel D γ H s.heap) (hc : constV kk = some W) (q : Q W H) :
    wpAny D.M A (eval (.Constant kk n pos) env) (PostV D γ s Q) (PostX D γ s X) s := by
  cases kk with
  | none => obtain rfl := Option.some.inj hc; exact Constant_none (PostV.here R (show Rep _ _ _ _ .none from rfl) q)
  | bool b => obtain rfl := Option.some.inj hc; exact Constant_bool (PostV.here R rep_b q)
  | int i => obtain rfl := Option.some.inj hc; exact wpAny_Constant_int (PostV.now R rep_i q)
  | str x =>
    have hc : (if x.length ≤ 2000000 ∧ PyData.strOk x = true then some (V.str x) else none) = some W := hc
    by_cases hf : x.length ≤ 2000000 ∧ PyData.strOk x = true
    · rw [if_pos hf] at hc
      obtain rfl := Option.some.inj hc; exact Calls.Constant_str (PostV.now R (rep_s hf) q)
    · rw [if_neg hf] at hc; exact no_some hc
  | _ => exact no_some hc
theorem orc_call {D : Wd} {A : Around} {γ : List Addr} {H : Hp} {s : Shared} {Q : V → Hp → Prop} {X : XL} {pos : Pos} {f : Value} {W : V} {trees : List (Bool × Sem Value)} {QL : List V → Hp → Prop} (hO : OrcOk D k Φ) (hA : AOk D k A)
    (R : HRel D γ H s.heap) (rf : Rep D γ s.heap f W) (hp : trees.any (·.1) = false)
    (ha : wpAny D.M A (evalArgs f true trees []) (fun a s' => a.kw = [] ∧ PostL D γ s QL a.pos s') (PostX D γ s X) s)
    (hq : ∀ vs H1, QL vs H1 → pCall Φ W vs H1 Q X) : wpAny D.M A (callWith pos f [] trees []) (PostV D γ s Q) (PostX D γ s X) s := by
  have nonfn : (∀ x, W ≠ .fn x) → ∀ (a : Args) (s1 : Shared), (a.kw = [] ∧ PostL D γ s QL a.pos s1) → wpAny D.M A (call f ([] ++ a.pos) a.kw) (PostV D γ s Q) (PostX D γ s X) s1 := by
    rintro hn ⟨ps, kw⟩ s1 ⟨hk, γ1, Vs, H1, st, R1, rv, q⟩
    simp only at hk; subst hk
    exact backV st R1 (call_ok hA R1 (rf.stp0 R st) rv (hq _ _ q) hn)
  have noway : (∀ vs H1, pCall Φ W vs H1 Q X → False) → wpAny D.M A (callWith pos f [] trees []) (PostV D γ s Q) (PostX D γ s X) s := fun hn => by
    unfold callWith
    refine wpAny_bind (wpAny_holding (wpAny_mono ha (fun b s1 hb => ?_) fun _ _ x => x))
    obtain ⟨_, γ1, Vs, H1, _, _, _, q⟩ := hb
    exact (hn _ _ (hq _ _ q)).elim
  cases W with
  | fn x =>
    refine e1_2 rf fun a e_123 hx => ?_
    obtain rfl := e_123
    have hfun : ∀ (b : Args) (s1 : Shared), (b.kw = [] ∧ PostL D γ s QL b.pos s1) → (∃ o fd, s1.heap.get? a = some o ∧ o.data = .func fd) ∧ wpAny D.M A (call (.ref a) ([] ++ b.pos) b.kw) (PostV D γ s Q) (PostX D γ s X) s1 := by
      rintro ⟨ps, kw⟩ s1 ⟨hk, γ1, Vs, H1, st, R1, rv, q⟩
      simp only at hk; subst hk
      obtain ⟨⟨o, fd, e1, e2⟩, hc⟩ := hO x Vs H1 Q X (hq _ _ q) A γ1 s1 ps a hA.c R1 rv hx
      exact ⟨⟨o, fd, R1.base _ _ e1, e2⟩, backV st R1 hc⟩
    unfold callWith
    refine wpAny_bind (wpAny_holding (wpAny_mono ha (fun b s1 hb => wpAny_bind (wpAny_standAt ?_)) fun _ _ x => x))
    obtain ⟨⟨o, fd, e1, e2⟩, hc⟩ := hfun b s1 hb
    have tail : ∀ {t : Sem Value}, wpAny D.M A t (PostV D γ s Q) (PostX D γ s X) s1 → wpAny D.M A (t >>= fun r => holding [r] point >>= fun _ => pure r) (PostV D γ s Q) (PostX D γ s X) s1 :=
      fun ht => wpAny_bind (wpAny_mono ht (fun r s₂ hr => wpAny_bind (wpAny_holding (wpAny_point (wpAny_pure hr)))) fun _ _ x => x)
    simp only [hp, List.any_nil, Bool.or_false]
    refine wpAny_bind (m := keeperOf (.ref a)) ?_
    unfold keeperOf
    refine wpAny_bind (wpAny_load e1 ?_)
    rw [e2]
    refine wpAny_pure ?_
    refine wpAny_ite ?_
    split
    · exact tail hc
    · exact tail (by unfold callMarked; exact Calls.wpAny_keep hc)
  | ty n =>
    obtain rfl := rf
    exact PyProof.Rows.callWith_type hp (wpAny_mono ha (nonfn (by intro x h; cases h)) fun _ _ x => x)
  | bi n =>
    obtain rfl := rf
    exact Calls.callWith_builtin hp (wpAny_mono ha (nonfn (by intro x h; cases h)) fun _ _ x => x)
  | _ => exact noway fun _ _ q => q
theorem noSlice {i : Expr} {n : Nat} {c : CC} {ie : IE} (h : compE n c i = some ie) : ∀ lo hi st p, i ≠ .Slice lo hi st p := by
  rintro lo hi st p rfl
  cases n <;> exact no_some h
theorem noMarks {r : Expr} {n : Nat} {c : CC} {ie : IE} {op : CmpOp} (h : compE n c r = some ie) : behindInMarks op r = false := by
  cases r <;> first | rfl | (cases n <;> exact no_some h)
theorem ifP_true {A B : Prop} (h : ifP true A B) : A := h
theorem ifP_false {A B : Prop} (h : ifP false A B) : B := h
theorem st_plain {P : Around → Prop} {c : CC} {e : Expr} {ie : IE} (h : SEP P D Φ c e ie) (hT : (wp2 Φ ie).T = fun L H Q X => (wp2 Φ ie).E L H (fun v H1 => tX v fun c => Q c H1) X)
    (he : ∀ env whole, isTrue e env whole = (do let v ← whole; standAt e.pos; holding [v] (truthy v))) : STP P D Φ c e ie := by
  intro env A γ H s L Q X hE hA R l w
  rw [hT] at w
  refine isTrue_plain (andThen (h env A γ H s L _ X hE hA R l w) ?_) (he _ _)
  intro v s1 γ1 V H1 st R1 rv q
  refine e1_2 (tX_elim q) fun b e_124 q => ?_
  obtain rfl := e_124
  exact backB st R1 (truth_ok R1 rv q)
end
end Mine
namespace Mine
open PySem PyProof.Rows
noncomputable def BothP (P : Around → Prop) (D : Wd) (Φ : Orc) (c : CC) (e : Expr) (ie : IE) : Prop := SEP P D Φ c e ie ∧ STP P D Φ c e ie
noncomputable abbrev Both (D : Wd) (Φ : Orc) (k : Nat) (c : CC) (e : Expr) (ie : IE) : Prop := BothP (AOk D k) D Φ c e ie
section
variable {D : Wd} {Φ : Orc} {k : Nat} {c : CC} {P : Around → Prop}
theorem both_plain {e : Expr} {ie : IE} (h : SEP P D Φ c e ie) (hT : (wp2 Φ ie).T = fun L H Q X => (wp2 Φ ie).E L H (fun v H1 => tX v fun c => Q c H1) X)
    (he : ∀ env whole, isTrue e env whole = (do let v ← whole; standAt e.pos; holding [v] (truthy v))) : BothP P D Φ c e ie := ⟨h, st_plain h hT he⟩
theorem e_name (g : GOk D c.G c.mts) {x : Str} {pos : Pos} {ie : IE} (hc : nameV c x = some ie) : BothP P D Φ c (.Name x pos) ie := by
  exact both_plain (fun env A γ H s L Q X hE hA R l w => name_ok g hE R l hc w) (nameV_T hc) (fun _ _ => rfl)
theorem e_const {kk : Const} {n : Nat} {pos : Pos} {W : V} (hc : constV kk = some W) : BothP P D Φ c (.Constant kk n pos) (.lit W) :=
  both_plain (fun _ _ _ _ _ _ _ _ _ _ R _ w => const_ok R hc w) rfl (fun _ _ => rfl)
theorem e_bin {l r : Expr} {op : Operator} {pos : Pos} {a b : IE} (ha : SE D Φ k c l a) (hb : SE D Φ k c r b) : Both D Φ k c (.BinOp l op r pos) (.bin op a b) := by
  refine both_plain (fun env A γ H s L Q X hE hA R lr w => ?_) rfl (fun _ _ => rfl)
  refine wpAny_BinOp (andThen (ha env A γ H s L _ X hE hA R lr w) ?_)
  intro va s1 γ1 Va H1 st R1 ra q
  refine thenV st R1 (hb env A γ1 H1 s1 L _ X hE hA R1 (lr.stp R st) q) ?_
  intro vb s2 γ2 Vb H2 st2 R2 rb q2
  exact backV (st.trans0 R1 st2) R2 (bin_ok R2 (ra.stp0 R1 st2) rb q2)
theorem e_neg {x : Expr} {pos : Pos} {a : IE} (ha : SE D Φ k c x a) : Both D Φ k c (.UnaryOp .USub x pos) (.neg a) := by
  refine both_plain (fun env A γ H s L Q X hE hA R lr w => ?_) rfl (fun _ _ => rfl)
  refine UnaryOp_ (andThen (ha env A γ H s L _ X hE hA R lr w) ?_)
  intro va s1 γ1 Va H1 st R1 ra q
  refine e1_2 (oK_elim q) fun i hi q => ?_
  rw [intV_some hi] at ra
  exact backV st R1 (neg_ok R1 ra q)
theorem e_not {x : Expr} {pos : Pos} {a : IE} (ha : BothP P D Φ c x a) : BothP P D Φ c (.UnaryOp .Not x pos) (.not a) := by
  refine ⟨fun env A γ H s L Q X hE hA R lr w => ?_, fun env A γ H s L Q X hE hA R lr w => ?_⟩
  · refine UnaryOp_ (andThen (ha.1 env A γ H s L _ X hE hA R lr w) ?_)
    intro va s1 γ1 Va H1 st R1 ra q
    refine e1_2 (tX_elim q) fun b e_125 q => ?_
    obtain rfl := e_125
    obtain rfl := ra
    exact not_of (wpAny_truthy_bool ⟨γ1, _, H1, st, R1, rep_b, q⟩)
  · refine isTrue_not (wpAny_mono (ha.2 env A γ H s L _ X hE hA R lr w) (fun d s2 p => ?_) fun _ _ x => x)
    refine e2_3 p fun γ2 H2 st2 R2 q2 => ?_
    exact ⟨γ2, H2, st2, R2, q2⟩
theorem e_cmp {l r : Expr} {op : CmpOp} {pos : Pos} {a b : IE} (ha : SE D Φ k c l a) (hb : SE D Φ k c r b) (hm : behindInMarks op r = false) : Both D Φ k c (.Compare l [op] [r] pos) (.cmp a op b) := by
  have key : ∀ env A γ H s L Q X, EnvOk c env → AOk D k A → HRel D γ H s.heap → LRel D γ env c.slots s.heap L → (wp2 Φ (.cmp a op b)).E L H Q X →
      wpAny D.M A (eval l env) (fun va s₁ => wpAny D.M A (eval r env) (fun vb s₂ => wpAny D.M A (compareOp op va vb) (PostV D γ s Q) (PostX D γ s X) s₂) (PostX D γ s X) s₁) (PostX D γ s X) s := by
    intro env A γ H s L Q X hE hA R lr w
    refine andThen (ha env A γ H s L _ X hE hA R lr w) ?_
    intro va s1 γ1 Va H1 st R1 ra q
    refine thenV st R1 (hb env A γ1 H1 s1 L _ X hE hA R1 (lr.stp R st) q) ?_
    intro vb s2 γ2 Vb H2 st2 R2 rb q2
    exact backV (st.trans0 R1 st2) R2 (cmp_ok hA R2 (ra.stp0 R1 st2) rb q2)
  refine ⟨fun env A γ H s L Q X hE hA R lr w => wpAny_Compare1 (key env A γ H s L Q X hE hA R lr w) hm, fun env A γ H s L Q X hE hA R lr w => wpAny_isTrue_Compare1 ?_ hm⟩
  refine wpAny_mono (key env A γ H s L _ X hE hA R lr w) (fun va s1 p => wpAny_mono p (fun vb s2 p2 => wpAny_mono p2 (fun v s3 p3 => ?_) fun _ _ x => x) fun _ _ x => x) fun _ _ x => x
  refine e3_4 p3 fun γ3 V H3 st3 R3 rv q => ?_
  refine e1_2 (tX_elim q) fun d e_126 q => ?_
  obtain rfl := e_126
  exact backB st3 R3 (truth_ok R3 rv q)
theorem cmp2_head {l r : Expr} {op op' : CmpOp} {a b d : IE} (ha : SE D Φ k c l a) (hb : SE D Φ k c r b) {env : Env} {A : Around} {γ : List Addr} {H : Hp} {s : Shared} {L : Lc} {Q : V → Hp → Prop} {X : XL}
    (hE : EnvOk c env) (hA : AOk D k A) (R : HRel D γ H s.heap) (lr : LRel D γ env c.slots s.heap L) (w : (wp2 Φ (.cmp2 a op b op' d)).E L H Q X) :
    wpAny D.M A (eval l env) (fun va s₁ => wpAny D.M A (eval r env) (fun vb s₂ => wpAny D.M A (compareOp op va vb) (fun cv s₃ => wpAny D.M A (truthy cv) (fun t s₄ =>
      ∃ γ4 Vb H4, Stp [] γ γ4 s s₄ ∧ HRel D γ4 H4 s₄.heap ∧ LRel D γ4 env c.slots s₄.heap L ∧ Rep D γ4 s₄.heap vb Vb ∧ cv = .bool t ∧ ifP t ((wp2 Φ d).E L H4 (fun vc H4 => pCmp op' Vb vc H4 Q) X) (Q (.bool t) H4))
        (PostX D γ s X) s₃) (PostX D γ s X) s₂) (PostX D γ s X) s₁) (PostX D γ s X) s := by
  refine andThen (ha env A γ H s L _ X hE hA R lr w) ?_
  intro va s1 γ1 Va H1 st R1 ra q
  refine thenV st R1 (hb env A γ1 H1 s1 L _ X hE hA R1 (lr.stp R st) q) ?_
  intro vb s2 γ2 Vb H2 st2 R2 rb q2
  have st02 := st.trans0 R1 st2
  refine thenV st02 R2 (cmp_ok (Q := _) (E := PostX D γ2 s2 X) hA R2 (ra.stp0 R1 st2) rb q2) ?_
  intro cv s3 γ3 Vc H3 st3 R3 rc q3
  refine e1_2 (tX_elim q3) fun t e_127 q3 => ?_
  obtain rfl := e_127
  obtain rfl := rc
  have st03 := st02.trans0 R2 st3
  exact wpAny_truthy_bool ⟨γ3, Vb, H3, st03, R3, lr.stp R st03, rb.stp0 R2 st3, rfl, q3⟩
theorem e_cmp2 {l r r' : Expr} {op op' : CmpOp} {pos : Pos} {a b d : IE} (ha : SE D Φ k c l a) (hb : SE D Φ k c r b) (hd : SE D Φ k c r' d) (hm : behindInMarks op' r' = false) :
    Both D Φ k c (.Compare l [op, op'] [r, r'] pos) (.cmp2 a op b op' d) := by
  have hm' : lastMarks [op, op'] [r, r'] = false := hm
  refine ⟨fun env A γ H s L Q X hE hA R lr w => ?_, fun env A γ H s L Q X hE hA R lr w => ?_⟩
  · refine Compare_chain (wpAny_mono (cmp2_head ha hb hE hA R lr w) (fun va s1 h1 => ?_) fun _ _ x => x) hm'
    refine chain_link (wpAny_mono h1 (fun vb s2 h2 => wpAny_mono h2 (fun cv s3 h3 => wpAny_mono h3 (fun t s4 h4 => ?_) fun _ _ x => x) fun _ _ x => x) fun _ _ x => x)
    obtain ⟨γ4, Vb, H4, st, R4, l4, rb, rfl, q⟩ := h4
    cases t with
    | true =>
      refine chain_last (thenV st R4 (hd env A γ4 _ s4 L _ X hE hA R4 l4 q) ?_)
      intro vd s5 γ5 Vd H5 st5 R5 rd q5
      exact backV (st.trans0 R4 st5) R5 (cmp_ok hA R5 (rb.stp0 R4 st5) rd q5)
    | false => exact ⟨γ4, _, H4, st, R4, rep_b, q⟩
  · refine isTrue_chain (wpAny_mono (cmp2_head ha hb hE hA R lr w) (fun va s1 h1 => ?_) fun _ _ x => x) hm'
    refine test_link (wpAny_mono h1 (fun vb s2 h2 => wpAny_mono h2 (fun cv s3 h3 => wpAny_mono h3 (fun t s4 h4 => ?_) fun _ _ x => x) fun _ _ x => x) fun _ _ x => x)
    obtain ⟨γ4, Vb, H4, st, R4, l4, rb, rfl, q⟩ := h4
    cases t with
    | true =>
      refine test_last (thenV st R4 (hd env A γ4 _ s4 L _ X hE hA R4 l4 q) ?_)
      intro vd s5 γ5 Vd H5 st5 R5 rd q5
      refine thenV (st.trans0 R4 st5) R5 (cmp_ok (Q := _) (E := PostX D γ5 s5 X) hA R5 (rb.stp0 R4 st5) rd q5) ?_
      intro v s6 γ6 V6 H6 st6 R6 r6 q6
      refine e1_2 (tX_elim q6) fun t6 e_130 q6 => ?_
      obtain rfl := e_130
      exact backB ((st.trans0 R4 st5).trans0 R5 st6) R6 (truth_ok R6 r6 q6)
    | false => exact ⟨γ4, H4, st, R4, q⟩
theorem e_ite {t a b : Expr} {pos : Pos} {it ia ib : IE} (ht : Both D Φ k c t it) (ha : Both D Φ k c a ia) (hb : Both D Φ k c b ib) : Both D Φ k c (.IfExp t a b pos) (.ite it ia ib) := by
  refine ⟨fun env A γ H s L Q X hE hA R lr w => ?_, fun env A γ H s L Q X hE hA R lr w => ?_⟩
  · refine IfExp_ (andThenB (ht.2 env A γ H s L _ X hE hA R lr w) ?_)
    intro v s1 γ1 H1 st R1 q
    cases v with
    | true => exact backV st R1 (ha.1 env A γ1 H1 s1 L Q X hE hA R1 (lr.stp R st) q)
    | false => exact backV st R1 (hb.1 env A γ1 H1 s1 L Q X hE hA R1 (lr.stp R st) q)
  · refine isTrue_IfExp (andThenB (ht.2 env A γ H s L _ X hE hA R lr w) ?_)
    intro v s1 γ1 H1 st R1 q
    cases v with
    | true => exact backB st R1 (ha.2 env A γ1 H1 s1 L Q X hE hA R1 (lr.stp R st) q)
    | false => exact backB st R1 (hb.2 env A γ1 H1 s1 L Q X hE hA R1 (lr.stp R st) q)
theorem e_and {f : Expr → Option IE} : ∀ {vs : List Expr} {ies : List IE} {pos : Pos} {ie : IE}, (∀ e ie, f e = some ie → BothP P D Φ c e ie) → mapO f vs = some ies → boolGo .and ies = some ie → BothP P D Φ c (.BoolOp .And vs pos) ie
  | [], ies, pos, ie, ih, hm, hb => by rw [mapO_nil hm] at hb; exact no_some hb
  | [e], ies, pos, ie, ih, hm, hb => by
    refine e2_3 (mapO_cons hm) fun b bs e_131 h1 h2 => ?_
    obtain rfl := e_131
    rw [mapO_nil h2] at hb
    obtain rfl := Option.some.inj hb
    have := ih e _ h1
    refine ⟨fun env A γ H s L Q X hE hA R lr w => BoolOp_one (this.1 env A γ H s L Q X hE hA R lr w), fun env A γ H s L Q X hE hA R lr w => ?_⟩
    refine isTrue_and (wpAny_mono (this.2 env A γ H s L Q X hE hA R lr w) (fun t s1 p => ?_) fun _ _ x => x)
    cases t with
    | true => exact isTrue_and_nil p
    | false => exact p
  | e :: e2 :: r, ies, pos, ie, ih, hm, hb => by
    refine e2_3 (mapO_cons hm) fun b bs e_132 h1 h2 => ?_
    obtain rfl := e_132
    refine e2_3 (mapO_cons h2) fun b2 bs2 e_133 h3 h4 => ?_
    obtain rfl := e_133
    refine e1_2 (Option.map_eq_some_iff.mp hb) fun i2 hi2 e_134 => ?_
    obtain rfl := e_134
    have rest := e_and (vs := e2 :: r) (pos := pos) ih h2 hi2
    have one := ih e b h1
    refine ⟨fun env A γ H s L Q X hE hA R lr w => ?_, fun env A γ H s L Q X hE hA R lr w => ?_⟩
    · refine BoolOp_and (andThen (one.1 env A γ H s L _ X hE hA R lr w) ?_)
      intro va s1 γ1 Va H1 st R1 ra q
      refine e1_2 (tX_elim q) fun t e_135 q => ?_
      obtain rfl := e_135
      obtain rfl := ra
      refine wpAny_truthy_bool ?_
      cases t with
      | true => exact backV st R1 (rest.1 env A γ1 H1 s1 L Q X hE hA R1 (lr.stp R st) q)
      | false => exact ⟨γ1, _, H1, st, R1, rep_b, q⟩
    · refine isTrue_and (andThenB (one.2 env A γ H s L _ X hE hA R lr w) ?_)
      intro v s1 γ1 H1 st R1 q
      cases v with
      | true => exact backB st R1 (rest.2 env A γ1 H1 s1 L Q X hE hA R1 (lr.stp R st) q)
      | false => exact ⟨γ1, H1, st, R1, q⟩
theorem e_or {f : Expr → Option IE} : ∀ {vs : List Expr} {ies : List IE} {pos : Pos} {ie : IE}, (∀ e ie, f e = some ie → BothP P D Φ c e ie) → mapO f vs = some ies → boolGo .or ies = some ie → BothP P D Φ c (.BoolOp .Or vs pos) ie
  | [], ies, pos, ie, ih, hm, hb => by rw [mapO_nil hm] at hb; exact no_some hb
  | [e], ies, pos, ie, ih, hm, hb => by
    refine e2_3 (mapO_cons hm) fun b bs e_136 h1 h2 => ?_
    obtain rfl := e_136
    rw [mapO_nil h2] at hb
    obtain rfl := Option.some.inj hb
    have := ih e _ h1
    refine ⟨fun env A γ H s L Q X hE hA R lr w => BoolOp_one (this.1 env A γ H s L Q X hE hA R lr w), fun env A γ H s L Q X hE hA R lr w => ?_⟩
    refine isTrue_or (wpAny_mono (this.2 env A γ H s L Q X hE hA R lr w) (fun t s1 p => ?_) fun _ _ x => x)
    cases t with
    | true => exact p
    | false => exact isTrue_or_nil p
  | e :: e2 :: r, ies, pos, ie, ih, hm, hb => by
    refine e2_3 (mapO_cons hm) fun b bs e_137 h1 h2 => ?_
    obtain rfl := e_137
    refine e2_3 (mapO_cons h2) fun b2 bs2 e_138 h3 h4 => ?_
    obtain rfl := e_138
    refine e1_2 (Option.map_eq_some_iff.mp hb) fun i2 hi2 e_139 => ?_
    obtain rfl := e_139
    have rest := e_or (vs := e2 :: r) (pos := pos) ih h2 hi2
    have one := ih e b h1
    refine ⟨fun env A γ H s L Q X hE hA R lr w => ?_, fun env A γ H s L Q X hE hA R lr w => ?_⟩
    · refine BoolOp_or (andThen (one.1 env A γ H s L _ X hE hA R lr w) ?_)
      intro va s1 γ1 Va H1 st R1 ra q
      refine e1_2 (tX_elim q) fun t e_140 q => ?_
      obtain rfl := e_140
      obtain rfl := ra
      refine wpAny_truthy_bool ?_
      cases t with
      | false => exact backV st R1 (rest.1 env A γ1 H1 s1 L Q X hE hA R1 (lr.stp R st) q)
      | true => exact ⟨γ1, _, H1, st, R1, rep_b, q⟩
    · refine isTrue_or (andThenB (one.2 env A γ H s L _ X hE hA R lr w) ?_)
      intro v s1 γ1 H1 st R1 q
      cases v with
      | false => exact backB st R1 (rest.2 env A γ1 H1 s1 L Q X hE hA R1 (lr.stp R st) q)
      | true => exact ⟨γ1, H1, st, R1, q⟩
theorem e_tup {es : List Expr} {kk : Nat} {pos : Pos} {ies : List IE} {n : Nat} (ih : ∀ e ie, compE n c e = some ie → SE D Φ k c e ie) (hs : es.any isStar = false) (hm : mapO (compE n c) es = some ies) :
    Both D Φ k c (.Tuple es kk pos) (.tup ies) := by
  refine both_plain (fun env A γ H s L Q X hE hA R lr w => ?_) rfl (fun _ _ => rfl)
  refine wpAny_Tuple (wpAny_mono (by rw [starEach_of hs]; exact spliced_ok ih hE hA es ies γ H s _ hm R lr w) (fun vs s1 p => ?_) fun _ _ x => x)
  obtain ⟨γ1, Vs, H1, st, R1, rv, hz, q⟩ := p
  have hl := rv.length
  exact ⟨by rw [sizeLine_eq]; lia, (PostV.newTuple R1 rv (by lia) q).back st R1⟩
theorem e_lst {es : List Expr} {pos : Pos} {ies : List IE} {n : Nat} (ih : ∀ e ie, compE n c e = some ie → SE D Φ k c e ie) (hs : es.any isStar = false) (hm : mapO (compE n c) es = some ies) :
    Both D Φ k c (.List es pos) (.lst ies) := by
  refine both_plain (fun env A γ H s L Q X hE hA R lr w => ?_) rfl (fun _ _ => rfl)
  refine wpAny_List (wpAny_mono (by rw [starEach_of hs]; exact spliced_ok ih hE hA es ies γ H s _ hm R lr w) (fun vs s1 p => ?_) fun _ _ x => x)
  obtain ⟨γ1, Vs, H1, st, R1, rv, hz, q⟩ := p
  have hl := rv.length
  exact ⟨by rw [sizeLine_eq]; lia, (PostV.newList R1 rv (by lia) q).back st R1⟩
theorem e_sub {o i : Expr} {pos : Pos} {a b : IE} (ha : SE D Φ k c o a) (hb : SE D Φ k c i b) (hs : ∀ lo hi st p, i ≠ .Slice lo hi st p) : Both D Φ k c (.Subscript o i pos) (.sub a b) := by
  refine both_plain (fun env A γ H s L Q X hE hA R lr w => ?_) rfl (fun _ _ => rfl)
  refine Subscript_ (andThen (ha env A γ H s L _ X hE hA R lr w) ?_)
  intro va s1 γ1 Va H1 st R1 ra q
  refine thenV st R1 (hb env A γ1 H1 s1 L _ X hE hA R1 (lr.stp R st) q) ?_
  intro vb s2 γ2 Vb H2 st2 R2 rb q2
  exact backV (st.trans0 R1 st2) R2 (sub_ok R2 (ra.stp0 R1 st2) rb q2 hs)
theorem e_call {f : Str} {fp pos : Pos} {args : List Expr} {W : V} {ies : List IE} {n : Nat} (g : GOk D c.G c.mts) (hO : OrcOk D k Φ) (ih : ∀ e ie, compE n c e = some ie → SE D Φ k c e ie) (hs : args.any isStar = false) (hf : globV c f = some W)
    (hm : mapO (compE n c) args = some ies) : Both D Φ k c (.Call (.Name f fp) args [] pos) (.call W ies) := by
  refine both_plain (fun env A γ H s L Q X hE hA R lr w => ?_) rfl (fun _ _ => rfl)
  refine wpAny_Call_ofName (andThen (name_ok (Φ := Φ) (Q := fun V H' => V = W ∧ H' = H) g hE R lr (globV_lit hf) ⟨rfl, rfl⟩) ?_)
  intro vf s1 γ1 Vf H1 st R1 rf q
  obtain ⟨rfl, rfl⟩ := q
  refine backV st R1 ?_
  rw [starEach_of hs]
  refine orc_call (QL := fun vs H' => pCall Φ Vf vs H' Q X) hO hA R1 rf (by simp) (evalArgs_ok ih hE hA hm R1 (lr.stp R st) w) (fun _ _ q => q)
theorem attrBase {o : Expr} {name : Str} {env : Env} (hb : plainBase o = true) : attributeBase o name env (eval o env) = eval o env := by cases o <;> first | rfl | exact Bool.noConfusion hb
theorem e_meth {o a : Expr} {m : Mt} {apos pos : Pos} {io ia : IE} (ho : SE D Φ k c o io) (ha : SE D Φ k c a ia) (hb : plainBase o = true) (hl : apos.endLine = pos.line) (hs : isStar a = false) (h1 : m.one = true) :
    Both D Φ k c (.Call (.Attribute o m.name apos) [a] [] pos) (.meth io m [ia]) := by
  refine both_plain (fun env A γ H s L Q X hE hA R lr w => ?_) rfl (fun _ _ => rfl)
  have e1 : backTo pos (starEach [a] env) = [(false, eval a env)] := by
    rw [starEach_of (by rw [List.any_cons, hs]; rfl)]; rfl
  have run : ∀ (id : String), (∀ {va : Value} {s2 : Shared} {γ2 : List Addr} {H2 : Hp} {Va : V} {x : Value} {i : Nat}, HRel D γ2 H2 s2.heap → Rep D γ2 s2.heap x (.ref i) → Rep D γ2 s2.heap va Va → pMeth (.ref i) m [Va] H2 Q → wpAny D.M A (call (.builtin id) [x, va]) (PostV D γ2 s2 Q) (PostX D γ2 s2 X) s2) →
      wpAny D.M A (eval o env) (fun v s₁ => s₁.TypeIs v "list" ∧ (∀ b, v = .ref b → ∃ ob, s₁.heap.get? b = some ob ∧ ob.dict = none) ∧ wpAny D.M A (callWith pos (.builtin id) [v] [(false, eval a env)] []) (PostV D γ s Q) (PostX D γ s X) s₁) (PostX D γ s X) s := by
    intro id hm
    refine andThen (ho env A γ H s L _ X hE hA R lr w) ?_
    intro vo s1 γ1 Vo H1 st R1 ro q
    obtain ⟨hm1, q⟩ := q
    have hi : ∃ i, Vo = .ref i := by
      cases Vo with
      | ref i => exact ⟨i, rfl⟩
      | _ => exact hm1.elim
    obtain ⟨i, rfl⟩ := hi
    obtain ⟨l0, hl0⟩ := hm1
    have ro2 := ro
    refine e1_2 ro2 fun x hx e_141 => ?_
    obtain rfl := e_141
    refine e2_3 (R1.list hx hl0) fun vs n e rs z => ?_
    refine ⟨⟨_, e, rfl⟩, ⟨fun b eb => ?_, ?_⟩⟩
    · cases eb; exact ⟨_, e, rfl⟩
    refine Calls.callWith_builtin rfl (Calls.evalArgs_plain (Calls.spliced_cons (thenV st R1 (ha env A γ1 H1 s1 L _ X hE hA R1 (lr.stp R st) q) ?_)))
    intro va s2 γ2 Va H2 st2 R2 ra q2
    exact Calls.spliced_nil (backV (st.trans0 R1 st2) R2 (hm R2 (ro.stp0 R1 st2) ra q2))
  cases m with
  | append =>
    refine wpAny_Call_method (attrBase hb) (by rw [e1]; rfl) (beq_iff_eq.mpr hl) F.plainAttrs_list F.slot_list_append F.type_list_append ?_
    rw [e1]
    refine run _ fun {va s2 γ2 H2 Va x i} R2 rx ra q2 => ?_
    refine e1_2 (oK_elim (show oK (listAt H2 i) _ from q2)) fun l hl' q2 => ?_
    have q2 : _ ∧ _ := q2
    exact append_ok R2 rx ra hl' q2.1 q2.2
  | count =>
    refine wpAny_Call_method (attrBase hb) (by rw [e1]; rfl) (beq_iff_eq.mpr hl) F.plainAttrs_list F.slot_list_count F.type_list_count ?_
    rw [e1]
    refine run _ fun {va s2 γ2 H2 Va x i} R2 rx ra q2 => ?_
    refine e1_2 (oK_elim (show oK (listAt H2 i) _ from q2)) fun l hl' q2 => ?_
    refine e1_2 (oK_elim (show oK (strsOf l) _ from q2)) fun ys hy q2 => ?_
    refine e1_2 (oK_elim q2) fun y hv q2 => ?_
    rw [strV_some hv] at ra
    exact count_ok R2 rx ra hl' hy q2
  | _ => exact Bool.noConfusion h1
theorem e_meth0 {o : Expr} {m : Mt} {apos pos : Pos} {io : IE} (ho : SE D Φ k c o io) (hb : plainBase o = true) (hl : apos.endLine = pos.line) (h1 : m.one = false) :
    Both D Φ k c (.Call (.Attribute o m.name apos) [] [] pos) (.meth io m []) := by
  refine both_plain (fun env A γ H s L Q X hE hA R lr w => ?_) rfl (fun _ _ => rfl)
  have run : ∀ (id : String), (∀ {s2 : Shared} {γ2 : List Addr} {H2 : Hp} {x : Value} {i : Nat}, HRel D γ2 H2 s2.heap → Rep D γ2 s2.heap x (.ref i) → pMeth (.ref i) m [] H2 Q → wpAny D.M A (callWith pos (.builtin id) [x] [] []) (PostV D γ2 s2 Q) (PostX D γ2 s2 X) s2) →
      wpAny D.M A (eval o env) (fun v s₁ => s₁.TypeIs v "list" ∧ (∀ b, v = .ref b → ∃ ob, s₁.heap.get? b = some ob ∧ ob.dict = none) ∧ wpAny D.M A (callWith pos (.builtin id) [v] [] []) (PostV D γ s Q) (PostX D γ s X) s₁) (PostX D γ s X) s := by
    intro id hm
    refine andThen (ho env A γ H s L _ X hE hA R lr w) ?_
    intro vo s1 γ1 Vo H1 st R1 ro q
    obtain ⟨hm1, q⟩ := q
    have hi : ∃ i, Vo = .ref i := by
      cases Vo with
      | ref i => exact ⟨i, rfl⟩
      | _ => exact hm1.elim
    obtain ⟨i, rfl⟩ := hi
    obtain ⟨l0, hl0⟩ := hm1
    have ro2 := ro
    refine e1_2 ro2 fun x hx e_142 => ?_
    obtain rfl := e_142
    refine e2_3 (R1.list hx hl0) fun vs n e rs z => ?_
    refine ⟨⟨_, e, rfl⟩, ⟨fun b eb => ?_, ?_⟩⟩
    · cases eb; exact ⟨_, e, rfl⟩
    exact backV st R1 (hm R1 ro q)
  cases m with
  | clear =>
    refine wpAny_Call_method (attrBase hb) rfl (beq_iff_eq.mpr hl) F.plainAttrs_list F.slot_list_clear F.type_list_clear ?_
    refine run _ fun {s2 γ2 H2 x i} R2 rx q2 => ?_
    refine e1_2 (oK_elim (show oK (listAt H2 i) _ from q2)) fun l hl' q2 => ?_
    exact clear_ok R2 rx hl' q2
  | reverse =>
    refine wpAny_Call_method (attrBase hb) rfl (beq_iff_eq.mpr hl) F.plainAttrs_list F.slot_list_reverse F.type_list_reverse ?_
    refine run _ fun {s2 γ2 H2 x i} R2 rx q2 => ?_
    refine e1_2 (oK_elim (show oK (listAt H2 i) _ from q2)) fun l hl' q2 => ?_
    exact reverse_ok R2 rx hl' q2
  | _ => exact Bool.noConfusion h1
theorem inst_at {γ : List Addr} {H : Hp} {h : Heap} {i : Nat} {a : Addr} {p : Nat × List (Str × V)} (R : HRel D γ H h) (hi : γ[i]? = some a) (hp : nsAt H i = some p) :
    ∃ o dx m, h.get? a = some o ∧ o.cls = .ref D.bk ∧ o.dict = some dx ∧ γ[p.1]? = some dx ∧ h.Inst a D.bk m ∧ FsRep D γ h p.2 m ∧ ∀ x, fldOk x = false → m x = none := by
  obtain ⟨h1, h2⟩ := nsAt_some hp
  obtain ⟨o, dx, e, hj, hc, hnc, hd, hne⟩ := R.objs i a _ hi h1
  refine e1_3 (R.objs p.1 dx _ hj h2) fun m hn hf hx => ?_
  exact ⟨o, dx, m, e, hc, hd, hj, ⟨o, e, hc, hnc, .inr ⟨dx, hd, hne, hn⟩⟩, hf, hx⟩
theorem handed {γ : List Addr} {h : Heap} {v : Value} : ∀ {V : V}, Rep D γ h v V → handedOut v = pure v
  | .none, r => by obtain rfl := r; rfl
  | .bool _, r => by obtain rfl := r; rfl
  | .int _, ⟨t, e⟩ => by rw [e]; rfl
  | .str _, ⟨t, e, _⟩ => by rw [e]; rfl
  | .tup _, ⟨a, vs, e, _⟩ => by rw [e]; rfl
  | .ref _, ⟨a, _, e⟩ => by rw [e]; rfl
  | .fn _, ⟨a, e, _⟩ => by rw [e]; rfl
  | .ty _, r => by obtain rfl := r; rfl
  | .bi b, r => by
    obtain rfl := r
    have e : (withoutEnding? b.name "#data").isSome = false := by cases b <;> decide +kernel
    show (if (withoutEnding? b.name "#data").isSome = true then _ else _) = _
    rw [e]; rfl
  | .scr _, ⟨a, vs, e, _⟩ => by rw [e]; rfl
  | .bk, r => by obtain rfl := r; rfl
  | .opq _, ⟨t, e⟩ => by rw [e]; rfl
theorem fld_cases {x : Str} (h : fldOk x = true) : x = "names" ∨ x = "free_rules" ∨ x = "busy_rules" ∨ x = "held" ∨ x = "given" := by
  unfold fldOk at h
  rw [Bool.or_eq_true, Bool.or_eq_true, Bool.or_eq_true, Bool.or_eq_true, beq_iff_eq, beq_iff_eq, beq_iff_eq, beq_iff_eq, beq_iff_eq] at h
  rcases h with (((h | h) | h) | h) | h
  · exact .inl h
  · exact .inr (.inl h)
  · exact .inr (.inr (.inl h))
  · exact .inr (.inr (.inr (.inl h)))
  · exact .inr (.inr (.inr (.inr h)))
theorem fld_obj {x : Str} (h : fldOk x = true) : typeLookup (.type "object") x = pure none := by
  rw [typeLookup_type, builtinLookup_eq_fast]
  rcases fld_cases h with rfl | rfl | rfl | rfl | rfl <;> kernel_rfl
theorem e_attr {o : Expr} {x : Str} {pos : Pos} {io : IE} (g : GOk D c.G c.mts) (ho : SE D Φ k c o io) (hx : fldOk x = true) (hb : plainBase o = true) : Both D Φ k c (.Attribute o x pos) (.attr io x) := by
  refine both_plain (fun env A γ H s L Q X hE hA R lr w => ?_) rfl (fun _ _ => rfl)
  refine Attribute_any_ (andThen (ho env A γ H s L _ X hE hA R lr w) ?_) (by rw [arm_eval_Attribute, attrBase hb])
  intro vo s1 γ1 Vo H1 st R1 ro q
  refine e1_2 (oK_elim q) fun i hi q => ?_
  rw [refV_some hi] at ro
  refine e1_2 (oK_elim q) fun p hp q => ?_
  refine e1_2 (oK_elim q) fun V hV q => ?_
  refine e1_2 ro fun a ha e_143 => ?_
  obtain rfl := e_143
  obtain ⟨o, dx, m, e, hc, hd, hj, I, hf, _⟩ := inst_at R1 ha hp
  refine e1_2 (hf.1 x V hV) fun v hv rv => ?_
  obtain ⟨N, nm, qn, bs, sn, sub, col, dd, k0, k1, k2, k3, k5, hC, hN⟩ := g.bk.cls
  obtain ⟨hh, gg, d, t, os⟩ := s1
  exact load_attr (R1.base _ _ hC) (hN.keeps R1.base) g.bk.noG (g.bk.noF x hx) (fld_obj hx) I hv (handed rv) ((PostV.now (s := ⟨hh, gg, d, t, os⟩) R1 rv q).back st R1)
theorem e_mcall {o : Expr} {m : Str} {apos pos : Pos} {args : List Expr} {io : IE} {ies : List IE} {n : Nat} (g : GOk D c.G c.mts) (hO : OrcOk D k Φ) (ih : ∀ e ie, compE n c e = some ie → SE D Φ k c e ie) (ho : SE D Φ k c o io) (hm : c.mts.contains m = true) (hb : plainBase o = true)
    (hl : apos.endLine = pos.line) (hs : args.any isStar = false) (hf : args.length ≤ 20) (ha : mapO (compE n c) args = some ies) : Both D Φ k c (.Call (.Attribute o m apos) args [] pos) (.mcall io m ies) := by
  refine both_plain (fun env A γ H s L Q X hE hA R lr w => ?_) rfl (fun _ _ => rfl)
  obtain ⟨hfl, ⟨y, hy⟩, fa, of, hmt, hof, hfc, ⟨fd, hfd⟩, hfa⟩ := g.bk.mts m hm
  obtain ⟨N, nm, qn, bs, sn, sub, col, dd, k0, k1, k2, k3, k5, hC, hN⟩ := g.bk.cls
  rw [arm_eval_Call, attrBase hb]
  refine wpAny_bind (andThen (ho env A γ H s L _ X hE hA R lr w) ?_)
  intro vo s1 γ1 Vo H1 st R1 ro q
  refine e1_2 (oK_elim q) fun i hi q => ?_
  rw [refV_some hi] at ro
  refine e1_2 (oK_elim q) fun p hp q => ?_
  refine e1_2 (id ro) fun a hai e_146 => ?_
  obtain rfl := e_146
  obtain ⟨o', dx, mm, e, hc, hd, hj, I, hfs, hno⟩ := inst_at R1 hai hp
  refine wpAny_bind (wpAny_standAt ?_)
  have hform : methodCallForm (args.length + ([] : List Keyword).length) (backTo pos (starEach args env)) (backToKw pos (keywordEach [] env)) = true := by
    rw [starEach_of hs]
    unfold methodCallForm
    rw [Bool.and_eq_true, Bool.and_eq_true]
    exact ⟨⟨by rw [List.all_map]; exact List.all_eq_true.mpr fun _ _ => rfl, rfl⟩, decide_eq_true (show args.length + 0 + 0 < 30 by lia)⟩
  have hpos : methodCallPos true o env apos pos = pure pos := by unfold methodCallPos; rw [hl, beq_self_eq_true]; rfl
  unfold methodCall
  rw [hform, starEach_of hs]
  have hgm : wpAny D.M A (getMethod (.ref a) m (do return (← importBound o env).getD true)) (fun r s' => r = (.ref fa, [.ref a]) ∧ s' = s1) (PostX D γ s X) s1 := by
    obtain ⟨hh, gg, d, t, os⟩ := s1
    exact method_of (R1.base _ _ hC) (hN.keeps R1.base) g.bk.noG g.bk.noH hmt (R1.base _ _ hof) hfc hy I (hno m hfl) ⟨rfl, rfl⟩
  refine wpAny_bind (wpAny_holding (wpAny_mono hgm (fun r s' hr => ?_) fun _ _ x => x))
  obtain ⟨rfl, rfl⟩ := hr
  refine wpAny_bind (wpAny_of_eq hpos ?_)
  refine Calls.callWith_function (o := of) (fd := fd) (wpAny_mono (evalArgs_ok ih hE hA ha R1 (lr.stp R st) q) (fun b s2 hb => ?_) fun _ _ x => x)
  obtain ⟨ps, kw⟩ := b
  obtain ⟨hkw, γ2, Vs, H2, st2, R2, rv, q⟩ := hb
  obtain rfl : kw = [] := hkw
  exact ⟨⟨R2.base _ _ hof, hfd⟩, backV (st.trans0 R1 st2) R2 (hO _ _ H2 Q X q A γ2 s2 (.ref a :: ps) fa hA.c R2 (Exists.intro _ ⟨ps, rfl, ro.stp0 R1 st2, rv⟩) hfa).2⟩
theorem HRel.made {γ : List Addr} {H : Hp} {h h' : Heap} {x dx : Addr} (R : HRel D γ H h) (M : Heap.MadeObj h h' x dx D.bk) : HRel D (γ ++ [dx] ++ [x]) (H ++ [.ns []] ++ [.inst H.length]) h' := by
  refine e1_4 (M.inst) fun o e hc hnc hd => ?_
  have hdx := M.dict o e
  rcases hd with ⟨q, _⟩ | ⟨d', q, hne, hn⟩
  · rw [hdx] at q; exact no_some q.symm
  rw [hdx] at q
  obtain rfl := Option.some.inj q
  refine (R.add (o := .ns []) M.keeps M.newD ⟨_, hn, ⟨fun _ _ h => no_some h, fun _ _ => rfl⟩, fun _ _ => rfl⟩).adopt (fun hm => ?_) (R.nin M.newX).2 ⟨o, dx, e, ?_, hc, hnc, hdx, hne⟩
  · rcases List.mem_append.mp hm with q | q
    · exact (R.nin M.newX).1 q
    · exact hne (List.mem_singleton.mp q).symm
  · rw [List.getElem?_append_left (by rw [List.length_append, ← R.len]; exact Nat.lt_succ_self _), ← R.len, List.getElem?_concat_length]
theorem e_new {x : Str} {np pos : Pos} (g : GOk D c.G c.mts) (hO : OrcOk D k Φ) (hf : globV c x = some .bk) : Both D Φ k c (.Call (.Name x np) [] [] pos) .new := by
  refine both_plain (fun env A γ H s L Q X hE hA R lr w => ?_) rfl (fun _ _ => rfl)
  obtain ⟨N, nm, qn, bs, sn, sub, col, dd, k0, k1, k2, k3, k5, hC, hN⟩ := g.bk.cls
  refine e2_4 (g.bk.init) fun fi oi hmi hoi hfc hfa => ?_
  refine wpAny_Call_ofName (andThen (name_ok (Φ := Φ) (Q := fun V H' => V = .bk ∧ H' = H) g hE R lr (globV_lit hf) ⟨rfl, rfl⟩) ?_)
  intro vf s1 γ1 Vf H1 st R1 rf q
  obtain ⟨rfl, rfl⟩ := q
  obtain rfl := rf
  show wpAny D.M A (callWith pos (.ref D.bk) [] [] []) _ _ _
  unfold callWith
  refine wpAny_bind (wpAny_holding (evalArgs_nil3 (wpAny_bind (wpAny_standAt ?_))))
  refine wpAny_bind (m := keeperOf (.ref D.bk)) ?_
  unfold keeperOf
  refine wpAny_bind (wpAny_load (R1.base _ _ hC) ?_)
  refine wpAny_bind (wpAny_specialOf (T := "type") ⟨_, R1.base _ _ hC, rfl⟩ tc_lookup (wpAny_pure ?_))
  refine wpAny_bind (wpAny_mono (Q := PostV D γ s Q) ?_ (fun r s₂ hr => wpAny_bind (wpAny_holding (wpAny_point (wpAny_pure hr)))) fun _ _ x => x)
  show wpAny D.M A (call (.ref D.bk) []) _ _ _
  obtain ⟨hh, gg, d, t, os⟩ := s1
  refine wpAny_call_obj_init F.objNew (R1.base _ _ hC) (hN.keeps R1.base) hmi (R1.base _ _ hoi) hfc fun h' a dx M => ?_
  have R2 := R1.made M
  have st2 : Stp [] γ1 (γ1 ++ [dx] ++ [a]) ⟨hh, gg, d, t, os⟩ ⟨h', gg, d, t, os⟩ := ⟨⟨_, _, rfl⟩, fun b o _ _ e => M.keeps b o e, ⟨[dx] ++ [a], List.append_assoc _ _ _, fun b hb => by
    rcases List.mem_append.mp hb with q | q
    · rw [List.mem_singleton.mp q]; exact M.newD
    · rw [List.mem_singleton.mp q]; exact M.newX⟩⟩
  have ra : Rep D (γ1 ++ [dx] ++ [a]) h' (.ref a) (.ref (H1.length + 1)) := Exists.intro a ⟨by
    have : H1.length + 1 = (γ1 ++ [dx]).length := by rw [List.length_append, R1.len]; rfl
    rw [this, List.getElem?_concat_length], rfl⟩
  have st02 := st.trans0 R1 st2
  refine wpAny_mono (hO _ _ _ _ X w _ _ ⟨h', gg, d, t, os⟩ [.ref a] fi (hA.under D.bk) R2 (Reps.one ra) hfa).2 (fun r s3 p => ?_) fun _ _ x => x
  obtain ⟨γ3, V3, H3, st3, R3, r3, hnv, q3⟩ := p
  rw [isNoneV_eq hnv] at r3
  exact ⟨r3, γ3, _, H3, st02.trans0 R2 st3, R3, ra.stp0 R2 st3, q3⟩
theorem e_dct {pos : Pos} : Both D Φ k c (.Dict [] [] pos) .dct := by
  refine both_plain (fun env A γ H s L Q X hE hA R lr w => ?_) rfl (fun _ _ => rfl)
  refine wpAny_Dict_empty ?_
  have hk : ∀ b o, s.heap.get? b = some o → (s.heap.push { cls := .type "dict", data := .dict #[] }).get? b = some o := fun _ _ e => Heap.get?_push_of_some _ e
  exact ⟨γ ++ [s.heap.objs.size], .ref H.length, H ++ [.dict []], Stp.add (tk := s.toks) hk (none_end _), R.add (o := .dict []) (H := H) hk (none_end _) ⟨[], Heap.DictOf.new _, ⟨fun _ _ h => no_some h, fun _ _ => rfl⟩, Nat.le_refl _⟩, rep_new R, (show Q (.ref H.length) (H ++ [.dict []]) from w)⟩
end
end Mine
namespace Mine
open PySem PyProof.Rows
section
variable {D : Wd} {γ : List Addr} {H : Hp} {s : Shared} {A : Around} {E : Value → Shared → Prop}
theorem part_lo {h : Heap} {v : Value} {W : V} {a n : Nat} (r : Rep D γ h v W) (hc : cutLo W = some a) (hb : a ≤ n) : ∃ u, IsPart v u ∧ PySem.W.kms_lo u n = a := by
  cases W with
  | none => obtain rfl := r; exact ⟨none, .none, Option.some.inj hc⟩
  | int k =>
    obtain ⟨t, rfl⟩ := r
    refine ⟨some k, .int k t, ?_⟩
    have hc : (if 0 ≤ k then some k.toNat else none) = some a := hc
    by_cases h0 : 0 ≤ k
    · rw [if_pos h0] at hc
      have := Option.some.inj hc
      show (if k < 0 then n - (-k).toNat else min k.toNat n) = a
      rw [if_neg (by lia)]; lia
    · rw [if_neg h0] at hc; exact no_some hc
  | _ => exact no_some hc
theorem part_hi {h : Heap} {v : Value} {W : V} {b n : Nat} (r : Rep D γ h v W) (hc : cutHi n W = some b) (hb : b ≤ n) : ∃ u, IsPart v u ∧ PySem.W.kms_hi u n = b := by
  cases W with
  | none => obtain rfl := r; exact ⟨none, .none, Option.some.inj hc⟩
  | int k =>
    obtain ⟨t, rfl⟩ := r
    refine ⟨some k, .int k t, ?_⟩
    have hc : (if 0 ≤ k then some k.toNat else if k = -1 ∧ 0 < n then some (n - 1) else none) = some b := hc
    show (if k < 0 then n - (-k).toNat else min k.toNat n) = b
    by_cases h0 : 0 ≤ k
    · rw [if_pos h0] at hc
      have := Option.some.inj hc
      rw [if_neg (by lia)]; lia
    · rw [if_neg h0] at hc
      by_cases h1 : k = -1 ∧ 0 < n
      · rw [if_pos h1] at hc
        have := Option.some.inj hc
        rw [if_pos (by lia)]; lia
      · rw [if_neg h1] at hc; exact no_some hc
  | _ => exact no_some hc
theorem post_list {vl vu vt : Value} {zs : List Value} {l : List V} {Q : V → Hp → Prop} (R : HRel D γ H s.heap) (rs : Reps D γ s.heap zs l) (hz : l.length ≤ 2000000) (q : Q (.ref H.length) (H ++ [.list l])) :
    PostV D γ s Q (.ref (s.heap.objs.size + 1)) { s with heap := (s.heap.push { cls := .type "slice", data := .fields #[vl, vu, vt] }).push { cls := .type "list", data := .seq zs.toArray } } := by
  have e1 := Heap.get?_push_size (s.heap.push { cls := .type "slice", data := .fields #[vl, vu, vt] }) (o := { cls := .type "list", data := .seq zs.toArray }) rfl
  rw [Heap.size_push] at e1
  have hn1 : s.heap.get? (s.heap.objs.size + 1) = none := by
    cases q : s.heap.get? (s.heap.objs.size + 1) with
    | none => rfl
    | some o => exact absurd (Heap.lt_size q) (Nat.not_lt.mpr (Nat.le_succ _))
  exact PostV.addList (tk := s.toks) R rs hz (fun b o e => Heap.get?_push_of_some _ (Heap.get?_push_of_some _ e)) hn1 e1 q
theorem cutL_some {lo hi : V} {l m : List V} (h : cutL lo hi l = some m) : ∃ a b, cutLo lo = some a ∧ cutHi l.length hi = some b ∧ a ≤ l.length ∧ b ≤ l.length ∧ m = (l.drop a).take (b - a) := by
  refine e1_2 (Option.bind_eq_some_iff.mp h) fun a ha h => ?_
  refine e1_2 (Option.bind_eq_some_iff.mp h) fun b hb h => ?_
  by_cases hc : a ≤ l.length ∧ b ≤ l.length
  · rw [if_pos hc] at h
    exact ⟨a, b, ha, hb, hc.1, hc.2, (Option.some.inj h).symm⟩
  · rw [if_neg hc] at h; exact no_some h
theorem slice_ok {value : Expr} {lo hi : Option Expr} {p : Pos} {o vl vh : Value} {Vo Vl Vh : V} {Q : V → Hp → Prop} (R : HRel D γ H s.heap) (ro : Rep D γ s.heap o Vo) (rl : Rep D γ s.heap vl Vl) (rh : Rep D γ s.heap vh Vh) (h : pSlice Vo Vl Vh H Q) :
    wpAny D.M A (subscriptTail value (.Slice lo hi none p) o (.ref s.heap.objs.size)) (PostV D γ s Q) E { s with heap := s.heap.push { cls := .type "slice", data := .fields #[vl, vh, .none] } } := by
  refine e1_2 (oK_elim h) fun i hi' h => ?_
  rw [refV_some hi'] at ro
  refine e1_2 (oK_elim h) fun xs h1 h => ?_
  refine e1_2 (oK_elim h) fun ys h2 q => ?_
  obtain ⟨x, y, hx, hy, hxl, hyl, rfl⟩ := cutL_some h2
  refine e1_2 ro fun a hi3 e_148 => ?_
  obtain rfl := e_148
  refine e2_3 (R.list hi3 h1) fun vs m e rs z => ?_
  have hL : s.heap.IsList a vs.toArray := ⟨_, e, rfl, m, rfl⟩
  have hl := rs.length
  refine e1_2 (part_lo rl hx hxl) fun u pu eu => ?_
  refine e1_2 (part_hi rh hy hyl) fun u' pu' eu' => ?_
  refine tail_any (ops := [.ref s.heap.objs.size, .ref a]) (s := { s with heap := s.heap.push { cls := .type "slice", data := .fields #[vl, vh, .none] } }) (hL.push _).typeIs slot_list_getitem.lookup (wpAny_getItem_list_slice (hL.push _) (Heap.IsSliceOf.new ..) pu pu' .none (fun h => nomatch h) ?_ (by rw [sizeLine_eq]; show vs.length ≤ _; lia)) rfl
  rw [Heap.size_push, PySem.W.kms_pick_eq]
  unfold PySem.W.kms_pick
  rw [show vs.toArray.toList = vs from rfl, hl, eu, eu']
  exact post_list R ((rs.drop x).take (y - x)) (by rw [List.length_take, List.length_drop]; lia) q
theorem rev_ok {value : Expr} {st : Option Expr} {p : Pos} {o vk : Value} {Vo : V} {Q : V → Hp → Prop} (R : HRel D γ H s.heap) (ro : Rep D γ s.heap o Vo) (pk : IsPart vk (some (-1))) (h : pRev Vo H Q) :
    wpAny D.M A (subscriptTail value (.Slice none none st p) o (.ref s.heap.objs.size)) (PostV D γ s Q) E { s with heap := s.heap.push { cls := .type "slice", data := .fields #[.none, .none, vk] } } := by
  refine e1_2 (oK_elim h) fun i hi' h => ?_
  rw [refV_some hi'] at ro
  refine e1_2 (oK_elim h) fun xs h1 q => ?_
  refine e1_2 ro fun a hi3 e_149 => ?_
  obtain rfl := e_149
  refine e2_3 (R.list hi3 h1) fun vs m e rs z => ?_
  have hL : s.heap.IsList a vs.toArray := ⟨_, e, rfl, m, rfl⟩
  have hs : ∃ ops, subscripted (.Slice none none st p) false (.ref a) (.ref s.heap.objs.size) = operate ops (getItem (.ref a) (.ref s.heap.objs.size)) := by cases st <;> exact ⟨_, rfl⟩
  obtain ⟨ops, hs⟩ := hs
  refine tail_any (ops := ops) (s := { s with heap := s.heap.push { cls := .type "slice", data := .fields #[.none, .none, vk] } }) (hL.push _).typeIs slot_list_getitem.lookup (wpAny_getItem_list_slice (hL.push _) (Heap.IsSliceOf.new ..) .none .none pk (by decide) ?_ (by rw [sizeLine_eq]; show vs.length ≤ _; lia)) hs
  rw [Heap.size_push, PySem.W.krv_pick]
  exact post_list R rs.reverse (by rw [List.length_reverse, ← rs.length]; exact z) q
end
end Mine
namespace Mine
open PySem PyProof.Rows
structure Itr (D : Wd) (A : Around) (I : Addr) (fp : List Addr) (l : List V) (st : Hp → Prop) (Inv : List Addr → Nat → Heap → Prop) : Prop where
  mem : I ∈ fp
  frame : ∀ γ γ' i h h', Inv γ i h → (∃ δ, γ' = γ ++ δ) → (∀ b ∈ fp, ∀ o, h.get? b = some o → h'.get? b = some o) → (∀ a ws, TupAt h a ws → TupAt h' a ws) → Inv γ' i h'
  notTup : ∀ γ i h ws, Inv γ i h → ¬ TupAt h I ws
  next : ∀ γ H (s : Shared) (i : Nat) (W : V) (Q : Option Value → Shared → Prop) (E : Value → Shared → Prop), l[i]? = some W → HRel D γ H s.heap → I ∉ γ → st H → Inv γ i s.heap →
    (∀ v h' tk, (∃ o, h'.get? I = some o) → (∀ b o, b ≠ I → s.heap.get? b = some o → h'.get? b = some o) → Inv γ (i + 1) h' → Rep D γ h' v W → Q (some v) { s with heap := h', toks := tk }) → wpAny D.M A (pyNext (.ref I)) Q E s
  done : ∀ γ H (s : Shared) (Q : Option Value → Shared → Prop) (E : Value → Shared → Prop), HRel D γ H s.heap → st H → Inv γ l.length s.heap →
    (∀ h' tk, (∀ b o, b ≠ I → s.heap.get? b = some o → h'.get? b = some o) → Q none { s with heap := h', toks := tk }) → wpAny D.M A (pyNext (.ref I)) Q E s
  self : ∀ γ i (s : Shared) (Q : Value → Shared → Prop) (E : Value → Shared → Prop), Inv γ i s.heap → Q (.ref I) s → wpAny D.M A (pyIter (.ref I)) Q E s
  own : ∀ γ i (s : Shared) (T : Addr) (elts : List Expr) (x1 : Nat) (pos : Pos) (Q : Unit → Shared → Prop) (E : Value → Shared → Prop), Inv γ i s.heap → Q () s → wpAny D.M A (letOwnedTupleGo (.Tuple elts x1 pos) (.ref I) (.ref T)) Q E s
theorem own_of {D : Wd} {A : Around} {s : Shared} {I T : Addr} {o : Obj} {n : String} {elts : List Expr} {x1 : Nat} {pos : Pos} {Q : Unit → Shared → Prop} {E : Value → Shared → Prop} (ho : s.heap.get? I = some o) (hc : o.cls = .type n)
    (hn : ["enumerate", "zip", "dict_itemiterator", "dict_reverseitemiterator", "odict_iterator", "itertools.zip_longest", "itertools.pairwise"].contains n = false) (hQ : Q () s) : wpAny D.M A (letOwnedTupleGo (.Tuple elts x1 pos) (.ref I) (.ref T)) Q E s := by
  unfold letOwnedTupleGo
  refine wpAny_bind (wpAny_load ho ?_)
  rw [hc]
  cases o.data with
  | fields vs =>
    show wpAny _ A (if (["enumerate", "zip", "dict_itemiterator", "dict_reverseitemiterator", "odict_iterator", "itertools.zip_longest", "itertools.pairwise"].contains n && vs[0]? == some (rawInt T)) = true then _ else _) Q E s
    rw [hn, Bool.false_and, if_neg Bool.false_ne_true]
    exact wpAny_pure hQ
  | _ => exact wpAny_pure hQ
section
variable {D : Wd} {A : Around} {k : Nat}
theorem tupAt_but {h h' : Heap} {I : Addr} (hk : ∀ b o, b ≠ I → h.get? b = some o → h'.get? b = some o) (hn : ∀ ws, ¬ TupAt h I ws) {a : Addr} {ws : List Value} (x : TupAt h a ws) : TupAt h' a ws := by
  refine e1_2 (id x) fun n e z => ?_
  exact ⟨n, hk _ _ (by rintro rfl; exact hn _ x) e, z⟩
theorem HRel.but {γ : List Addr} {H : Hp} {h h' : Heap} {I : Addr} (R : HRel D γ H h) (hk : ∀ b o, b ≠ I → h.get? b = some o → h'.get? b = some o) (hI : I ∉ γ) (hB : D.hB.get? I = none) (hn : ∀ ws, ¬ TupAt h I ws) : HRel D γ H h' where
  len := R.len
  nodup := R.nodup
  objs := fun i a o e1 e2 => (R.objs i a o e1 e2).mono ⟨[], by simp⟩ (fun _ _ => tupAt_but hk hn) fun ob e => hk a ob (fun q => hI (q ▸ List.mem_of_getElem? e1)) e
  fresh := R.fresh
  base := fun b o e => hk _ _ (by rintro rfl; rw [hB] at e; exact no_some e) (R.base b o e)
noncomputable def rangeInv (I : Addr) (a : Int) (n : Nat) (_ : List Addr) (i : Nat) (h : Heap) : Prop := IsRangeIter h I (a + (i : Int)) ((n : Int) - (i : Int)) 1
theorem itr_range (hA : AOk D k A) (I : Addr) (a : Int) (n : Nat) : Itr D A I [I] ((List.range n).map fun (j : Nat) => V.int (a + (j : Int))) (fun _ => True) (rangeInv I a n) where
  mem := by simp
  frame := fun γ γ' i h h' iv _ hk _ => hk I (by simp) _ iv
  notTup := fun γ i h ws iv t => by
    refine e1_2 t fun m e _ => ?_
    have iv' : h.get? I = some _ := iv
    rw [iv'] at e; simp at e
  next := fun γ H s i W Q E hl R hI _ iv hQ => by
    have hi : i < n := by
      have := (List.getElem?_eq_some_iff.mp hl).1; simpa using this
    rw [List.getElem?_map, List.getElem?_range hi] at hl
    simp at hl
    refine wpAny_pyNext_range_item iv (by lia) fun h' hit hs => hQ _ h' _ ⟨_, hit⟩ (fun b o hb e => hs.extBut b o hb e) ?_ ?_
    · show IsRangeIter h' I (a + ((i + 1 : Nat) : Int)) ((n : Int) - ((i + 1 : Nat) : Int)) 1
      have e1 : a + ((i + 1 : Nat) : Int) = a + (i : Int) + 1 := by lia
      have e2 : (n : Int) - ((i + 1 : Nat) : Int) = (n : Int) - (i : Int) - 1 := by lia
      rw [e1, e2]; exact hit
    · subst hl; exact rep_i
  done := fun γ H s Q E R _ iv hQ => by
    have iv' : IsRangeIter s.heap I (a + (n : Int)) ((n : Int) - (n : Int)) 1 := by
      have : ((List.range n).map fun (j : Nat) => V.int (a + (j : Int))).length = n := by simp
      rw [this] at iv; exact iv
    exact wpAny_pyNext_range_end hA.handled iv' (by lia) fun h' he => hQ h' s.toks fun b o hb e => he b o hb e
  self := fun γ i s Q E iv q => (Walks.range (prog := D.prog) (w := D.w) (A := A) hA.handled I a 1 n).self i s Q E (by
    show IsRangeIter s.heap I (a + (i : Nat) * 1) ((n : Int) - (i : Nat)) 1
    rw [Int.mul_one]; exact iv) q
  own := fun γ i s T elts x1 pos Q E iv q => own_of iv rfl (by decide) q
noncomputable def tupInv (mg : Wd) (I t : Addr) (vs : List Value) (l : List V) (γ : List Addr) (i : Nat) (h : Heap) : Prop :=
  h.IsTupleIter I t i ∧ TupAt h t vs ∧ Reps mg γ h vs l
theorem itr_tup (hA : AOk D k A) (I t : Addr) (hne : t ≠ I) (vs : List Value) (l : List V) : Itr D A I [I, t] l (fun _ => True) (tupInv D I t vs l) where
  mem := by simp
  frame := fun γ γ' i h h' iv hg hk ht => by
    refine e0_3 iv fun e_150 b r => ?_
    obtain ⟨o, e, c, d⟩ := e_150
    exact ⟨⟨o, hk I (by simp) o e, c, d⟩, ht _ _ b, Reps.mono hg ht r⟩
  notTup := fun γ i h ws iv x => by
    obtain ⟨⟨o, e, c, d⟩, _⟩ := iv
    refine e1_2 x fun m e' _ => ?_
    rw [e] at e'; cases e'; simp at c
  next := fun γ H s i W Q E hl R hI _ iv hQ => by
    refine e0_3 iv fun it ta rs => ?_
    have hnt : ∀ ws, ¬ TupAt s.heap I ws := fun ws x => by
      refine e1_3 it fun o e c d => ?_
      refine e1_2 x fun m e' _ => ?_
      rw [e] at e'; cases e'; simp at c
    refine e1_2 (rs.get hl) fun v hv rv => ?_
    refine wpAny_pyNext_tuple_item it ta.isTuple (x := v) (by simpa using hv) fun h' hit hs => ?_
    have hk : ∀ b o, b ≠ I → s.heap.get? b = some o → h'.get? b = some o := fun b o hb e => hs.extBut b o hb e
    have ht : ∀ a ws, TupAt s.heap a ws → TupAt h' a ws := fun _ _ => tupAt_but hk hnt
    exact hQ v h' s.toks (let ⟨o, e, _⟩ := hit; ⟨o, e⟩) hk ⟨hit, ht _ _ ta, Reps.mono ⟨[], by simp⟩ ht rs⟩ (Rep.mono ⟨[], by simp⟩ ht rv)
  done := fun γ H s Q E R _ iv hQ => by
    refine e0_3 iv fun it ta rs => ?_
    exact wpAny_pyNext_tuple_end hA.handled it ta.isTuple (by simp [rs.length]) fun h' he => hQ h' s.toks fun b o hb e => he b o hb e
  self := fun γ i s Q E iv q => (Walks.tuple (prog := D.prog) (w := D.w) (A := A) hA.handled I t hne vs.toArray).self i s Q E ⟨iv.1, iv.2.1.isTuple⟩ q
  own := fun γ i s T elts x1 pos Q E iv q => let ⟨⟨_, e, c, _⟩, _⟩ := iv; own_of e c (by decide) q
noncomputable def lstInv (I a : Addr) (j : Nat) (γ : List Addr) (i : Nat) (h : Heap) : Prop := h.IsListIter I a i ∧ γ[j]? = some a
theorem itr_list (hA : AOk D k A) (I a : Addr) (j : Nat) (l : List V) : Itr D A I [I] l (fun H => listAt H j = some l) (lstInv I a j) where
  mem := by simp
  frame := fun γ γ' i h h' iv hg hk ht => by
    obtain ⟨⟨o, e, c, d⟩, b⟩ := iv
    exact ⟨⟨o, hk I (by simp) o e, c, d⟩, getElem?_ext hg b⟩
  notTup := fun γ i h ws iv x => by
    obtain ⟨⟨o, e, c, d⟩, _⟩ := iv
    refine e1_2 x fun m e' _ => ?_
    rw [e] at e'; cases e'; simp at c
  next := fun γ H s i W Q E hl R hI hst iv hQ => by
    obtain ⟨it, hj⟩ := iv
    have hnt : ∀ ws, ¬ TupAt s.heap I ws := fun ws x => by
      refine e1_3 it fun o e c d => ?_
      refine e1_2 x fun m e' _ => ?_
      rw [e] at e'; cases e'; simp at c
    refine e2_3 (R.list hj hst) fun vs n e rs z => ?_
    refine e1_2 (rs.get hl) fun v hv rv => ?_
    refine wpAny_pyNext_list_item it (items := vs.toArray) ⟨_, e, rfl, n, rfl⟩ (x := v) (by simpa using hv) fun h' hit hs => ?_
    have hk : ∀ b o, b ≠ I → s.heap.get? b = some o → h'.get? b = some o := fun b o hb e => hs.extBut b o hb e
    have ht : ∀ a ws, TupAt s.heap a ws → TupAt h' a ws := fun _ _ => tupAt_but hk hnt
    exact hQ v h' s.toks (let ⟨o, e, _⟩ := hit; ⟨o, e⟩) hk ⟨hit, hj⟩ (Rep.mono ⟨[], by simp⟩ ht rv)
  done := fun γ H s Q E R hst iv hQ => by
    obtain ⟨it, hj⟩ := iv
    refine e2_3 (R.list hj hst) fun vs n e rs z => ?_
    exact wpAny_pyNext_list_end hA.handled it (items := vs.toArray) ⟨_, e, rfl, n, rfl⟩ (by simp [rs.length]) fun h' he => hQ h' s.toks fun b o hb e => he b o hb e
  self := fun γ i s Q E iv q => wpAny_pyIter_listiter iv.1 q
  own := fun γ i s T elts x1 pos Q E iv q => let ⟨⟨_, e, c, _⟩, _⟩ := iv; own_of e c (by decide) q
noncomputable def revInv (I a : Addr) (j : Nat) (l : List V) (γ : List Addr) (i : Nat) (h : Heap) : Prop := h.IsRevIter I a ((l.length : Int) - 1 - (i : Int)) ∧ γ[j]? = some a
theorem itr_rev (hA : AOk D k A) (I a : Addr) (j : Nat) (l : List V) : Itr D A I [I] l.reverse (fun H => listAt H j = some l) (revInv I a j l) where
  mem := by simp
  frame := fun γ γ' i h h' iv hg hk ht => by
    obtain ⟨⟨o, e, c, d⟩, b⟩ := iv
    exact ⟨⟨o, hk I (by simp) o e, c, d⟩, getElem?_ext hg b⟩
  notTup := fun γ i h ws iv x => by
    obtain ⟨⟨o, e, c, d⟩, _⟩ := iv
    refine e1_2 x fun m e' _ => ?_
    rw [e] at e'; cases e'; simp at c
  next := fun γ H s i W Q E hl R hI hst iv hQ => by
    obtain ⟨it, hj⟩ := iv
    have hnt : ∀ ws, ¬ TupAt s.heap I ws := fun ws x => by
      refine e1_3 it fun o e c d => ?_
      refine e1_2 x fun m e' _ => ?_
      rw [e] at e'; cases e'; simp at c
    refine e2_3 (R.list hj hst) fun vs n e rs z => ?_
    have hi : i < l.length := by have := (List.getElem?_eq_some_iff.mp hl).1; simpa using this
    rw [List.getElem?_reverse hi] at hl
    refine e1_2 (rs.get hl) fun v hv rv => ?_
    have e1 : (l.length : Int) - 1 - (i : Int) = ((l.length - 1 - i : Nat) : Int) := by lia
    rw [e1] at it
    refine wpAny_pyNext_rev_item it (items := vs.toArray) ⟨_, e, rfl, n, rfl⟩ (x := v) (by simpa using hv) fun h' hit hs => ?_
    have hk : ∀ b o, b ≠ I → s.heap.get? b = some o → h'.get? b = some o := fun b o hb e => hs.extBut b o hb e
    have ht : ∀ a ws, TupAt s.heap a ws → TupAt h' a ws := fun _ _ => tupAt_but hk hnt
    refine hQ v h' s.toks (let ⟨o, e, _⟩ := hit; ⟨o, e⟩) hk ⟨?_, hj⟩ (Rep.mono ⟨[], by simp⟩ ht rv)
    have e2 : (l.length : Int) - 1 - ((i + 1 : Nat) : Int) = ((l.length - 1 - i : Nat) : Int) - 1 := by lia
    rw [e2]; exact hit
  done := fun γ H s Q E R hst iv hQ => by
    obtain ⟨it, hj⟩ := iv
    have e1 : (l.length : Int) - 1 - ((l.reverse.length : Nat) : Int) = -1 := by simp; lia
    rw [e1] at it
    exact wpAny_pyNext_rev_end hA.handled it fun h' he => hQ h' s.toks fun b o hb e => he b o hb e
  self := fun γ i s Q E iv q => wpAny_pyIter_revIter iv.1 q
  own := fun γ i s T elts x1 pos Q E iv q => let ⟨⟨_, e, c, _⟩, _⟩ := iv; own_of e c (by decide) q
noncomputable def SrcPost (D : Wd) (A : Around) (γ : List Addr) (s : Shared) (K : List V → (Hp → Prop) → Hp → Prop) (it : Value) (s2 : Shared) : Prop :=
  ∃ γ2 H2 I fp l st Inv, it = .ref I ∧ Stp [] γ γ2 s s2 ∧ HRel D γ2 H2 s2.heap ∧ Itr D A I fp l st Inv ∧ Inv γ2 0 s2.heap ∧ (∀ b ∈ fp, b ∉ γ2 ∧ (∃ o, s2.heap.get? b = some o) ∧ (b = I ∨ ∃ ws, TupAt s2.heap b ws)) ∧ s.heap.get? I = none ∧ st H2 ∧ l.length ≤ 2000000 ∧ K l st H2
theorem itr_str (hA : AOk D k A) (I : Addr) (x : Str) (t : Tok) (ha : x.cps.all (· < 128) = true) : Itr D A I [I] (x.cps.toList.map fun c => V.str ⟨#[c]⟩) (fun _ => True) (fun _ i h => h.IsStrIter I "str_ascii_iterator" x t i) where
  mem := by simp
  frame := fun γ γ' i h h' iv _ hk _ => by
    refine e1_3 iv fun o e c d => ?_
    exact ⟨o, hk I (by simp) o e, c, d⟩
  notTup := fun γ i h ws iv q => by
    refine e1_3 iv fun o e c d => ?_
    refine e1_2 q fun m e' _ => ?_
    rw [e] at e'; cases e'; simp at c
  next := fun γ H s i W Q E hl R hI _ iv hQ => by
    rw [List.getElem?_map, Option.map_eq_some_iff] at hl
    refine e1_2 hl fun c hc e_151 => ?_
    obtain rfl := e_151
    have hc' : x.cps[i]? = some c := by simpa using hc
    refine wpAny_pyNext_ascii_item iv hc' fun h' hit hs => ?_
    refine hQ _ h' _ (let ⟨o, e, _⟩ := hit; ⟨o, e⟩) (fun b o hb e => hs.extBut b o hb e) hit ?_
    have hlt : c < 128 := by simpa using (Array.all_eq_true'.mp ha) c (Array.mem_of_getElem? hc')
    exact rep_s ⟨by show 1 ≤ 2000000; decide, strOk_iff.mpr fun d hd => by simp at hd; lia⟩
  done := fun γ H s Q E R _ iv hQ => wpAny_pyNext_ascii_end hA.handled iv (by simp) fun h' he => hQ h' s.toks fun b o hb e => he b o hb e
  self := fun γ i s Q E iv q => wpAny_pyIter_striter_ascii iv q
  own := fun γ i s T elts x1 pos Q E iv q => let ⟨_, e, c, _⟩ := iv; own_of e c (by decide) q
theorem grow_push {s : Shared} (o : Obj) : ∀ b o', s.heap.get? b = some o' → (s.heap.push o).get? b = some o' := fun _ _ e => Heap.get?_push_of_some _ e
theorem nin_end {γ : List Addr} {H : Hp} {s : Shared} (R : HRel D γ H s.heap) : s.heap.objs.size ∉ γ := (R.nin (none_end _)).1
theorem none_back {γ γ0 : List Addr} {H : Hp} {s s0 : Shared} (st : Stp [] γ0 γ s0 s) (R : HRel D γ H s.heap) {a : Addr} (hn : s.heap.get? a = none) : s0.heap.get? a = none := by
  cases q : s0.heap.get? a with
  | none => rfl
  | some o =>
    by_cases hg : a ∈ γ0
    · refine e1_2 (st.ext) fun δ e _ => ?_
      exact absurd (by rw [e]; exact List.mem_append_left _ hg) (R.nin hn).1
    · rw [st.keep _ _ hg (fun h => nomatch h) q] at hn; exact no_some hn.symm
theorem stp_push {γ : List Addr} {s : Shared} {o : Obj} {tk : Nat} : Stp [] γ γ s { s with heap := s.heap.push o, toks := tk } := stp_grow (grow_push o)
theorem fp_one {γ : List Addr} {H : Hp} {s : Shared} {o : Obj} (R : HRel D γ H s.heap) (ho : o.isFreed = false) : ∀ b ∈ [s.heap.objs.size], b ∉ γ ∧ (∃ o', (s.heap.push o).get? b = some o') ∧ (b = s.heap.objs.size ∨ ∃ ws, TupAt (s.heap.push o) b ws) := fun b hb => by
  rw [List.mem_singleton.mp hb]
  exact ⟨nin_end R, ⟨_, Heap.get?_push_size _ ho⟩, .inl rfl⟩
theorem val_src {γ : List Addr} {H : Hp} {s : Shared} {v : Value} {W : V} {K : List V → (Hp → Prop) → Hp → Prop} {E : Value → Shared → Prop} (hA : AOk D k A) (R : HRel D γ H s.heap) (r : Rep D γ s.heap v W)
    (h : pVal W H (fun l st => K l st H)) : wpAny D.M A (pyIter v) (SrcPost D A γ s K) E s := by
  cases W with
  | tup l =>
    replace h : K l (fun _ => True) H := h
    refine e2_3 r fun t vs e_152 ta rs => ?_
    obtain rfl := e_152
    have hlt : t < s.heap.objs.size := by obtain ⟨n, e, _⟩ := ta; exact Heap.lt_size e
    have htg : t ∉ γ := fun hm => (R.alive hm).2 vs ta
    refine wpAny_pyIter_tuple ta.isTuple ?_
    refine ⟨γ, H, s.heap.objs.size, [s.heap.objs.size, t], l, fun _ => True, tupInv D s.heap.objs.size t vs l, rfl, stp_push (tk := s.toks), R.grow (grow_push _), itr_tup hA _ t (Nat.ne_of_lt hlt) vs l, ?_, ?_, none_end _, trivial, by rw [← rs.length]; exact ta.size, h⟩
    · exact ⟨⟨_, Heap.get?_push_size _ rfl, rfl, rfl⟩, tupAt_grow (grow_push _) ta, Reps.mono ⟨[], by simp⟩ (fun _ _ => tupAt_grow (grow_push _)) rs⟩
    · intro b hb
      simp at hb
      rcases hb with rfl | rfl
      · exact ⟨nin_end R, ⟨_, Heap.get?_push_size _ rfl⟩, .inl rfl⟩
      · have ta' := tupAt_grow (grow_push { cls := .type "tuple_iterator", data := .fields #[.ref b, .int 0 0] }) ta
        refine e1_2 (id ta') fun n e _ => ?_
        exact ⟨htg, ⟨_, e⟩, .inr ⟨vs, ta'⟩⟩
  | str x =>
    obtain ⟨ha, h⟩ := h
    refine e1_2 r fun t e_153 f => ?_
    obtain rfl := e_153
    refine wpAny_pyIter_strU ?_
    have ety : strIterType x = "str_ascii_iterator" := by unfold strIterType; rw [ha]; rfl
    rw [ety]
    refine ⟨γ, H, s.heap.objs.size, [s.heap.objs.size], _, fun _ => True, fun _ i h => h.IsStrIter s.heap.objs.size "str_ascii_iterator" x t i, rfl, stp_push (tk := s.toks), R.grow (grow_push _), itr_str hA _ x t ha, ?_, ?_, none_end _, trivial, by simpa using (show x.cps.size ≤ 2000000 from f.1), h⟩
    · exact ⟨_, Heap.get?_push_size _ rfl, rfl, rfl⟩
    · exact fp_one R rfl
  | ref j =>
    refine e1_2 (oK_elim (show oK (listAt H j) _ from h)) fun l hl h => ?_
    refine e1_2 r fun a hj e_154 => ?_
    obtain rfl := e_154
    refine e2_3 (R.list hj hl) fun vs n e rs z => ?_
    refine wpAny_pyIter_list (items := vs.toArray) ⟨_, e, rfl, n, rfl⟩ ?_
    refine ⟨γ, H, s.heap.objs.size, [s.heap.objs.size], l, fun H' => listAt H' j = some l, lstInv s.heap.objs.size a j, rfl, stp_push (tk := s.toks), R.grow (grow_push _), itr_list hA _ a j l, ?_, ?_, none_end _, hl, by rw [← rs.length]; exact z, h⟩
    · exact ⟨⟨_, Heap.get?_push_size _ rfl, rfl, rfl⟩, hj⟩
    · exact fp_one R rfl
  | _ => exact h.elim
theorem range_src {γ : List Addr} {H : Hp} {s s0 : Shared} {r : Addr} {a b : Int} {t u v : Tok} {K : List V → (Hp → Prop) → Hp → Prop} {E : Value → Shared → Prop} {γ0 : List Addr} (hA : AOk D k A) (st : Stp [] γ0 γ s0 s) (R : HRel D γ H s.heap)
    (hr : IsRange s.heap r a b 1 t u v) (ha : -(2 ^ 62) ≤ a) (ha' : a < 2 ^ 62) (hb : -(2 ^ 62) ≤ b) (hb' : b < 2 ^ 62) (hz : b - a ≤ 1000000) (h : K (rangeL a b) (fun _ => True) H) : wpAny D.M A (pyIter (.ref r)) (SrcPost D A γ0 s0 K) E s := by
  refine wpAny_pyIter_range hr (small_one ha ha' hb hb') ?_
  have hsz : Builtin.Range.rangeSize a b 1 = (((b - a).toNat : Nat) : Int) := by rw [rangeSize_one]; split <;> lia
  refine ⟨γ, H, s.heap.objs.size, [s.heap.objs.size], rangeL a b, fun _ => True, rangeInv s.heap.objs.size a (b - a).toNat, rfl, st.trans0 R (stp_push (tk := s.toks)), R.grow (grow_push _), itr_range hA _ a _, ?_, ?_, none_back st R (none_end _), trivial, by simp [rangeL]; lia, h⟩
  · show (s.heap.push _).get? s.heap.objs.size = some _
    rw [Heap.get?_push_size _ rfl, hsz]
    simp
  · exact fp_one R rfl
theorem rev_src {γ : List Addr} {H : Hp} {s s0 : Shared} {x : Value} {j : Nat} {l : List V} {K : List V → (Hp → Prop) → Hp → Prop} {E : Value → Shared → Prop} {γ0 : List Addr} (hA : AOk D k A) (st : Stp [] γ0 γ s0 s) (R : HRel D γ H s.heap)
    (rv : Rep D γ s.heap x (.ref j)) (hl : listAt H j = some l) (h : K l.reverse (fun H' => listAt H' j = some l) H) : wpAny D.M A (call (.type "reversed") [x]) (fun x s1 => wpAny D.M A (pyIter x) (SrcPost D A γ0 s0 K) E s1) E s := by
  refine e1_2 rv fun a hj e_155 => ?_
  obtain rfl := e_155
  refine e2_3 (R.list hj hl) fun vs n e rs z => ?_
  refine call_reversed_list (items := vs.toArray) ⟨_, e, rfl, n, rfl⟩ ?_
  have hit : (s.heap.push (revObj a ((vs.toArray.size : Int) - 1))).IsRevIter s.heap.objs.size a ((l.length : Int) - 1 - ((0 : Nat) : Int)) := by
    refine ⟨_, Heap.get?_push_size _ rfl, rfl, ?_⟩
    simp [revObj, rs.length]
  refine wpAny_pyIter_revIter hit ?_
  refine ⟨γ, H, s.heap.objs.size, [s.heap.objs.size], l.reverse, fun H' => listAt H' j = some l, revInv s.heap.objs.size a j l, rfl, st.trans0 R (stp_push (tk := s.toks)), R.grow (grow_push _), itr_rev hA _ a j l, ⟨hit, hj⟩, fp_one R rfl, none_back st R (none_end _), hl, by rw [List.length_reverse, ← rs.length]; exact z, h⟩
theorem SrcPost.back {γ γ1 : List Addr} {H1 : Hp} {s s1 s2 : Shared} {K : List V → (Hp → Prop) → Hp → Prop} {it : Value} (t : Stp [] γ γ1 s s1) (R : HRel D γ1 H1 s1.heap) (h : SrcPost D A γ1 s1 K it s2) : SrcPost D A γ s K it s2 := by
  obtain ⟨γ2, H2, I, fp, l, st, Inv, e, t2, R2, it, iv, hf, hn, hs, hK⟩ := h
  refine ⟨γ2, H2, I, fp, l, st, Inv, e, t.trans0 R t2, R2, it, iv, hf, ?_, hs, hK⟩
  exact none_back t R hn
end
section
variable {D : Wd} {Φ : Orc} {k : Nat} {c : CC}
theorem src_val {iter : Expr} {ie : IE} {env : Env} {A : Around} {γ : List Addr} {H : Hp} {s : Shared} {L : Lc} {X : XL} {K : List V → (Hp → Prop) → Hp → Prop} (ih : SE D Φ k c iter ie) (hE : EnvOk c env) (hA : AOk D k A) (R : HRel D γ H s.heap)
    (lr : LRel D γ env c.slots s.heap L) (w : (wp2 Φ ie).E L H (fun v H1 => pVal v H1 (fun l st => K l st H1)) X) :
    wpAny D.M A (eval iter env) (fun x s1 => wpAny D.M A (pyIter x) (SrcPost D A γ s K) (PostX D γ s X) s1) (PostX D γ s X) s := by
  refine andThen (ih env A γ H s L _ X hE hA R lr w) ?_
  intro v s1 γ1 V H1 st R1 rv q
  exact wpAny_mono (val_src hA R1 rv q) (fun it s2 p => p.back st R1) fun _ _ x => x
theorem src_call {n : Nat} {g0 : Str} {gp pos : Pos} {as : List Expr} {ies : List IE} {T : Ty} {env : Env} {A : Around} {γ : List Addr} {H : Hp} {s : Shared} {L : Lc} {X : XL} {P : List V → Hp → Prop} {R' : Value → Shared → Prop} (g : GOk D c.G c.mts) (ih : ∀ e ie, compE n c e = some ie → SE D Φ k c e ie)
    (hW : globV c g0 = some (.ty T)) (hs : as.any isStar = false) (ha : mapO (compE n c) as = some ies) (hE : EnvOk c env) (hA : AOk D k A) (R : HRel D γ H s.heap) (lr : LRel D γ env c.slots s.heap L) (w : wpEs Φ ies L H P X)
    (hq : ∀ γ2 H2 s2 xs Ws, Stp [] γ γ2 s s2 → HRel D γ2 H2 s2.heap → Reps D γ2 s2.heap xs Ws → P Ws H2 → wpAny D.M A (call (.type T.name) xs) R' (PostX D γ s X) s2) :
    wpAny D.M A (eval (.Call (.Name g0 gp) as [] pos) env) R' (PostX D γ s X) s := by
  refine wpAny_Call_ofName (andThen (name_ok (Φ := Φ) (Q := fun V H' => V = .ty T ∧ H' = H) g hE R lr (globV_lit hW) ⟨rfl, rfl⟩) ?_)
  intro vf s1 γ1 Vf H1 st R1 rf q
  obtain ⟨rfl, rfl⟩ := q
  obtain rfl := rf
  rw [starEach_of hs]
  refine PyProof.Rows.callWith_type (by simp) (wpAny_mono (evalArgs_ok ih hE hA ha R1 (lr.stp R st) w) (fun b s2 hb => ?_) fun _ _ x => x.back st R1)
  obtain ⟨ps, kw⟩ := b
  obtain ⟨hkw, γ2, Vs, H2, st2, R2, rv, q⟩ := hb
  obtain rfl : kw = [] := hkw
  exact hq γ2 H2 s2 ps Vs (st.trans0 R1 st2) R2 rv q
theorem srcK_some {W : V} {kk : SrcK} (h : srcK W = some kk) : (W = .ty .range ∧ kk = .range) ∨ (W = .ty .reversed ∧ kk = .rev) := by
  cases W with
  | ty t => cases t with
    | range => exact .inl ⟨rfl, (Option.some.inj h).symm⟩
    | reversed => exact .inr ⟨rfl, (Option.some.inj h).symm⟩
    | _ => exact no_some h
  | _ => exact no_some h
theorem src_ok {n : Nat} {iter : Expr} {kk : SrcK} {ie : IE} {env : Env} {A : Around} {γ : List Addr} {H : Hp} {s : Shared} {L : Lc} {X : XL} {K : List V → (Hp → Prop) → Hp → Prop} (g : GOk D c.G c.mts) (ih : ∀ e ie, compE n c e = some ie → SE D Φ k c e ie)
    (hc : compSrc (compE n c) c iter = some (kk, ie)) (hE : EnvOk c env) (hA : AOk D k A) (R : HRel D γ H s.heap)
    (lr : LRel D γ env c.slots s.heap L) (w : (wp2 Φ ie).E L H (fun v H1 => pSrc kk v H1 (fun l st => K l st H1)) X) :
    wpAny D.M A (eval iter env) (fun x s1 => wpAny D.M A (pyIter x) (SrcPost D A γ s K) (PostX D γ s X) s1) (PostX D γ s X) s := by
  unfold compSrc at hc
  cases hs : srcN c iter with
  | none =>
    rw [hs] at hc
    refine e1_2 (Option.map_eq_some_iff.mp hc) fun v hv he => ?_
    cases he
    exact src_val (ih _ _ hv) hE hA R lr w
  | some ka =>
    rw [hs] at hc
    refine e3_2 (onCall_some hs) fun f as p e_156 hs => ?_
    obtain rfl := e_156
    refine e2_2 (onName_some hs) fun g0 px e_157 hs => ?_
    obtain rfl := e_157
    refine e1_2 (Option.map_eq_some_iff.mp hs) fun k' hk e_158 => ?_
    obtain rfl := e_158
    refine e1_2 (Option.bind_eq_some_iff.mp hk) fun W hW hk => ?_
    cases as with
    | nil => exact no_some hc
    | cons a r =>
      obtain ⟨hst, hc⟩ := onlyIf_some (show onlyIf (!isStar a) _ = some (kk, ie) from hc)
      have one : ∀ {v}, compE n c a = some v → mapO (compE n c) [a] = some [v] := fun h => by show (compE n c a).bind _ = _; rw [h]; rfl
      have st1 : [a].any isStar = false := by rw [List.any_cons, bnot hst]; rfl
      rcases srcK_some hk with ⟨rfl, rfl⟩ | ⟨rfl, rfl⟩
      · cases r with
        | nil =>
          refine e1_2 (Option.map_eq_some_iff.mp hc) fun v hv he => ?_
          cases he
          refine src_call (P := fun vs H' => on1P vs fun v => pSrc .range v H' (fun l st => K l st H')) g ih hW st1 (one hv) hE hA R lr w fun γ2 H2 s2 xs Ws st R2 rxs q0 => ?_
          refine e1_2 (on1P_elim q0) fun W e_159 q => ?_
          obtain rfl := e_159
          refine e2_3 rxs fun x r e_160 rx e_161 => ?_
          obtain rfl := e_160
          obtain rfl := e_161
          refine e1_3 (oK_elim (show oK (intV W) _ from q)) fun b hb q2 h => ?_
          rw [intV_some hb] at rx
          obtain ⟨t, rfl⟩ := rx
          exact call_range_1 (range_src (s0 := s) (γ0 := γ) (γ := γ2) (H := H2) hA (st.trans0 R2 stp_push) (R2.grow (grow_push _)) (IsRange.new _ _ _ _ _ _ _) (by decide) (by decide) q2.1 (by lia) (by lia) h)
        | cons b r =>
          obtain ⟨hst2, hc2⟩ := onlyIf_some (show onlyIf (!isStar b && r.isEmpty) _ = some (kk, ie) from hc)
          rw [Bool.and_eq_true] at hst2
          obtain rfl : r = [] := List.isEmpty_iff.mp hst2.2
          refine e2_3 (oTwo_some hc2) fun v v' hv hv' he => ?_
          cases he
          refine src_call (P := fun vs H' => vs.length ≤ 1000000 ∧ pSrc .range2 (.tup vs) H' (fun l st => K l st H')) g ih hW (by rw [List.any_cons, List.any_cons, bnot hst, bnot hst2.1]; rfl) (by show (compE n c a).bind _ = _; rw [hv]; show (((compE n c b).bind _).map _) = _; rw [hv']; rfl) hE hA R lr w fun γ2 H2 s2 xs Ws st R2 rxs q0 => ?_
          refine e2_2 (on2P_elim (show on2P Ws _ from q0.2)) fun W W' e_162 q2 => ?_
          obtain rfl := e_162
          obtain ⟨x, r, rfl, rx, x', r', rfl, rx', rfl⟩ := rxs
          refine e2_4 (pInt_elim q2) fun i j e_166 e_167 q3 h => ?_
          obtain rfl := e_166
          obtain rfl := e_167
          obtain ⟨t, rfl⟩ := rx; obtain ⟨t', rfl⟩ := rx'
          exact call_range_2 (range_src (s0 := s) (γ0 := γ) (γ := γ2) (H := H2) hA (st.trans0 R2 stp_push) (R2.grow (grow_push _)) (IsRange.new _ _ _ _ _ _ _) q3.1 q3.2.1 q3.2.2.1 q3.2.2.2.1 q3.2.2.2.2 h)
      · obtain ⟨hr, hc2⟩ := onlyIf_some (show onlyIf r.isEmpty _ = some (kk, ie) from hc)
        obtain rfl : r = [] := List.isEmpty_iff.mp hr
        refine e1_2 (Option.map_eq_some_iff.mp hc2) fun v hv he => ?_
        cases he
        refine src_call (P := fun vs H' => on1P vs fun v => pSrc .rev v H' (fun l st => K l st H')) g ih hW st1 (one hv) hE hA R lr w fun γ2 H2 s2 xs Ws st R2 rxs q0 => ?_
        refine e1_2 (on1P_elim q0) fun W e_168 q => ?_
        obtain rfl := e_168
        refine e2_3 rxs fun x r e_169 rx e_170 => ?_
        obtain rfl := e_169
        obtain rfl := e_170
        refine e1_2 (oK_elim (show oK (refV W) _ from q)) fun j hj q2 => ?_
        rw [refV_some hj] at rx
        refine e1_2 (oK_elim q2) fun l hl q3 => ?_
        exact rev_src hA st R2 rx hl q3
end
end Mine
namespace Mine
open PySem PyProof.Rows
noncomputable def closGo (env : Env) : List (Str × NameKind) → List (Str × Addr) → List (Str × Addr)
  | [], acc => acc
  | (n, k) :: r, acc => if k == .free then (match env.cells.lookup n with | some a => closGo env r ((n, a) :: acc) | none => closGo env r acc) else closGo env r acc
theorem closGo_eq {env : Env} : ∀ (names : List (Str × NameKind)) (acc : List (Str × Addr)), (∀ x ∈ names, x.2 = .free → ∃ a, env.cells.lookup x.1 = some a) →
    (forIn names acc (fun (x : Str × NameKind) (cs : List (Str × Addr)) => (if x.2 == .free then (do let c ← cellOf env x.1; pure (ForInStep.yield ((x.1, c) :: cs))) else pure (ForInStep.yield cs) : Sem (ForInStep (List (Str × Addr)))))) = pure (closGo env names acc)
  | [], acc, _ => rfl
  | (n, k) :: r, acc, h => by
    have hr : ∀ x ∈ r, x.2 = .free → ∃ a, env.cells.lookup x.1 = some a := fun x hx => h x (List.mem_cons_of_mem _ hx)
    rw [List.forIn_cons, closGo]
    cases hk : (k == NameKind.free) with
    | true =>
      have hk' : k = .free := by simpa using hk
      obtain ⟨a, ha⟩ := h (n, k) List.mem_cons_self hk'
      have : cellOf env n = pure a := by unfold cellOf; simp only at ha; rw [ha]
      simp only at ha
      simp only [if_true, this, ha, pure_bind]
      exact closGo_eq r _ hr
    | false =>
      simp only [Bool.false_eq_true, if_false, pure_bind]
      exact closGo_eq r _ hr
theorem closureFor_go {env : Env} {scope : Scope} (h : ∀ x ∈ scope.names, x.2 = .free → ∃ a, env.cells.lookup x.1 = some a) : closureFor scope env = pure (closGo env scope.names []) := by
  have := closGo_eq scope.names [] h
  unfold closureFor
  have e : (forIn scope.names ([] : List (Str × Addr)) fun x r => (do if (x.2 == NameKind.free) = true then (do let c ← cellOf env x.1; pure (ForInStep.yield ((x.1, c) :: r))) else pure (ForInStep.yield r) : Sem (ForInStep (List (Str × Addr))))) = pure (closGo env scope.names []) := this
  exact (congrArg (fun m : Sem (List (Str × Addr)) => m >>= fun cs => pure cs) e)
theorem closGo_mem {env : Env} : ∀ (names : List (Str × NameKind)) (acc : List (Str × Addr)), (∀ n a, (n, a) ∈ acc → env.cells.lookup n = some a) → ∀ n a, (n, a) ∈ closGo env names acc → env.cells.lookup n = some a
  | [], acc, h, n, a, hm => h n a hm
  | (m, k) :: r, acc, h, n, a, hm => by
    rw [closGo] at hm
    split at hm
    · split at hm
      · rename_i b hb
        refine closGo_mem r _ ?_ n a hm
        intro n' a' hm'
        rcases List.mem_cons.mp hm' with q | q
        · cases q; exact hb
        · exact h n' a' q
      · exact closGo_mem r _ h n a hm
    · exact closGo_mem r _ h n a hm
theorem closGo_keep {env : Env} : ∀ (names : List (Str × NameKind)) (acc : List (Str × Addr)) n a, (n, a) ∈ acc → (n, a) ∈ closGo env names acc
  | [], _, _, _, h => h
  | (m, k) :: r, acc, n, a, h => by
    rw [closGo]
    split
    · split
      · exact closGo_keep r _ n a (List.mem_cons_of_mem _ h)
      · exact closGo_keep r _ n a h
    · exact closGo_keep r _ n a h
theorem closGo_has {env : Env} : ∀ (names : List (Str × NameKind)) (acc : List (Str × Addr)) n a, (n, NameKind.free) ∈ names → env.cells.lookup n = some a → (n, a) ∈ closGo env names acc
  | (m, k) :: r, acc, n, a, h, hl => by
    rw [closGo]
    rcases List.mem_cons.mp h with q | q
    · cases q
      simp only [beq_self_eq_true, if_true, hl]
      exact closGo_keep r _ _ _ List.mem_cons_self
    · split
      · split
        · exact closGo_has r _ n a q hl
        · exact closGo_has r _ n a q hl
      · exact closGo_has r _ n a q hl
theorem lookup_of_mem {l : List (Str × Addr)} {n : Str} {a : Addr} (h : (n, a) ∈ l) : ∃ b, l.lookup n = some b := by
  cases e : l.lookup n with
  | some b => exact ⟨b, rfl⟩
  | none =>
    have := List.lookup_eq_none_iff.mp e (n, a) h
    simp at this
theorem closGo_lookup {env : Env} {names : List (Str × NameKind)} {n : Str} (h : (n, NameKind.free) ∈ names) {a : Addr} (hl : env.cells.lookup n = some a) : (closGo env names []).lookup n = some a := by
  obtain ⟨b, hb⟩ := lookup_of_mem (closGo_has names [] n a h hl)
  have := closGo_mem names [] (by simp) n b (mem_of_lookup hb)
  rw [hl] at this; cases this; exact hb
theorem relab_cell {scope outer : Scope} {y : Str} (h : (relab scope outer).names.lookup y = some .cell) : (y, NameKind.cell) ∈ scope.names ∨ ((y, NameKind.free) ∈ scope.names ∧ outer.names.lookup y = some .cell) := by
  unfold relab at h
  simp only at h
  revert h
  generalize scope.names = l
  induction l with
  | nil => intro h; exact no_some h
  | cons p r ih =>
    obtain ⟨n, k⟩ := p
    intro h
    simp only [List.map_cons] at h
    have next : (r.map fun x => if (x.2 == NameKind.free && outer.kind == .function && outer.names.lookup x.1 == some .cell) then (x.1, NameKind.cell) else (x.1, x.2)).lookup y = some .cell → (y, NameKind.cell) ∈ (n, k) :: r ∨ ((y, NameKind.free) ∈ (n, k) :: r ∧ outer.names.lookup y = some .cell) := fun h => by
      rcases ih h with q | ⟨a, b⟩
      · exact .inl (List.mem_cons_of_mem _ q)
      · exact .inr ⟨List.mem_cons_of_mem _ a, b⟩
    by_cases hc : (k == NameKind.free && outer.kind == .function && outer.names.lookup n == some .cell) = true
    · rw [if_pos hc, List.lookup_cons] at h
      cases hy : y == n with
      | true =>
        obtain rfl : y = n := eq_of_beq hy
        rw [Bool.and_eq_true, Bool.and_eq_true, beq_iff_eq, beq_iff_eq] at hc
        exact .inr ⟨by rw [hc.1.1]; exact List.mem_cons_self, eq_of_beq hc.2⟩
      | false => rw [hy] at h; exact next h
    · rw [if_neg hc, List.lookup_cons] at h
      cases hy : y == n with
      | true =>
        obtain rfl : y = n := eq_of_beq hy
        rw [hy] at h
        obtain rfl := Option.some.inj h
        exact .inl List.mem_cons_self
      | false => rw [hy] at h; exact next h
theorem relab_at {scope outer : Scope} {y : Str} {k : NameKind} (hk : k ≠ .free) (h : scope.names.lookup y = some k) : (relab scope outer).names.lookup y = some k := by
  unfold relab
  revert h
  show scope.names.lookup y = some k → (scope.names.map _).lookup y = some k
  generalize scope.names = l
  induction l with
  | nil => intro h; exact no_some h
  | cons p r ih =>
    obtain ⟨n, k'⟩ := p
    intro h
    rw [List.lookup_cons] at h
    rw [List.map_cons]
    cases hy : y == n with
    | true =>
      rw [hy] at h
      obtain rfl := Option.some.inj h
      have : (k' == NameKind.free && outer.kind == .function && outer.names.lookup n == some .cell) = false := by
        rw [show (k' == NameKind.free) = false from beq_eq_false_iff_ne.mpr hk]; rfl
      simp only [this, Bool.false_eq_true, if_false]
      rw [List.lookup_cons, hy]
    | false =>
      rw [hy] at h
      have e : ∀ k2, ((n, k2) :: r.map fun x => if (x.2 == NameKind.free && outer.kind == .function && outer.names.lookup x.1 == some .cell) then (x.1, NameKind.cell) else (x.1, x.2)).lookup y = some k := fun k2 => by
        rw [List.lookup_cons, hy]; exact ih h
      by_cases hc : (k' == NameKind.free && outer.kind == .function && outer.names.lookup n == some .cell) = true
      · simp only [hc, if_true]; exact e _
      · simp only [hc]; exact e _
theorem cells_none : ∀ {names : List (Str × NameKind)} {n : Nat} {acc : List (Str × Addr)} {h : Heap}, names.filter isCell = [] → cellsFrom n names acc = acc ∧ pushCells h names = h
  | [], _, _, _, _ => ⟨rfl, rfl⟩
  | (y, k) :: r, n, acc, h, e => by
    rw [List.filter_cons] at e
    cases hk : isCell (y, k) with
    | true => rw [hk] at e; exact absurd e (List.cons_ne_nil _ _)
    | false =>
      rw [hk] at e
      have hk : (k == NameKind.cell) = false := hk
      unfold cellsFrom pushCells
      rw [hk]
      exact cells_none (names := r) e
theorem cells_one : ∀ {names : List (Str × NameKind)} {x : Str} {n : Nat} {acc : List (Str × Addr)} {h : Heap}, names.filter isCell = [(x, .cell)] → cellsFrom n names acc = (x, n) :: acc ∧ pushCells h names = h.push { cls := .type "cell", data := .cell none }
  | [], _, _, _, _, e => absurd e.symm (List.cons_ne_nil _ _)
  | (y, k) :: r, x, n, acc, h, e => by
    rw [List.filter_cons] at e
    cases hk : isCell (y, k) with
    | true =>
      rw [hk] at e
      have hk : (k == NameKind.cell) = true := hk
      obtain ⟨e1, e2⟩ := List.cons.inj (show (y, k) :: r.filter isCell = _ from e)
      obtain rfl : y = x := congrArg Prod.fst e1
      unfold cellsFrom pushCells
      rw [hk]
      exact cells_none (names := r) e2
    | false =>
      rw [hk] at e
      have hk : (k == NameKind.cell) = false := hk
      unfold cellsFrom pushCells
      rw [hk]
      exact cells_one (names := r) e
theorem relab_local {scope outer : Scope} {y : Str} (h : (relab scope outer).names.lookup y = some .local) : (y, NameKind.local) ∈ scope.names := by
  unfold relab at h
  simp only at h
  revert h
  generalize scope.names = l
  induction l with
  | nil => intro h; simp at h
  | cons p r ih =>
    obtain ⟨n, k⟩ := p
    intro h
    simp only [List.map_cons] at h
    by_cases hc : (k == NameKind.free && outer.kind == .function && outer.names.lookup n == some .cell) = true
    · rw [if_pos hc] at h
      rw [List.lookup_cons] at h
      cases hy : y == n with
      | true => rw [hy] at h; simp at h
      | false => rw [hy] at h; exact List.mem_cons_of_mem _ (ih h)
    · rw [if_neg hc] at h
      rw [List.lookup_cons] at h
      cases hy : y == n with
      | true =>
        rw [hy] at h
        have : y = n := by simpa using hy
        subst this
        simp only at h
        cases h
        exact List.mem_cons_self
      | false => rw [hy] at h; exact List.mem_cons_of_mem _ (ih h)
end Mine
namespace Mine
open PySem PyProof.Rows
theorem base_none {D : Wd} {γ : List Addr} {H : Hp} {s : Shared} (R : HRel D γ H s.heap) {z : Addr} (h : s.heap.get? z = none) : D.hB.get? z = none := (R.nin h).2
noncomputable def VOk (cenv : Env) (x : Str) (z : Addr) (h : Heap) (P : Option Value → Prop) : Prop :=
  (cenv.kindOf x = some .local ∧ z = cenv.locals ∧ ∃ m, h.Ns z m ∧ P (m x)) ∨ (cenv.kindOf x = some .cell ∧ cenv.cells.lookup x = some z ∧ ∃ u, h.IsCell z u ∧ P u)
theorem VOk.at {cenv : Env} {x : Str} {z : Addr} {h h' : Heap} {P : Option Value → Prop} (hk : ∀ o, h.get? z = some o → h'.get? z = some o) : VOk cenv x z h P → VOk cenv x z h' P
  | .inl ⟨a, b, m, n, p⟩ => .inl ⟨a, b, m, n.at' hk, p⟩
  | .inr ⟨a, b, u, ⟨o, e, d⟩, p⟩ => .inr ⟨a, b, u, ⟨o, hk o e, d⟩, p⟩
theorem VOk.any {cenv : Env} {x : Str} {z : Addr} {h : Heap} {P : Option Value → Prop} : VOk cenv x z h P → VOk cenv x z h (fun _ => True)
  | .inl ⟨a, b, m, n, _⟩ => .inl ⟨a, b, m, n, trivial⟩
  | .inr ⟨a, b, u, n, _⟩ => .inr ⟨a, b, u, n, trivial⟩
theorem VOk.there {cenv : Env} {x : Str} {z : Addr} {h : Heap} {P : Option Value → Prop} : VOk cenv x z h P → (∃ o, h.get? z = some o) ∧ ∀ ws, ¬ TupAt h z ws
  | .inl ⟨_, _, m, ⟨o, es, ep, e, d, _⟩, _⟩ => ⟨⟨o, e⟩, fun ws ⟨k, e', _⟩ => by rw [e] at e'; rw [Option.some.inj e'] at d; cases d⟩
  | .inr ⟨_, _, u, ⟨o, e, d⟩, _⟩ => ⟨⟨o, e⟩, fun ws ⟨k, e', _⟩ => by rw [e] at e'; rw [Option.some.inj e'] at d; cases d⟩
theorem VOk.loc {cenv : Env} {x : Str} {z : Addr} {h h' : Heap} {P P' : Option Value → Prop} (v : VOk cenv x z h P) (v' : VOk cenv x z h' P') (hn : ∃ m, h.Ns cenv.locals m) (hs : ∀ b o, b ≠ z → h.get? b = some o → h'.get? b = some o) : ∃ m, h'.Ns cenv.locals m := by
  rcases v' with ⟨_, b, m, n, _⟩ | ⟨a, _, _⟩
  · rw [← b]; exact ⟨m, n⟩
  · rcases v with ⟨a', _⟩ | ⟨_, _, u, ⟨o, e, d⟩, _⟩
    · rw [a'] at a; cases a
    · obtain ⟨m, n⟩ := hn
      refine ⟨m, n.at' fun o' e' => hs _ o' (fun q => ?_) e'⟩
      refine e3_3 n fun o2 es ep e2 d2 _ => ?_
      rw [q, e] at e2
      rw [Option.some.inj e2, d2] at d; cases d
theorem store_var {M : Model} {A : Around} {E : Value → Shared → Prop} {s : Shared} {cenv : Env} {x : Str} {z : Addr} {v : Value} {P : Option Value → Prop} {Q : Unit → Shared → Prop} (hf : cenv.scope.kind = .function) (h : VOk cenv x z s.heap P)
    (hQ : ∀ h' tk, VOk cenv x z h' (· = some v) → (∀ b o, b ≠ z → s.heap.get? b = some o → h'.get? b = some o) → Q () { s with heap := h', toks := tk }) : wpAny M A (storeName cenv x v) Q E s := by
  rcases h with ⟨a, rfl, m, n, _⟩ | ⟨a, b, u, n, _⟩
  · exact wpAny_storeName_local a n (fun h' hn hs => hQ h' _ (.inl ⟨a, rfl, _, hn, if_pos rfl⟩) fun b o hb e => hs.extBut b o hb e) (by rw [hf]; rfl)
  · exact wpAny_storeName_cell hf a b n fun h' hn hs => hQ h' _ (.inr ⟨a, b, _, hn, rfl⟩) fun b o hb e => hs.extBut b o hb e
structure TgAt (D : Wd) (A : Around) (env cenv : Env) (slots slots' : List (Str × Nat)) (tgt : Expr) (L : Lc) (bd : V → Option Lc) (C z : Addr) (var : Heap → Prop) (vw : List Addr → V → Heap → Prop) : Prop where
  mv : ∀ h h', (∀ o, h.get? z = some o → h'.get? z = some o) → var h → var h'
  there : ∀ h, var h → (∃ o, h.get? z = some o) ∧ ∀ ws, ¬ TupAt h z ws
  loc : ∀ h h', var h → var h' → (∃ m, h.Ns C m) → (∀ b o, b ≠ z → h.get? b = some o → h'.get? b = some o) → ∃ m, h'.Ns C m
  asg : ∀ (γ : List Addr) (s : Shared) (v : Value) (W : V) (L1 : Lc) (Q : Unit → Shared → Prop) (E : Value → Shared → Prop), bd W = some L1 → var s.heap → Rep D γ s.heap v W → (∀ h' tk, var h' → vw γ W h' → (∀ b o, b ≠ z → s.heap.get? b = some o → h'.get? b = some o) → Q () { s with heap := h', toks := tk }) → wpAny D.M A (assign tgt cenv v) Q E s
  mkL : ∀ (γ : List Addr) (h : Heap) (W : V) (L1 : Lc), bd W = some L1 → (∃ m, h.Ns C m) → vw γ W h → LRel D γ env slots h L → C ∉ γ → z ∉ γ → LRel D γ cenv slots' h L1
  go : ∀ (γ : List Addr) (I : Addr) (s : Shared) (v : Value) (W : V) (L1 : Lc) (Q : Unit → Shared → Prop) (E : Value → Shared → Prop), bd W = some L1 → Rep D γ s.heap v W → (∀ elts x1 pos T, wpAny D.M A (letOwnedTupleGo (.Tuple elts x1 pos) (.ref I) (.ref T)) Q E s) → Q () s → wpAny D.M A (letOwnedTupleGo tgt (.ref I) v) Q E s
structure CInv (D : Wd) (var : Heap → Prop) (z : Addr) (γ : List Addr) (s : Shared) (Dd C : Addr) (fp : List Addr) (Inv : List Addr → Nat → Heap → Prop) (st : Hp → Prop) (i : Nat) (acc : List V) (γ' : List Addr) (H' : Hp) (s' : Shared) : Prop where
  stp : Stp [] γ γ' s s'
  rel : HRel D γ' H' s'.heap
  out : ∃ ys n, s'.heap.get? Dd = some { cls := .type "list", data := .seq ys.toArray n } ∧ Reps D γ' s'.heap ys acc
  dnin : Dd ∉ γ'
  loc : ∃ m, s'.heap.Ns C m
  cnin : C ∉ γ'
  var : var s'.heap
  znin : z ∉ γ'
  inv : Inv γ' i s'.heap
  stb : st H'
  fps : ∀ b ∈ fp, b ∉ γ' ∧ ∃ o, s'.heap.get? b = some o
structure CFix (D : Wd) (s : Shared) (Dd C I z : Addr) (fp : List Addr) : Prop where
  d0 : s.heap.get? Dd = none
  c0 : s.heap.get? C = none
  i0 : s.heap.get? I = none
  dc : Dd ≠ C
  df : Dd ∉ fp
  cf : C ∉ fp
  z0 : s.heap.get? z = none
  dz : Dd ≠ z
  zf : z ∉ fp
theorem notTup_dict {h : Heap} {C : Addr} {m : Str → Option Value} (n : h.Ns C m) (ws : List Value) : ¬ TupAt h C ws := fun x => by
  refine e3_3 n fun o es ep e d _ => ?_
  refine e1_2 x fun k e' _ => ?_
  rw [e] at e'; cases e'; cases d
theorem notTup_list {h : Heap} {C : Addr} {vs : List Value} {n : Nat} (e : h.get? C = some { cls := .type "list", data := .seq vs.toArray n }) (ws : List Value) : ¬ TupAt h C ws := fun x => by
  refine e1_2 x fun k e' _ => ?_
  rw [e] at e'; simp at e'
theorem Stp.change {γ γ' : List Addr} {s s' : Shared} {h' : Heap} {tk : Nat} {z : Addr} (t : Stp [] γ γ' s s') (hk : ∀ b o, b ≠ z → s'.heap.get? b = some o → h'.get? b = some o) (hz : s.heap.get? z = none) : Stp [] γ γ' s { s' with heap := h', toks := tk } := by
  refine ⟨?_, fun b o hb hw e => hk b o (by rintro rfl; rw [hz] at e; exact no_some e) (t.keep b o hb hw e), t.ext⟩
  refine e2_1 (t.same) fun h1 t1 e_171 => ?_
  obtain rfl := e_171
  exact ⟨_, _, rfl⟩
section
variable {D : Wd} {Φ : Orc} {k : Nat} {c : CC}
theorem comp_loop {n : Nat} {elt iter tgt : Expr} {pos : Pos} {scope : Scope} {ielt : IE} {c' : CC} {env cenv : Env} {A : Around} {L : Lc} {γ : List Addr} {H : Hp} {s : Shared} {Dd C I z : Addr} {fp : List Addr}
    {l : List V} {st : Hp → Prop} {Inv : List Addr → Nat → Heap → Prop} {K : List V → Hp → Prop} {Rr : Result → Shared → Prop} {bd : V → Option Lc} {X : XL} {var : Heap → Prop} {vw : List Addr → V → Heap → Prop}
    (hE' : EnvOk c' cenv) (hA : AOk D k A) (R0 : HRel D γ H s.heap) (lr : LRel D γ env c.slots s.heap L)
    (ihe : ∀ e ie, compE n c' e = some ie → Both D Φ k c' e ie) (hce : compE n c' elt = some ielt)
    (F : CFix D s Dd C I z fp) (it : Itr D A I fp l st Inv) (tg : TgAt D A env cenv c.slots c'.slots tgt L bd C z var vw)
    (fin : ∀ γ' H' s' acc, CInv D var z γ s Dd C fp Inv st l.length acc γ' H' s' → K acc H' → ∀ h' tk, (∀ b o, b ≠ I → s'.heap.get? b = some o → h'.get? b = some o) → Rr (.ok .next) { s' with heap := h', toks := tk }) :
    ∀ (i : Nat) (acc : List V) (γ' : List Addr) (H' : Hp) (s' : Shared), i ≤ l.length → acc.length ≤ i → l.length ≤ 2000000 → CInv D var z γ s Dd C fp Inv st i acc γ' H' s' →
      compGoB (fun L' H' K => (wp2 Φ ielt).E L' H' K X) st bd (l.drop i) acc H' K →
      codeAny D.M A (.compLoop (.ListComp elt [⟨tgt, iter, [], 0⟩] scope pos) 0 (.ref I) (.ref Dd) cenv) Rr s' := by
  intro i acc γ' H' s' hi hacc hlen ci cg
  refine W.kcp_loop (fun m s' => ∃ i acc γ' H', m = l.length - i ∧ i ≤ l.length ∧ acc.length ≤ i ∧ CInv D var z γ s Dd C fp Inv st i acc γ' H' s' ∧
    compGoB (fun L' H' K => (wp2 Φ ielt).E L' H' K X) st bd (l.drop i) acc H' K) ?_ (l.length - i) ⟨i, acc, γ', H', rfl, hi, hacc, ci, cg⟩
  clear cg ci hacc hi i acc γ' H' s'
  rintro m s' ⟨i, acc, γ', H', rfl, hi, hacc, ci, cg⟩
  have hIg : I ∉ γ' := (ci.fps I it.mem).1
  have hIB := base_none R0 F.i0
  have hDB := base_none R0 F.d0
  have hCI : C ≠ I := fun q => F.cf (q ▸ it.mem)
  have hzI : z ≠ I := fun q => F.zf (q ▸ it.mem)
  have hzB := base_none R0 F.z0
  have hDI : Dd ≠ I := fun q => F.df (q ▸ it.mem)
  by_cases hlt : i < l.length
  · have hW : l[i]? = some l[i] := by simp [hlt]
    have hdrop : l.drop i = l[i] :: l.drop (i + 1) := List.drop_eq_getElem_cons hlt
    rw [hdrop] at cg
    refine e1_2 (oK_elim (show oK (bd l[i]) _ from cg)) fun L1 hL1 cg => ?_
    refine it.next γ' H' s' i _ _ _ hW ci.rel hIg ci.stb ci.inv fun v h1 tk1 hI1 hk1 iv1 rv1 => ?_
    have nt1 := fun ws => it.notTup γ' i s'.heap ws ci.inv
    have R1 : HRel D γ' H' h1 := ci.rel.but hk1 hIg hIB nt1
    have v1 : var h1 := tg.mv _ _ (fun o e => hk1 _ o hzI e) ci.var
    refine (fun main => tg.go γ' I { s' with heap := h1, toks := tk1 } v l[i] L1 _ _ hL1 rv1 (fun elts x1 pos T => it.own γ' (i + 1) _ T elts x1 pos _ _ iv1 main) main) ?_
    refine tg.asg γ' { s' with heap := h1, toks := tk1 } v l[i] L1 _ _ hL1 v1 rv1 fun h2 tk2 v2 vw2 hk2 => ?_
    dsimp only at hk2 ⊢
    have loc2 : ∃ m, h2.Ns C m := tg.loc _ _ v1 v2 (let ⟨m, n⟩ := ci.loc; ⟨m, n.at' fun o e => hk1 _ o hCI e⟩) hk2
    have nt2 := (tg.there _ v1).2
    have R2 : HRel D γ' H' h2 := R1.but hk2 ci.znin hzB nt2
    have t2 : ∀ a ws, TupAt s'.heap a ws → TupAt h2 a ws := fun a ws q => tupAt_but hk2 nt2 (tupAt_but hk1 nt1 q)
    have stp2 : Stp [] γ γ' s { s' with heap := h2, toks := tk2 } := ((ci.stp.change (tk := tk1) hk1 F.i0).change (tk := tk2) hk2 F.z0)
    have lrs : LRel D γ' env c.slots h2 L := lr.stp R0 stp2
    have l2 := tg.mkL γ' h2 l[i] L1 hL1 loc2 vw2 lrs ci.cnin ci.znin
    have iv2 : Inv γ' (i + 1) h2 := it.frame γ' γ' (i + 1) h1 h2 iv1 ⟨[], by simp⟩ (fun b hb o e => hk2 b o (fun q => F.zf (q ▸ hb)) e) (fun a ws q => tupAt_but hk2 nt2 q)
    have fp2 : ∀ b ∈ fp, b ∉ γ' ∧ ∃ o, h2.get? b = some o := fun b hb => by
      refine ⟨(ci.fps b hb).1, ?_⟩
      obtain ⟨o, e⟩ := (ci.fps b hb).2
      by_cases hbI : b = I
      · subst hbI; obtain ⟨o', e'⟩ := hI1; exact ⟨o', hk2 _ _ (Ne.symm hzI) e'⟩
      · exact ⟨o, hk2 _ _ (fun q => F.zf (q ▸ hb)) (hk1 _ _ hbI e)⟩
    refine e2_2 (ci.out) fun ys ny hy ry => ?_
    have hy2 : h2.get? Dd = some { cls := .type "list", data := .seq ys.toArray ny } := hk2 _ _ F.dz (hk1 _ _ hDI hy)
    have ry2 : Reps D γ' h2 ys acc := Reps.mono ⟨[], by simp⟩ t2 ry
    clear v1 nt2 R1 hk2 vw2 lrs t2 nt1 hk1 rv1 iv1 hI1
    obtain ⟨s3, hs3⟩ : ∃ s3 : Shared, s3 = { s' with heap := h2, toks := tk2 } := ⟨_, rfl⟩
    rw [← hs3] at stp2 ⊢
    have hh : h2 = s3.heap := by rw [hs3]
    clear hs3
    subst hh
    refine wpAny_mono ((ihe elt ielt hce).1 cenv A γ' H' s3 _ _ X hE' hA R2 l2 cg) (fun y s4 p => ?_) (fun _ _ p => p.elim)
    refine e3_4 p fun γ4 Y H4 st4 R4 ryv q4 => ?_
    have stp4 : Stp [] γ γ4 s s4 := stp2.trans0 R2 st4
    have dn4 : Dd ∉ γ4 := notin_ext st4 ci.dnin hy2
    have cn4 : C ∉ γ4 := by obtain ⟨m, o, es, ep, e, _⟩ := id loc2; exact notin_ext st4 ci.cnin e
    have zn4 : z ∉ γ4 := by obtain ⟨o, e⟩ := (tg.there _ v2).1; exact notin_ext st4 ci.znin e
    have t4 : ∀ a ws, TupAt s3.heap a ws → TupAt s4.heap a ws := fun a ws q => q.stp R2 st4 (fun _ h => nomatch h)
    have ext4 : ∃ δ, γ4 = γ' ++ δ := let ⟨δ, e, _⟩ := st4.ext; ⟨δ, e⟩
    have hy4 : s4.heap.get? Dd = some { cls := .type "list", data := .seq ys.toArray ny } := st4.keep _ _ ci.dnin (fun h => nomatch h) hy2
    have ry4 : Reps D γ4 s4.heap ys acc := Reps.mono ext4 t4 ry2
    have hyl := ry4.length
    refine wpAny_list_append_plain (items := ys.toArray) ⟨ny, hy4⟩ (fun h5 hp5 hs5 => ?_) (by rw [sizeLine_eq]; show ys.length ≤ _; lia)
    have hk5 : ∀ b o, b ≠ Dd → s4.heap.get? b = some o → h5.get? b = some o := fun b o hb e => hs5.extBut b o hb e
    have nt5 := notTup_list hy4
    have t5 : ∀ a ws, TupAt s4.heap a ws → TupAt h5 a ws := fun a ws q => tupAt_but hk5 nt5 q
    obtain ⟨n5, e5⟩ := hp5
    have em : ys.toArray.push y = (ys ++ [y]).toArray := by simp
    rw [em] at e5
    refine ⟨l.length - (i + 1), by lia, i + 1, acc ++ [Y], γ4, H4, rfl, hlt, by rw [List.length_append, List.length_singleton]; lia, ?_, q4.2⟩
    refine ⟨stp4.change (tk := s4.toks) hk5 F.d0, R4.but hk5 dn4 hDB nt5, ⟨ys ++ [y], n5, e5, Reps.mono ⟨[], by simp⟩ t5 (ry4.append (Reps.one ryv))⟩, dn4, ?_, cn4, tg.mv _ _ (fun o e => hk5 _ o (Ne.symm F.dz) (st4.keep _ o ci.znin (fun h => nomatch h) e)) v2, zn4, ?_, q4.1, ?_⟩
    · obtain ⟨m, n⟩ := loc2
      exact ⟨m, n.at' fun o e => hk5 _ o (Ne.symm F.dc) (st4.keep _ o ci.cnin (fun h => nomatch h) e)⟩
    · exact it.frame γ' γ4 (i + 1) s3.heap h5 iv2 ext4 (fun b hb o e => hk5 b o (fun q => F.df (q ▸ hb)) (st4.keep b o (fp2 b hb).1 (fun h => nomatch h) e)) (fun a ws q => t5 a ws (t4 a ws q))
    · intro b hb
      obtain ⟨a, o, e⟩ := fp2 b hb
      exact ⟨notin_ext st4 a e, o, hk5 b o (fun q => F.df (q ▸ hb)) (st4.keep b o a (fun h => nomatch h) e)⟩
  · have hin : i = l.length := by lia
    subst hin
    rw [List.drop_length] at cg
    exact it.done γ' H' s' _ _ ci.rel ci.stb ci.inv fun h1 tk1 hk1 => fin γ' H' s' acc ci cg h1 tk1 hk1
end
end Mine
namespace Mine
open PySem PyProof.Rows
section
variable {D : Wd} {Φ : Orc} {k : Nat} {c : CC}
theorem set_get {L : Lc} {n : Nat} {y v : V} (h : (L.set n (some y))[n]? = some (some v)) : v = y := by
  by_cases hn : n < L.length
  · rw [List.getElem?_set_self hn] at h
    exact (Option.some.inj (Option.some.inj h)).symm
  · rw [List.getElem?_eq_none_iff.mpr (by rw [List.length_set]; exact Nat.le_of_not_lt hn)] at h; exact no_some h
theorem HRel.adoptList {γ : List Addr} {H : Hp} {vs : List Value} {l : List V} {h : Heap} {a : Addr} {n : Nat} (R : HRel D γ H h) (r : Reps D γ h vs l) (hz : l.length ≤ 2000000)
    (hn : a ∉ γ) (hB : D.hB.get? a = none) (ha : h.get? a = some { cls := .type "list", data := .seq vs.toArray n }) : HRel D (γ ++ [a]) (H ++ [.list l]) h :=
  R.adopt hn hB ⟨vs, n, ha, Reps.mono ⟨_, rfl⟩ (fun _ _ x => x) r, by rw [r.length]; exact hz⟩
theorem PostV.adopt {γ γ' : List Addr} {H' : Hp} {s s' : Shared} {Q : V → Hp → Prop} {vs : List Value} {l : List V} {h' : Heap} {a : Addr} {n tk : Nat} (st : Stp [] γ γ' s { s' with heap := h', toks := tk }) (R : HRel D γ' H' h') (r : Reps D γ' h' vs l) (hz : l.length ≤ 2000000)
    (hn : a ∉ γ') (h0 : s.heap.get? a = none) (hB : D.hB.get? a = none) (ha : h'.get? a = some { cls := .type "list", data := .seq vs.toArray n }) (h : Q (.ref H'.length) (H' ++ [.list l])) :
    PostV D γ s Q (.ref a) { s' with heap := h', toks := tk } := by
  refine ⟨γ' ++ [a], .ref H'.length, H' ++ [.list l], ⟨st.same, st.keep, ?_⟩, R.adoptList r hz hn hB ha, ?_, h⟩
  · refine e1_2 (st.ext) fun δ e f => ?_
    refine ⟨δ ++ [a], by rw [e]; simp, fun b hb => ?_⟩
    rcases List.mem_append.mp hb with q | q
    · exact f b q
    · simp at q; subst q; exact h0
  · exact Exists.intro _ ⟨by rw [List.getElem?_append_right (by rw [R.len]; exact Nat.le_refl _)]; simp [R.len], rfl⟩
structure CompOk (c : CC) (scope : Scope) (x : Str) : Prop where
  kind : scope.kind = .function
  locs : ∀ y ∈ scope.names, y.2 = .local → scope.names.lookup y.1 = some .local
  frees : ∀ y ∈ scope.names, y.2 = .free → c.scope.names.lookup y.1 = some .cell
  var : (scope.names.lookup x = some .local ∧ scope.names.filter isCell = []) ∨ (scope.names.lookup x = some .cell ∧ scope.names.filter isCell = [(x, .cell)])
  own : ∀ y, (y, NameKind.local) ∈ scope.names → y = x ∨ c.slots.lookup y = none
  low : ∀ y i, c.slots.lookup y = some i → i < c.nxt
noncomputable abbrev inner (c : CC) (scope : Scope) (x : Str) : CC := innerC c scope x
theorem relabel_eq {scope : Scope} {env : Env} (he : EnvOk c env) : relabel scope env = relab scope c.scope := by
  rw [← he.scope]; rfl
theorem env_inner {scope : Scope} {x : Str} {env : Env} (he : EnvOk c env) (ok : CompOk c scope x) (cl : List (Str × Addr)) (C : Addr) : EnvOk (inner c scope x) (compEnvC scope cl C env) :=
  ⟨relabel_eq he, ok.kind, he.globals, he.builtins⟩
theorem lrel_inner {scope : Scope} {x : Str} {env : Env} {L : Lc} {C z : Addr} {n : Nat} (he : EnvOk c env) (ok : CompOk c scope x) :
    ∀ γ' h W v, (∃ m, h.Ns C m) → VOk (compEnvC scope (cellsFrom n scope.names (closGo env scope.names [])) C env) x z h (· = some v) → Rep D γ' h v W → LRel D γ' env c.slots h L → C ∉ γ' → z ∉ γ' → LRel D γ' (compEnvC scope (cellsFrom n scope.names (closGo env scope.names [])) C env) (inner c scope x).slots h (L.set c.nxt (some W)) := by
  intro γ' h W v hn hv rv lr hC hz
  have hrl : ∀ y, (compEnvC scope (cellsFrom n scope.names (closGo env scope.names [])) C env).kindOf y = (relab scope c.scope).names.lookup y := fun y => by
    show (relabel scope env).names.lookup y = _
    rw [relabel_eq he]
  have slot : ∀ {y : Str} {i : Nat} {V : V}, y = x → (inner c scope x).slots.lookup y = some i → (L.set c.nxt (some W))[i]? = some (some V) → V = W := fun {y i V} e hs hL => by
    have hs' : ((x, c.nxt) :: c.slots).lookup y = some i := hs
    rw [List.lookup_cons, beq_iff_eq.mpr e] at hs'
    obtain rfl := Option.some.inj hs'
    exact set_get hL
  have slotN : ∀ {y : Str} {i : Nat}, y ≠ x → (inner c scope x).slots.lookup y = some i → c.slots.lookup y = some i := fun {y i} e hs => by
    have hs' : ((x, c.nxt) :: c.slots).lookup y = some i := hs
    rw [List.lookup_cons, beq_eq_false_iff_ne.mpr e] at hs'
    exact hs'
  have own : ∀ (m : Str → Option Value), h.Ns C m → ((relab scope c.scope).names.lookup x = some .local → m x = some v) → LRel D γ' (compEnvC scope (cellsFrom n scope.names (closGo env scope.names [])) C env) (inner c scope x).slots h (L.set c.nxt (some W)) := fun m hm hx => by
    refine ⟨⟨m, hm, fun y i V hy hs hL => ?_⟩, fun y hy => ?_, hC⟩
    · rw [hrl] at hy
      by_cases hxy : y = x
      · obtain rfl := slot hxy hs hL
        rw [hxy] at hy ⊢
        exact ⟨v, hx hy, rv⟩
      · rcases ok.own y (relab_local hy) with q | q
        · exact absurd q hxy
        · rw [slotN hxy hs] at q; exact no_some q.symm
    · rw [hrl] at hy
      by_cases hxy : y = x
      · subst hxy
        rcases hv with ⟨a, _⟩ | ⟨_, b, u, hu, rfl⟩
        · rw [hrl, hy] at a; cases a
        · exact ⟨z, some v, b, hu, hz, fun i V hs hL => ⟨v, rfl, slot rfl hs hL ▸ rv⟩⟩
      · have nc : (y, NameKind.cell) ∉ scope.names := fun hm => by
          have hm' : (y, NameKind.cell) ∈ scope.names.filter isCell := List.mem_filter.mpr ⟨hm, rfl⟩
          rcases ok.var with ⟨_, q⟩ | ⟨_, q⟩
          · rw [q] at hm'; exact nomatch hm'
          · rw [q] at hm'; exact hxy (congrArg Prod.fst (List.mem_singleton.mp hm'))
        obtain ⟨hf, ho⟩ := (relab_cell hy).resolve_left nc
        have hk : env.kindOf y = some .cell := by unfold Env.kindOf; rw [he.scope]; exact ho
        refine e2_4 (lr.cel y hk) fun ca u e1 e2 e3 e4 => ?_
        have hcl : (cellsFrom n scope.names (closGo env scope.names [])).lookup y = some ca := by
          rcases ok.var with ⟨_, q⟩ | ⟨_, q⟩
          · rw [(cells_none (h := h) q).1]; exact closGo_lookup hf e1
          · rw [(cells_one (h := h) q).1, List.lookup_cons, beq_eq_false_iff_ne.mpr hxy]; exact closGo_lookup hf e1
        refine ⟨ca, u, hcl, e2, e3, fun i V hs hL => ?_⟩
        have hs' := slotN hxy hs
        have hlt := ok.low y i hs'
        rw [List.getElem?_set_ne (by lia)] at hL
        exact e4 i V hs' hL
  rcases id hv with ⟨a, b, m, hm, hmx⟩ | ⟨a, _, _⟩
  · exact own m ((show z = C from b) ▸ hm) fun _ => hmx
  · obtain ⟨m, hm⟩ := hn
    exact own m hm fun q => by rw [hrl, q] at a; cases a
theorem comp_env {M : Model} {A : Around} {E : Value → Shared → Prop} {s : Shared} {scope : Scope} {env : Env} {cl : List (Str × Addr)} {Q : Env → Shared → Prop}
    (h : Q { scope := scope, locals := s.heap.objs.size, globals := env.globals, cells := cellsFrom (s.heap.objs.size + 1) scope.names cl, qual := env.qual, func := none, code := env.code, frame := env.frame, builtins := env.builtins } { s with heap := pushCells (s.heap.push { cls := .type "dict", data := .dict #[] }) scope.names }) :
    wpAny M A (newFunctionEnv scope env.globals cl [] env.qual none .none (some env)) Q E s := by
  simp only [newFunctionEnv, Option.isSome_some, if_true]
  refine wpAny_bind (wpAny_alloc (wpAny_bind (wpAny_layCells _ (fun name kind cells => by cases kind == NameKind.cell <;> simp) _ _ _ _ ?_)))
  rw [show ({ s with heap := s.heap.push { cls := .type "dict", data := .dict #[] } } : Shared).heap.objs.size = s.heap.objs.size + 1 from Heap.size_push ..]
  rw [List.forIn_nil]
  exact wpAny_bind (wpAny_pure (wpAny_pure h))
theorem tg_name {k : Nat} {A : Around} {scope : Scope} {x : Str} {px : Pos} {env : Env} {L : Lc} {C z : Addr} {n : Nat} (he : EnvOk c env) (ok : CompOk c scope x) :
    TgAt D A env (compEnvC scope (cellsFrom n scope.names (closGo env scope.names [])) C env) c.slots (inner c scope x).slots (.Name x px) L (bd1 c.nxt L) C z
      (fun h => VOk (compEnvC scope (cellsFrom n scope.names (closGo env scope.names [])) C env) x z h (fun _ => True)) (fun γ W h => ∃ v, VOk (compEnvC scope (cellsFrom n scope.names (closGo env scope.names [])) C env) x z h (· = some v) ∧ Rep D γ h v W) where
  mv := fun _ _ hk v => v.at hk
  there := fun _ v => v.there
  loc := fun _ _ v v' hn hs => v.loc v' hn hs
  asg := fun γ s v W L1 Q E _ hv rv q => wpAny_assign_Name (store_var (by show (relabel scope env).kind = _; rw [relabel_eq he]; exact ok.kind) hv fun h2 tk2 v2 hk2 => q h2 tk2 v2.any ⟨v, v2, Rep.mono ⟨[], by simp⟩ (fun _ _ q => tupAt_but hk2 hv.there.2 q) rv⟩ hk2)
  mkL := fun γ h W L1 hb hn hv lr hC hz => by
    obtain rfl := Option.some.inj hb
    refine e1_2 hv fun v hv rv => ?_
    exact lrel_inner he ok γ h W v hn hv rv lr hC hz
  go := fun _ _ _ _ _ _ _ _ _ _ _ q => wpAny_pure q
structure CompOk2 (c : CC) (scope : Scope) (x y : Str) : Prop where
  kind : scope.kind = .function
  locs : ∀ y ∈ scope.names, y.2 = .local → scope.names.lookup y.1 = some .local
  frees : ∀ y ∈ scope.names, y.2 = .free → c.scope.names.lookup y.1 = some .cell
  vx : scope.names.lookup x = some .local
  vy : scope.names.lookup y = some .local
  ne : x ≠ y
  nocell : scope.names.filter isCell = []
  own : ∀ w, (w, NameKind.local) ∈ scope.names → w = x ∨ w = y ∨ c.slots.lookup w = none
  low : ∀ y i, c.slots.lookup y = some i → i < c.nxt
theorem bd2_some {j : Nat} {L L1 : Lc} {W : V} (h : bd2 j L W = some L1) : ∃ a b, W = .tup [a, b] ∧ L1 = (L.set j (some a)).set (j + 1) (some b) := by
  refine e1_2 (Option.map_eq_some_iff.mp h) fun p hp e_172 => ?_
  obtain rfl := e_172
  refine e1_2 (Option.bind_eq_some_iff.mp hp) fun l hl h2 => ?_
  rw [tupV_some hl]
  cases l with
  | nil => exact no_some h2
  | cons a r => cases r with
    | nil => exact no_some h2
    | cons b r => cases r with
      | nil => rw [← Option.some.inj h2]; exact ⟨a, b, rfl, rfl⟩
      | cons _ _ => exact no_some h2
theorem lrel_inner2 {scope : Scope} {x y : Str} {env : Env} {L : Lc} {C : Addr} {n : Nat} {γ : List Addr} {h : Heap} {a b : V} {va vb : Value} {m : Str → Option Value} (he : EnvOk c env) (ok : CompOk2 c scope x y) (hm : h.Ns C m) (hx : m x = some va) (hy : m y = some vb) (ra : Rep D γ h va a) (rb : Rep D γ h vb b)
    (lr : LRel D γ env c.slots h L) (hC : C ∉ γ) : LRel D γ (compEnvC scope (cellsFrom n scope.names (closGo env scope.names [])) C env) (innerC2 c scope x y).slots h ((L.set c.nxt (some a)).set (c.nxt + 1) (some b)) := by
  have hrl : ∀ y, (compEnvC scope (cellsFrom n scope.names (closGo env scope.names [])) C env).kindOf y = (relab scope c.scope).names.lookup y := fun y => by
    show (relabel scope env).names.lookup y = _
    rw [relabel_eq he]
  have old : ∀ {w : Str} {i : Nat}, w ≠ x → w ≠ y → (innerC2 c scope x y).slots.lookup w = some i → c.slots.lookup w = some i := fun {w i} e1 e2 hs => by
    have hs' : ((x, c.nxt) :: (y, c.nxt + 1) :: c.slots).lookup w = some i := hs
    rw [List.lookup_cons, beq_eq_false_iff_ne.mpr e1] at hs'
    have hs' : ((y, c.nxt + 1) :: c.slots).lookup w = some i := hs'
    rw [List.lookup_cons, beq_eq_false_iff_ne.mpr e2] at hs'
    exact hs'
  refine ⟨⟨m, hm, fun w i V hw hs hL => ?_⟩, fun w hw => ?_, hC⟩
  · rw [hrl] at hw
    by_cases hwx : w = x
    · subst hwx
      have hs' : ((w, c.nxt) :: (y, c.nxt + 1) :: c.slots).lookup w = some i := hs
      rw [List.lookup_cons, beq_self_eq_true] at hs'
      obtain rfl := Option.some.inj hs'
      rw [List.getElem?_set_ne (Nat.succ_ne_self _)] at hL
      obtain rfl := set_get hL
      exact ⟨va, hx, ra⟩
    · by_cases hwy : w = y
      · subst hwy
        have hs' : ((x, c.nxt) :: (w, c.nxt + 1) :: c.slots).lookup w = some i := hs
        rw [List.lookup_cons, beq_eq_false_iff_ne.mpr hwx] at hs'
        have hs' : ((w, c.nxt + 1) :: c.slots).lookup w = some i := hs'
        rw [List.lookup_cons, beq_self_eq_true] at hs'
        obtain rfl := Option.some.inj hs'
        obtain rfl := set_get hL
        exact ⟨vb, hy, rb⟩
      · rcases ok.own w (relab_local hw) with q | q | q
        · exact absurd q hwx
        · exact absurd q hwy
        · rw [old hwx hwy hs] at q; exact no_some q.symm
  · rw [hrl] at hw
    have nc : (w, NameKind.cell) ∉ scope.names := fun hm => by
      have hm' : (w, NameKind.cell) ∈ scope.names.filter isCell := List.mem_filter.mpr ⟨hm, rfl⟩
      rw [ok.nocell] at hm'; exact nomatch hm'
    have hloc : ∀ {z}, scope.names.lookup z = some .local → w ≠ z := fun hz e => by
      rw [e, relab_at (by decide) hz] at hw; cases hw
    obtain ⟨hf, ho⟩ := (relab_cell hw).resolve_left nc
    have hk : env.kindOf w = some .cell := by unfold Env.kindOf; rw [he.scope]; exact ho
    refine e2_4 (lr.cel w hk) fun ca u e1 e2 e3 e4 => ?_
    refine ⟨ca, u, ?_, e2, e3, fun i V hs hL => ?_⟩
    · show (cellsFrom n scope.names (closGo env scope.names [])).lookup w = _
      rw [(cells_none (h := h) ok.nocell).1]; exact closGo_lookup hf e1
    · have hs' := old (hloc ok.vx) (hloc ok.vy) hs
      have hlt := ok.low w i hs'
      rw [List.getElem?_set_ne (by lia), List.getElem?_set_ne (by lia)] at hL
      exact e4 i V hs' hL
theorem tg_pair {k : Nat} {A : Around} {scope : Scope} {x y : Str} {px py tp : Pos} {kk : Nat} {env : Env} {L : Lc} {C : Addr} {n : Nat} (hA : AOk D k A) (he : EnvOk c env) (ok : CompOk2 c scope x y) :
    TgAt D A env (compEnvC scope (cellsFrom n scope.names (closGo env scope.names [])) C env) c.slots (innerC2 c scope x y).slots (.Tuple [.Name x px, .Name y py] kk tp) L (bd2 c.nxt L) C C
      (fun h => ∃ m, h.Ns C m) (fun γ W h => ∃ m a b va vb, W = .tup [a, b] ∧ h.Ns C m ∧ m x = some va ∧ m y = some vb ∧ Rep D γ h va a ∧ Rep D γ h vb b) where
  mv := fun _ _ hk ⟨m, hm⟩ => ⟨m, hm.at' hk⟩
  there := fun _ ⟨m, hm⟩ => ⟨let ⟨o, _, _, e, _⟩ := hm; ⟨o, e⟩, notTup_dict hm⟩
  loc := fun _ _ _ v' _ _ => v'
  asg := fun γ s v W L1 Q E hb ⟨m, hm⟩ rv q => by
    refine e2_2 (bd2_some hb) fun a b e_173 e_174 => ?_
    obtain rfl := e_173
    obtain rfl := e_174
    obtain ⟨T, vs, rfl, ta, va, r, rfl, ra, vb, r', rfl, rb, rfl⟩ := rv
    have hk2 : (relabel scope env).kind = .function := by rw [relabel_eq he]; exact ok.kind
    have kd : ∀ {z}, scope.names.lookup z = some .local → (compEnvC scope (cellsFrom n scope.names (closGo env scope.names [])) C env).kindOf z = some .local := fun q => by
      show (relabel scope env).names.lookup _ = _
      rw [relabel_eq he]; exact relab_at (by decide) q
    refine W.kcp_assign hA.handled ta.isTuple (kd ok.vx) (kd ok.vy) (by show ((relabel scope env).kind == .class || ((relabel scope env).kind == .module && _)) = false; rw [hk2]; rfl) hm fun h' tk hn hk => ?_
    have mono : ∀ {v V}, Rep D γ s.heap v V → Rep D γ h' v V := fun r => Rep.mono ⟨[], by simp⟩ (fun _ _ q => tupAt_but hk (notTup_dict hm) q) r
    exact q h' tk ⟨_, hn⟩ ⟨_, a, b, va, vb, rfl, hn, by rw [if_neg ok.ne, if_pos rfl], if_pos rfl, mono ra, mono rb⟩ hk
  mkL := fun γ h W L1 hb _ hv lr hC _ => by
    obtain ⟨m, a, b, va, vb, rfl, hm, hx, hy, ra, rb⟩ := hv
    refine e2_2 (bd2_some hb) fun a' b' e e_180 => ?_
    obtain rfl := e_180
    cases e
    exact lrel_inner2 he ok hm hx hy ra rb lr hC
  go := fun γ I s v W L1 Q E hb rv hown q => by
    refine e2_2 (bd2_some hb) fun a b e_181 e_182 => ?_
    obtain rfl := e_181
    obtain rfl := e_182
    refine e2_2 rv fun T vs e_183 _ => ?_
    obtain rfl := e_183
    exact hown _ _ _ _
structure CompG (D : Wd) (k : Nat) (c : CC) (scope : Scope) (tgt : Expr) (c' : CC) (bdf : Lc → V → Option Lc) : Prop where
  kind : scope.kind = .function
  locs : ∀ y ∈ scope.names, y.2 = .local → scope.names.lookup y.1 = some .local
  frees : ∀ y ∈ scope.names, y.2 = .free → c.scope.names.lookup y.1 = some .cell
  gok : GOk D c.G c.mts → GOk D c'.G c'.mts
  env : ∀ env, EnvOk c env → ∀ cl C, EnvOk c' (compEnvC scope cl C env)
  tg : ∀ env A L, EnvOk c env → AOk D k A → ∀ G2 : Heap, (pushCells (G2.push { cls := .type "dict", data := .dict #[] }) scope.names).Ns G2.objs.size (fun _ => none) → ∃ z var vw, TgAt D A env (compEnvC scope (cellsFrom (G2.objs.size + 1) scope.names (closGo env scope.names [])) G2.objs.size env) c.slots c'.slots tgt L (bdf L) G2.objs.size z var vw ∧ var (pushCells (G2.push { cls := .type "dict", data := .dict #[] }) scope.names) ∧ G2.objs.size ≤ z
theorem cg_name {scope : Scope} {x : Str} {px : Pos} (ok : CompOk c scope x) : CompG D k c scope (.Name x px) (inner c scope x) (bd1 c.nxt) where
  kind := ok.kind
  locs := ok.locs
  frees := ok.frees
  gok := fun g => g
  env := fun _ hE cl C => env_inner hE ok cl C
  tg := fun env A L hE _ G2 hns₁ => by
    have hrl : ∀ {k}, k ≠ .free → scope.names.lookup x = some k → (compEnvC scope (cellsFrom (G2.objs.size + 1) scope.names (closGo env scope.names [])) G2.objs.size env).kindOf x = some k := fun hk q => by
      show (relabel scope env).names.lookup x = _
      rw [relabel_eq hE]; exact relab_at hk q
    rcases ok.var with ⟨q1, q2⟩ | ⟨q1, q2⟩
    · exact ⟨G2.objs.size, _, _, tg_name (k := k) hE ok, .inl ⟨hrl (by decide) q1, rfl, _, hns₁, trivial⟩, Nat.le_refl _⟩
    · refine ⟨G2.objs.size + 1, _, _, tg_name (k := k) hE ok, .inr ⟨hrl (by decide) q1, ?_, none, ⟨{ cls := .type "cell", data := .cell none }, ?_, rfl⟩, trivial⟩, Nat.le_succ _⟩
      · show (cellsFrom (G2.objs.size + 1) scope.names (closGo env scope.names [])).lookup x = _
        rw [(cells_one (h := G2) q2).1, List.lookup_cons, beq_self_eq_true]
      · rw [(cells_one (n := 0) (acc := []) q2).2]
        have := Heap.get?_push_size (G2.push { cls := .type "dict", data := .dict #[] }) (o := { cls := .type "cell", data := .cell none }) rfl
        rw [Heap.size_push] at this
        exact this
theorem cg_pair {scope : Scope} {x y : Str} {px py tp : Pos} {kt : Nat} (ok : CompOk2 c scope x y) : CompG D k c scope (.Tuple [.Name x px, .Name y py] kt tp) (innerC2 c scope x y) (bd2 c.nxt) where
  kind := ok.kind
  locs := ok.locs
  frees := ok.frees
  gok := fun g => g
  env := fun _ hE cl C => ⟨relabel_eq hE, ok.kind, hE.globals, hE.builtins⟩
  tg := fun env A L hE hA G2 hns₁ => ⟨_, _, _, tg_pair hA hE ok, ⟨_, hns₁⟩, Nat.le_refl _⟩
noncomputable def compW (Φ : Orc) (ss : IE) (kk : SrcK) (ielt : IE) (bdf : Lc → V → Option Lc) : ET := .of fun L H Q X => (wp2 Φ ss).E L H (fun v H1 => pSrc kk v H1 fun items st => compGoB (fun L' H' K => (wp2 Φ ielt).E L' H' K X) st (bdf L) items [] H1 (fun ys H2 => ys.length ≤ 1000000 ∧ Q (.ref H2.length) (H2 ++ [.list ys]))) X
theorem comp_run {n : Nat} {elt iter tgt : Expr} {pos cp : Pos} {c' : CC} {bdf : Lc → V → Option Lc} {scope : Scope} {ielt : IE} {kk : SrcK} {ss : IE} {env : Env} {A : Around} {X : XL} {L : Lc} {γ : List Addr} {H : Hp} {s : Shared}
    {Kf : List V → Hp → Prop} {use : Option (Value → Sem Unit)} {Qf : Value → Shared → Prop} (g : GOk D c.G c.mts) (ih : ∀ c e ie, GOk D c.G c.mts → compE n c e = some ie → Both D Φ k c e ie) (cg : CompG D k c scope tgt c' bdf)
    (hsrc : compSrc (compE n c) c iter = some (kk, ss)) (hce : compE n c' elt = some ielt) (hE : EnvOk c env) (hA : AOk D k A) (R : HRel D γ H s.heap)
    (lr : LRel D γ env c.slots s.heap L) (hset : ∀ x, foldedSetIterable iter env x = pure x)
    (w : (wp2 Φ ss).E L H (fun v H1 => pSrc kk v H1 fun items st => compGoB (fun L' H' K => (wp2 Φ ielt).E L' H' K X) st (bdf L) items [] H1 Kf) X)
    (fin : ∀ γ' H' s' Dd C acc, Stp [] γ γ' s s' → HRel D γ' H' s'.heap → (∃ ys n, s'.heap.get? Dd = some { cls := .type "list", data := .seq ys.toArray n } ∧ Reps D γ' s'.heap ys acc) → Dd ∉ γ' → s.heap.get? Dd = none → (∃ m, s'.heap.Ns C m) → C ∉ γ' → s.heap.get? C = none → Dd ≠ C → Kf acc H' →
      compPost D.M A (PostX D γ s X) use Qf (.ref Dd) C (.ok .next) s') :
    wpAny D.M A (comprehension (.ListComp elt [⟨tgt, iter, [], 0⟩] scope pos) scope env cp (newList []) false (eval iter env) use) Qf (PostX D γ s X) s := by
  have hclos : closureFor scope env = pure (closGo env scope.names []) := closureFor_go fun y hy hf => by
    have hk : env.kindOf y.1 = some .cell := by unfold Env.kindOf; rw [hE.scope]; exact cg.frees y hy hf
    refine e2_2 (lr.cel y.1 hk) fun ca u e1 _ => ?_
    exact ⟨ca, e1⟩
  refine wpAny_comprehension_free (use := use) rfl hset hclos cg.kind cg.locs (wpAny_mono (src_ok (K := fun l st H1 => compGoB (fun L' H' K => (wp2 Φ ielt).E L' H' K X) st (bdf L) l [] H1 Kf) g (fun e ie h => (ih c e ie g h).1) hsrc hE hA R lr w)
    (fun xv s1 h1 => wpAny_mono h1 (fun it s2 h2 => ?_) fun _ _ e => e) fun _ _ e => e)
  refine e7_10 h2 fun γ2 H2 I fp l st Inv e_184 stp2 R2 itr iv fps hI0 hst hlen cgo => ?_
  obtain rfl := e_184
  refine wpAny_newObj_type (hd := by size_fits) (comp_env ?_)
  dsimp only
  generalize hH2 : s2.heap.push { cls := .type "list", dict := none, data := .seq ([] : List Value).toArray } = G2
  have hC : G2.objs.size = s2.heap.objs.size + 1 := by rw [← hH2, Heap.size_push]
  have hDC : s2.heap.objs.size ≠ G2.objs.size := by rw [hC]; exact Nat.ne_of_lt (Nat.lt_succ_self _)
  have fresh : ∀ a, s2.heap.objs.size ≤ a → s2.heap.get? a = none := fun a ha => by
    cases e : s2.heap.get? a with
    | none => rfl
    | some o' => exact absurd (Heap.lt_size e) (Nat.not_lt.mpr ha)
  have fresh0 : ∀ a, s2.heap.objs.size ≤ a → s.heap.get? a = none := fun a ha => none_back stp2 R2 (fresh a ha)
  have nin2 : ∀ a, s2.heap.objs.size ≤ a → a ∉ γ2 := fun a ha => (R2.nin (fresh a ha)).1
  have keep1 : ∀ b o, G2.get? b = some o → (pushCells (G2.push { cls := .type "dict", data := .dict #[] }) scope.names).get? b = some o := fun b o e => pushCells_keeps _ _ b o (Heap.get?_push_of_some _ e)
  have hns₁ : (pushCells (G2.push { cls := .type "dict", data := .dict #[] }) scope.names).Ns G2.objs.size fun _ => none := (Heap.Ns.new G2 (.type "dict")).keeps (pushCells_keeps _ _)
  refine e3_3 (cg.tg env A L hE hA G2 hns₁) fun z var vw tg hvar hz => ?_
  have hz : s2.heap.objs.size < z := by rw [hC] at hz; exact hz
  generalize hh1 : pushCells (G2.push { cls := .type "dict", data := .dict #[] }) scope.names = h₁ at keep1 hns₁ hvar ⊢
  have old : ∀ b o, s2.heap.get? b = some o → h₁.get? b = some o := fun b o e => keep1 b o (hH2 ▸ Heap.get?_push_of_some _ e)
  have hacc : h₁.get? s2.heap.objs.size = some { cls := .type "list", data := .seq ([] : List Value).toArray } := keep1 _ _ (hH2 ▸ Heap.get?_push_size _ rfl)
  have F : CFix D s s2.heap.objs.size G2.objs.size I z fp := by
    refine ⟨fresh0 _ (Nat.le_refl _), fresh0 _ (by rw [hC]; exact Nat.le_succ _), hI0, hDC, fun hm => ?_, fun hm => ?_, fresh0 _ (Nat.le_of_lt hz), Nat.ne_of_lt hz, fun hm => ?_⟩
    · obtain ⟨_, ⟨o, e⟩, _⟩ := fps _ hm; exact absurd (Heap.lt_size e) (Nat.lt_irrefl _)
    · obtain ⟨_, ⟨o, e⟩, _⟩ := fps _ hm; exact absurd (Heap.lt_size e) (by rw [hC]; exact Nat.not_lt.mpr (Nat.le_succ _))
    · obtain ⟨_, ⟨o, e⟩, _⟩ := fps _ hm; exact absurd (Heap.lt_size e) (Nat.not_lt.mpr (Nat.le_of_lt hz))
  have loop : ∀ s3 : Shared, s3 = { s2 with heap := h₁ } →
      codeAny D.M A (.compLoop (.ListComp elt [⟨tgt, iter, [], 0⟩] scope pos) 0 (.ref I) (.ref s2.heap.objs.size) (compEnvC scope (cellsFrom (G2.objs.size + 1) scope.names (closGo env scope.names [])) G2.objs.size env))
        (compPost D.M A (PostX D γ s X) use Qf (.ref s2.heap.objs.size) G2.objs.size) s3 := by
    rintro s3 rfl
    have st3 : Stp [] γ2 γ2 s2 { s2 with heap := h₁ } := stp_grow (tk := s2.toks) old
    refine comp_loop (env := env) (c := c) (c' := c') (st := st) (Inv := Inv) (l := l) (K := Kf) (fp := fp) (L := L) (bd := bdf L) (γ := γ) (H := H) (s := s) (C := G2.objs.size)
      (cg.env env hE _ _) hA R lr (fun e ie h => ih c' e ie (cg.gok g) h) hce F itr tg ?_ 0 [] γ2 H2 _ (Nat.zero_le _) (by simp) hlen ?_ cgo
    · intro γ' H' s' acc ci hK h' tk hk
      refine e2_2 (ci.out) fun ys ny hy ry => ?_
      have hIg : I ∉ γ' := (ci.fps I itr.mem).1
      have nt := fun ws => itr.notTup γ' l.length s'.heap ws ci.inv
      refine fin γ' H' _ _ _ acc (ci.stp.change (tk := tk) hk F.i0) (ci.rel.but hk hIg (base_none R F.i0) nt) ⟨ys, ny, hk _ _ (fun q => F.df (q ▸ itr.mem)) hy, Reps.mono ⟨[], by simp⟩ (fun _ _ q => tupAt_but hk nt q) ry⟩ ci.dnin F.d0 ?_ ci.cnin F.c0 hDC hK
      obtain ⟨m, hm⟩ := ci.loc
      exact ⟨m, hm.at' fun o e => hk _ o (fun q => F.cf (q ▸ itr.mem)) e⟩
    · refine ⟨stp2.trans0 R2 st3, R2.grow old, ⟨[], 0, hacc, (show Reps _ _ _ [] [] from rfl)⟩, nin2 _ (Nat.le_refl _), ⟨_, hns₁⟩, nin2 _ (by rw [hC]; exact Nat.le_succ _), hvar, nin2 _ (Nat.le_of_lt hz), ?_, hst, ?_⟩
      · exact itr.frame γ2 γ2 0 s2.heap h₁ iv ⟨[], by simp⟩ (fun b hb o e => old b o e) (fun _ _ q => tupAt_grow old q)
      · intro b hb
        refine e0_3 (fps b hb) fun a e_185 _ => ?_
        obtain ⟨o, e⟩ := e_185
        exact ⟨a, o, old b o e⟩
  have iv1 : Inv γ2 0 h₁ := itr.frame γ2 γ2 0 s2.heap h₁ iv ⟨[], by simp⟩ (fun b hb o e => old b o e) (fun _ _ q => tupAt_grow old q)
  exact codeAny_compStart_list (loop _ rfl) (itr.self γ2 0 _ _ _ iv1 (loop _ rfl))
theorem e_comp {n : Nat} {elt iter tgt : Expr} {pos : Pos} {scope : Scope} {c' : CC} {ielt : IE} {kk : SrcK} {ss ie : IE} {bdf : Lc → V → Option Lc} (g : GOk D c.G c.mts) (ih : ∀ c e ie, GOk D c.G c.mts → compE n c e = some ie → Both D Φ k c e ie) (cg : CompG D k c scope tgt c' bdf)
    (hsrc : compSrc (compE n c) c iter = some (kk, ss)) (hce : compE n c' elt = some ielt) (hset : ∀ env x, foldedSetIterable iter env x = pure x) (hie : wp2 Φ ie = compW Φ ss kk ielt bdf) :
    Both D Φ k c (.ListComp elt [⟨tgt, iter, [], 0⟩] scope pos) ie := by
  refine both_plain (fun env A γ H s L Q X hE hA R lr w => ?_) (by rw [hie]; rfl) (fun _ _ => rfl)
  rw [hie] at w
  rw [eval_ListComp]
  refine comp_run (use := none) (cp := _) g ih cg hsrc hce hE hA R lr (hset env) w ?_
  intro γ' H' s' Dd C acc stp R' ho dn d0 hc cn c0 hdc hK
  obtain ⟨m, hm⟩ := hc
  refine ⟨m, hm, fun h' hs => ?_⟩
  have hk : ∀ b o, b ≠ C → s'.heap.get? b = some o → h'.get? b = some o := fun b o hb e => hs.extBut b o hb e
  have nt := notTup_dict hm
  refine e2_2 ho fun ys ny hy ry => ?_
  have R'' : HRel D γ' H' h' := R'.but hk cn (base_none R c0) nt
  have hy' := hk _ _ hdc hy
  have ry' : Reps D γ' h' ys acc := Reps.mono ⟨[], by simp⟩ (fun _ _ q => tupAt_but hk nt q) ry
  exact PostV.adopt (h' := h') (tk := s'.toks) (stp.change hk c0) R'' ry' (by have := hK.1; lia) dn d0 (base_none R d0) hy' hK.2
end
end Mine
namespace Mine
open PySem PyProof.Rows
section
variable {D : Wd} {Φ : Orc} {k : Nat}
theorem noSetIter {iter : Expr} {n : Nat} {c : CC} {p : SrcK × IE} (h : compSrc (compE n c) c iter = some p) : ∀ env x, foldedSetIterable iter env x = pure x := by
  intro env x
  cases iter <;> first | rfl | (cases n <;> exact no_some h)
theorem opt_part {lo : Option Expr} {il : Option IE} {n : Nat} {c : CC} {env : Env} {A : Around} {γ : List Addr} {H : Hp} {s : Shared} {L : Lc} {Q : V → Hp → Prop} {X : XL} (ih : ∀ e ie, compE n c e = some ie → SE D Φ k c e ie) (h : optE (compE n c) lo = some il)
    (hE : EnvOk c env) (hA : AOk D k A) (R : HRel D γ H s.heap) (lr : LRel D γ env c.slots s.heap L) (w : wpO Φ il L H Q X) : wpAny D.M A (evalPart lo env) (PostV D γ s Q) (PostX D γ s X) s := by
  cases lo with
  | none => obtain rfl := Option.some.inj h; exact wpAny_evalPart_none (PostV.here (V := .none) R (show Rep _ _ _ _ .none from rfl) w)
  | some e =>
    refine e1_2 (Option.map_eq_some_iff.mp h) fun a ha e_186 => ?_
    obtain rfl := e_186
    exact wpAny_evalPart_some (ih _ _ ha env A γ H s L Q X hE hA R lr w)
theorem e_slice {o : Expr} {p pos : Pos} {lo hi : Option Expr} {n : Nat} {c : CC} {io : IE} {il ih' : Option IE} (ih : ∀ e ie, compE n c e = some ie → SE D Φ k c e ie) (ho : compE n c o = some io) (hl : optE (compE n c) lo = some il) (hh : optE (compE n c) hi = some ih') :
    Both D Φ k c (.Subscript o (.Slice lo hi none p) pos) (.slice io il ih') := by
  refine both_plain (fun env A γ H s L Q X hE hA R lr w => ?_) rfl (fun _ _ => rfl)
  refine Subscript_ (andThen (ih _ _ ho env A γ H s L _ X hE hA R lr w) ?_)
  intro vo s1 γ1 Vo H1 st1 R1 ro q1
  refine wpAny_Slice (thenV st1 R1 (opt_part ih hl hE hA R1 (lr.stp R st1) q1) ?_)
  intro vl s2 γ2 Vl H2 st2 R2 rl q2
  have st02 := st1.trans0 R1 st2
  refine thenV st02 R2 (opt_part ih hh hE hA R2 (lr.stp R st02) q2) ?_
  intro vh s3 γ3 Vh H3 st3 R3 rh q3
  rw [evalPart_none]
  refine wpAny_pure ?_
  exact wpAny_mono (slice_ok R3 ((ro.stp0 R1 st2).stp0 R2 st3) (rl.stp0 R2 st3) rh q3) (fun _ _ x => x.back (st02.trans0 R2 st3) R3) (fun _ _ x => x)
theorem isM1_some {e : Expr} (h : isM1 e = true) : ∃ n p p', e = .UnaryOp .USub (.Constant (.int 1) n p) p' := by
  cases e with
  | UnaryOp o e p =>
    cases o with
    | USub =>
      cases e with
      | Constant k n p2 =>
        cases k with
        | int i => rw [show i = 1 from eq_of_beq h]; exact ⟨n, p2, p, rfl⟩
        | _ => exact Bool.noConfusion h
      | _ => exact Bool.noConfusion h
    | _ => exact Bool.noConfusion h
  | _ => exact Bool.noConfusion h
theorem e_rev {o e : Expr} {p pos : Pos} {c : CC} {io : IE} (ho : SE D Φ k c o io) (he : isM1 e = true) : Both D Φ k c (.Subscript o (.Slice none none (some e) p) pos) (.rev io) := by
  refine both_plain (fun env A γ H s L Q X hE hA R lr w => ?_) rfl (fun _ _ => rfl)
  refine e3_1 (isM1_some he) fun n p1 p2 e_187 => ?_
  obtain rfl := e_187
  refine Subscript_ (andThen (ho env A γ H s L _ X hE hA R lr w) ?_)
  intro vo s1 γ1 Vo H1 st1 R1 ro q1
  refine wpAny_Slice (wpAny_evalPart_none (wpAny_evalPart_none (wpAny_evalPart_some (UnaryOp_ (wpAny_Constant_int (neg_int ?_))))))
  have st2 : Stp [] γ1 γ1 s1 { s1 with toks := s1.toks + 1 + 1 } := stp_grow fun _ _ e => e
  exact wpAny_mono (rev_ok (s := { s1 with toks := s1.toks + 1 + 1 }) R1 ro (.int (-1) _) q1) (fun _ _ x => (x.back st2 R1).back st1 R1) (fun _ _ x => x)
theorem okComp_of {scope outer : Scope} (hok : okComp scope outer = true) : scope.kind = .function ∧ (∀ y ∈ scope.names, y.2 = .local → scope.names.lookup y.1 = some .local) ∧ (∀ y ∈ scope.names, y.2 = .free → outer.names.lookup y.1 = some .cell) := by
  unfold okComp at hok
  simp only [Bool.and_eq_true, beq_iff_eq, List.all_eq_true, Bool.or_eq_true, bne_iff_ne, ne_eq] at hok
  exact ⟨hok.1, fun y hy hl => (hok.2 y hy).1.resolve_left fun q => q hl, fun y hy hf => ((hok.2 y hy).2.resolve_left fun q => q hf).2⟩
theorem compOk_of {c : CC} {scope : Scope} {x : Str} {a : Int} (hs : okC c scope x a = true) : a = 0 ∧ CompOk c scope x := by
  unfold okC okVar at hs
  simp only [Bool.and_eq_true, Bool.or_eq_true] at hs
  obtain ⟨⟨⟨⟨ha, hok⟩, hvar⟩, hown⟩, hlow⟩ := hs
  refine e0_3 (okComp_of hok) fun k1 k3 k4 => ?_
  rw [List.all_eq_true] at hown hlow
  refine ⟨eq_of_beq ha, k1, k3, k4, hvar.imp (fun h => ⟨eq_of_beq h.1, List.isEmpty_iff.mp h.2⟩) (fun h => ⟨eq_of_beq h.1, eq_of_beq h.2⟩), fun y hy => ?_, fun y i hl => of_decide_eq_true (hlow (y, i) (mem_of_lookup hl))⟩
  have := hown (y, .local) hy
  simp only [Bool.or_eq_true, bne_iff_ne, ne_eq, beq_iff_eq, Option.isNone_iff_eq_none] at this
  rcases this with (q | q) | q
  · exact absurd trivial q
  · exact .inl q
  · exact .inr q
theorem compOk2_of {c : CC} {scope : Scope} {x y : Str} {a : Int} (hs : okC2 c scope x y a = true) : a = 0 ∧ CompOk2 c scope x y := by
  unfold okC2 at hs
  simp only [Bool.and_eq_true] at hs
  obtain ⟨⟨⟨⟨ha, hok⟩, ⟨⟨⟨hx, hy⟩, hne⟩, hnc⟩⟩, hown⟩, hlow⟩ := hs
  refine e0_3 (okComp_of hok) fun k1 k3 k4 => ?_
  rw [List.all_eq_true] at hown hlow
  refine ⟨eq_of_beq ha, k1, k3, k4, eq_of_beq hx, eq_of_beq hy, fun q => ?_, List.isEmpty_iff.mp hnc, fun w hw => ?_, fun y i hl => of_decide_eq_true (hlow (y, i) (mem_of_lookup hl))⟩
  · rw [q, beq_self_eq_true] at hne; exact Bool.noConfusion hne
  · have := hown (w, .local) hw
    simp only [Bool.or_eq_true, bne_iff_ne, ne_eq, beq_iff_eq, Option.isNone_iff_eq_none] at this
    rcases this with ((q | q) | q) | q
    · exact absurd trivial q
    · exact .inl q
    · exact .inr (.inl q)
    · exact .inr (.inr q)
theorem lc_inv {n : Nat} {c : CC} {elt : Expr} {gens : List Comprehension} {scope : Scope} {ie : IE} (h0 : cLc (compE n) c elt gens scope = some ie) :
    ∃ tgt iter kk ss ielt c' bdf, gens = [⟨tgt, iter, [], 0⟩] ∧ CompG D k c scope tgt c' bdf ∧ compSrc (compE n c) c iter = some (kk, ss) ∧ compE n c' elt = some ielt ∧ wp2 Φ ie = compW Φ ss kk ielt bdf := by
  refine e1_2 (on1_some h0) fun e_188 e0 h1 => ?_
  obtain ⟨tgt, iter, ifs, a⟩ := e_188
  clear h0
  subst e0
  have h : (match isTup tgt with
    | true => onTup tgt fun ts => on2 ts fun tx ty => onName tx fun x => onName ty fun y => onlyIf (okC2 c scope x y a && ifs.isEmpty) (oTwo (fun ks e => IE.comp2 e c.nxt ks.1 ks.2) (compSrc (compE n c) c iter) (compE n (innerC2 c scope x y) elt))
    | false => onName tgt fun x => onlyIf (okC c scope x a && ifs.isEmpty) (oTwo (fun ks e => IE.comp e c.nxt ks.1 ks.2) (compSrc (compE n c) c iter) (compE n (innerC c scope x) elt))) = some ie := h1
  clear h1
  cases ht : isTup tgt with
  | true =>
    rw [ht] at h
    refine e3_2 (onTup_some h) fun es kt tp e1 h2 => ?_
    clear h
    refine e2_2 (on2_some h2) fun tx ty e2 h => ?_
    clear h2
    refine e2_2 (onName_some h) fun x px e3 h2 => ?_
    clear h
    refine e2_2 (onName_some h2) fun y py e4 h => ?_
    clear h2
    subst e4 e3 e2 e1
    obtain ⟨hs, h5⟩ := onlyIf_some h
    rw [Bool.and_eq_true] at hs
    obtain ⟨ha, ok⟩ := compOk2_of hs.1
    refine e2_3 (oTwo_some h5) fun ks e k1 k2 e_189 => ?_
    obtain rfl := e_189
    exact ⟨_, iter, ks.1, ks.2, e, _, _, by rw [ha, List.isEmpty_iff.mp hs.2], cg_pair ok, k1, k2, rfl⟩
  | false =>
    rw [ht] at h
    refine e2_2 (onName_some h) fun x px e1 h2 => ?_
    clear h
    subst e1
    obtain ⟨hs, h5⟩ := onlyIf_some h2
    rw [Bool.and_eq_true] at hs
    obtain ⟨ha, ok⟩ := compOk_of hs.1
    refine e2_3 (oTwo_some h5) fun ks e k1 k2 e_190 => ?_
    obtain rfl := e_190
    exact ⟨_, iter, ks.1, ks.2, e, _, _, by rw [ha, List.isEmpty_iff.mp hs.2], cg_name ok, k1, k2, rfl⟩
theorem e_lc {n : Nat} {c : CC} {elt : Expr} {gens : List Comprehension} {scope : Scope} {pos : Pos} {ie : IE} (g : GOk D c.G c.mts) (ih : ∀ c e ie, GOk D c.G c.mts → compE n c e = some ie → Both D Φ k c e ie) (h : cLc (compE n) c elt gens scope = some ie) : Both D Φ k c (.ListComp elt gens scope pos) ie := by
  obtain ⟨tgt, iter, kk, ss, ielt, c', bdf, rfl, cg, h1, h2, hie⟩ := lc_inv (D := D) (Φ := Φ) (k := k) h
  exact e_comp g ih cg h1 h2 (noSetIter h1) hie
theorem isBk_some {o : Option V} (h : isBk o = true) : o = some .bk := by
  cases o with
  | none => exact Bool.noConfusion h
  | some v => cases v with
    | bk => rfl
    | _ => exact Bool.noConfusion h
theorem e_fn {n : Nat} {c : CC} {fn : Expr} {args : List Expr} {p : Pos} {ie : IE} (hO : OrcOk D k Φ) (g : GOk D c.G c.mts) (ihE : ∀ e ie, compE n c e = some ie → SE D Φ k c e ie) (h : cCall (compE n c) c fn args p = some ie) : Both D Φ k c (.Call fn args [] p) ie := by
  obtain ⟨hs, h⟩ := onlyIf_some h
  rw [Bool.and_eq_true, Bool.not_eq_true'] at hs
  cases fn with
  | Name x px =>
    have h : (match isBk (globV c x) with
      | true => onlyIf args.isEmpty (some IE.new)
      | false => oTwo IE.call (globV c x) (mapO (compE n c) args)) = some ie := h
    cases hb : isBk (globV c x) with
    | true =>
      rw [hb] at h
      obtain ⟨h0, h⟩ := onlyIf_some h
      obtain rfl : args = [] := List.isEmpty_iff.mp h0
      obtain rfl := Option.some.inj h
      exact e_new g hO (isBk_some hb)
    | false =>
      rw [hb] at h
      refine e2_3 (oTwo_some h) fun a b h1 h2 e_192 => ?_
      obtain rfl := e_192
      exact e_call g hO ihE hs.1 h1 h2
  | Attribute o name apos =>
    obtain ⟨hs2, h⟩ := onlyIf_some h
    rw [Bool.and_eq_true] at hs2
    have hl := Nat.eq_of_beq_eq_true hs2.2
    cases hm : mtOf name with
    | some m =>
      rw [hm] at h
      have h : (match m.one with
        | true => on1 args fun a => oTwo (fun v i => IE.meth v m [i]) (compE n c o) (compE n c a)
        | false => onlyIf args.isEmpty ((compE n c o).map fun v => IE.meth v m [])) = some ie := h
      rw [mtOf_some hm]
      cases h1 : m.one with
      | true =>
        rw [h1] at h
        refine e1_2 (on1_some h) fun a e_193 h => ?_
        obtain rfl := e_193
        refine e2_3 (oTwo_some h) fun v ia ho hia e_194 => ?_
        obtain rfl := e_194
        have hst := hs.1
        rw [List.any_cons, Bool.or_eq_false_iff] at hst
        exact e_meth (ihE _ _ ho) (ihE _ _ hia) hs2.1 hl hst.1 h1
      | false =>
        rw [h1] at h
        obtain ⟨h0, h⟩ := onlyIf_some h
        obtain rfl : args = [] := List.isEmpty_iff.mp h0
        refine e1_2 (Option.map_eq_some_iff.mp h) fun v ho e_195 => ?_
        obtain rfl := e_195
        exact e_meth0 (ihE _ _ ho) hs2.1 hl h1
    | none =>
      rw [hm] at h
      obtain ⟨hc, h⟩ := onlyIf_some h
      refine e2_3 (oTwo_some h) fun v as ho ha e_196 => ?_
      obtain rfl := e_196
      exact e_mcall g hO ihE (ihE _ _ ho) hc hs2.1 hl hs.1 (Nat.ble_eq.mp hs.2) ha
  | _ => exact no_some h
theorem e_cm {n : Nat} {c : CC} {l : Expr} {ops : List CmpOp} {rs : List Expr} {p : Pos} {ie : IE} (ihE : ∀ e ie, compE n c e = some ie → SE D Φ k c e ie) (h : cCmp (compE n c) (compE n c l) ops rs = some ie) : Both D Φ k c (.Compare l ops rs p) ie := by
  cases ops with
  | nil => exact no_some h
  | cons op ops =>
    cases ops with
    | nil =>
      refine e1_2 (on1_some (show on1 rs _ = some ie from h)) fun r e_197 h => ?_
      obtain rfl := e_197
      refine e2_3 (oTwo_some h) fun a b h1 h2 e_198 => ?_
      obtain rfl := e_198
      exact e_cmp (ihE _ _ h1) (ihE _ _ h2) (noMarks h2)
    | cons op2 ops =>
      obtain ⟨hl, h⟩ := onlyIf_some (show onlyIf _ _ = some ie from h)
      refine e2_2 (on2_some h) fun r r' e_199 h => ?_
      obtain rfl := e_199
      refine e3_4 (oThree_some h) fun a b d h1 h2 h3 e_200 => ?_
      obtain rfl := e_200
      cases ops with
      | nil => exact e_cmp2 (ihE _ _ h1) (ihE _ _ h2) (ihE _ _ h3) (noMarks h3)
      | cons _ _ => exact Bool.noConfusion hl
theorem soundE (hO : OrcOk D k Φ) : ∀ (n : Nat) (c : CC) (e : Expr) (ie : IE), GOk D c.G c.mts → compE n c e = some ie → Both D Φ k c e ie := by
  intro n
  induction n with
  | zero => intro c e ie g h; exact no_some h
  | succ n ih =>
    intro c e ie g h
    have ihB : ∀ e ie, compE n c e = some ie → Both D Φ k c e ie := fun e ie h => ih c e ie g h
    have ihE : ∀ e ie, compE n c e = some ie → SE D Φ k c e ie := fun e ie h => (ihB e ie h).1
    cases e with
    | Constant kk a b =>
      obtain ⟨W, hW, rfl⟩ := Option.map_eq_some_iff.mp h; exact e_const hW
    | Name x p => exact e_name g h
    | BinOp l op r p => obtain ⟨a, b, h1, h2, rfl⟩ := oTwo_some h; exact e_bin (ihE _ _ h1) (ihE _ _ h2)
    | UnaryOp op x p =>
      cases op with
      | USub => obtain ⟨a, ha, rfl⟩ := Option.map_eq_some_iff.mp h; exact e_neg (ihE _ _ ha)
      | Not => obtain ⟨a, ha, rfl⟩ := Option.map_eq_some_iff.mp h; exact e_not (ihB _ _ ha)
      | _ => exact no_some h
    | BoolOp op vs p =>
      refine e1_2 (Option.bind_eq_some_iff.mp h) fun ies h1 h2 => ?_
      cases op with
      | And => exact e_and ihB h1 h2
      | Or => exact e_or ihB h1 h2
    | IfExp t a b p => obtain ⟨a, b, d, h1, h2, h3, rfl⟩ := oThree_some h; exact e_ite (ihB _ _ h1) (ihB _ _ h2) (ihB _ _ h3)
    | Compare l ops rs p => exact e_cm ihE h
    | Tuple es a p =>
      obtain ⟨hs, h⟩ := onlyIf_some h
      refine e1_2 (Option.map_eq_some_iff.mp h) fun a ha e_201 => ?_
      obtain rfl := e_201
      exact e_tup ihE (bnot hs) ha
    | List es p =>
      obtain ⟨hs, h⟩ := onlyIf_some h
      refine e1_2 (Option.map_eq_some_iff.mp h) fun a ha e_202 => ?_
      obtain rfl := e_202
      exact e_lst ihE (bnot hs) ha
    | Call f args kw p =>
      obtain ⟨hs, h⟩ := onlyIf_some h
      obtain rfl : kw = [] := List.isEmpty_iff.mp hs
      exact e_fn hO g ihE h
    | Subscript o i p =>
      have plain : oTwo IE.sub (compE n c o) (compE n c i) = some ie → Both D Φ k c (.Subscript o i p) ie := fun h => by
        refine e2_3 (oTwo_some h) fun a b h1 h2 e_203 => ?_
        obtain rfl := e_203
        exact e_sub (ihE _ _ h1) (ihE _ _ h2) (noSlice h2)
      cases i with
      | Slice lo hi st sp =>
        cases st with
        | none =>
          refine e3_4 (oThree_some (show oThree IE.slice _ _ _ = some ie from h)) fun a b d h1 h2 h3 e_204 => ?_
          obtain rfl := e_204
          exact e_slice ihE h1 h2 h3
        | some e =>
          obtain ⟨hc, h⟩ := onlyIf_some (show onlyIf _ _ = some ie from h)
          rw [Bool.and_eq_true, Bool.and_eq_true] at hc
          refine e1_2 (Option.map_eq_some_iff.mp h) fun a ha e_205 => ?_
          obtain rfl := e_205
          obtain rfl := Option.isNone_iff_eq_none.mp hc.1.2
          obtain rfl := Option.isNone_iff_eq_none.mp hc.2
          exact e_rev (ihE _ _ ha) hc.1.1
      | _ => exact plain h
    | ListComp elt gens scope pos => exact e_lc g ih h
    | Attribute o x p =>
      obtain ⟨hc, h⟩ := onlyIf_some h
      rw [Bool.and_eq_true] at hc
      refine e1_2 (Option.map_eq_some_iff.mp h) fun a ha e_206 => ?_
      obtain rfl := e_206
      exact e_attr g (ihE _ _ ha) hc.1 hc.2
    | Dict ks vs p =>
      obtain ⟨hc, h⟩ := onlyIf_some h
      rw [Bool.and_eq_true] at hc
      obtain rfl := Option.some.inj h
      obtain rfl := List.isEmpty_iff.mp hc.1
      obtain rfl := List.isEmpty_iff.mp hc.2
      exact e_dct
    | _ => exact no_some h
end
end Mine
namespace Mine
open PySem PyProof.Rows
noncomputable def ownA (env : Env) : List Addr := env.locals :: env.cells.map (·.2)
structure FRel (D : Wd) (γ : List Addr) (env : Env) (slots : List (Str × Nat)) (h : Heap) (L : Lc) : Prop where
  l : LRel D γ env slots h L
  own : ∀ a ∈ ownA env, a ∉ γ ∧ D.hB.get? a = none ∧ (∃ o, h.get? a = some o) ∧ ∀ ws, ¬ TupAt h a ws
  apart : env.cells.Pairwise fun x y => x.2 ≠ y.2
  above : ∀ p ∈ env.cells, p.2 ≠ env.locals
noncomputable def FlRep (mg : Wd) (γ : List Addr) (h : Heap) (fl : Flow) (F : Fl) : Prop := match F with
  | .next => fl = .next
  | .cont => fl = .cont
  | .ret V => ∃ v, fl = .ret v ∧ Rep mg γ h v V
noncomputable def PostF (D : Wd) (γ : List Addr) (s : Shared) (env : Env) (slots : List (Str × Nat)) (Q : QS) (fl : Flow) (s' : Shared) : Prop :=
  ∃ γ' H' L' F, Stp (ownA env) γ γ' s s' ∧ HRel D γ' H' s'.heap ∧ FRel D γ' env slots s'.heap L' ∧ FlRep D γ' s'.heap fl F ∧ Q F L' H'
noncomputable def PostE (_ : Wd) (_ : List Addr) (_ : Shared) (_ : Env) (_ : List (Str × Nat)) (_ : XS) (_ : Value) (_ : Shared) : Prop := False
structure SlotsOk (c : CC) : Prop where
  inj : ∀ (x y : Str) (i : Nat), c.slots.lookup x = some i → c.slots.lookup y = some i → x = y
section
variable {D : Wd} {Φ : Orc} {k : Nat} {γ γ1 : List Addr} {H H1 : Hp} {s s1 : Shared} {env : Env} {slots : List (Str × Nat)} {L : Lc}
theorem FRel.stp (f : FRel D γ env slots s.heap L) (R : HRel D γ H s.heap) (t : Stp [] γ γ1 s s1) : FRel D γ1 env slots s1.heap L where
  l := f.l.stp R t
  own := fun a ha => by
    refine e0_4 (f.own a ha) fun h1 h2 e_207 h3 => ?_
    obtain ⟨o, e⟩ := e_207
    have e' := t.keep _ _ h1 (fun h => nomatch h) e
    refine ⟨notin_ext t h1 e, h2, ⟨_, e'⟩, fun ws q => h3 ws ?_⟩
    refine e1_2 q fun n q1 q2 => ?_
    rw [e', ← e] at q1
    exact ⟨n, q1, q2⟩
  apart := f.apart
  above := f.above
theorem Stp.transF {wr γ2 : List Addr} {s2 : Shared} (R1 : HRel D γ1 H1 s1.heap) (a : Stp wr γ γ1 s s1) (b : Stp wr γ1 γ2 s1 s2) (hw : ∀ x ∈ wr, ∃ o', s1.heap.get? x = some o') : Stp wr γ γ2 s s2 :=
  a.trans R1 b (fun x hx _ _ => hw x hx)
theorem FRel.alive (f : FRel D γ env slots s.heap L) : ∀ x ∈ ownA env, ∃ o', s.heap.get? x = some o' := fun x hx => by
  obtain ⟨_, _, e, _⟩ := f.own x hx; exact e
theorem PostF.back {Q : QS} {fl : Flow} {s' : Shared} {L1 : Lc} (t : Stp (ownA env) γ γ1 s s1) (R : HRel D γ1 H1 s1.heap) (f : FRel D γ1 env slots s1.heap L1) (h : PostF D γ1 s1 env slots Q fl s') : PostF D γ s env slots Q fl s' := by
  refine e4_5 h fun γ' H' L' F a b c d e => ?_
  exact ⟨γ', H', L', F, t.transF R a f.alive, b, c, d, e⟩
theorem PostE.back {X : XS} {e : Value} {s' : Shared} {L1 : Lc} (_ : Stp (ownA env) γ γ1 s s1) (_ : HRel D γ1 H1 s1.heap) (_ : FRel D γ1 env slots s1.heap L1) (h : PostE D γ1 s1 env slots X e s') : PostE D γ s env slots X e s' := h
theorem PostX.toE {X : XS} {e : Value} {s' : Shared} (_ : FRel D γ env slots s.heap L) (_ : HRel D γ H s.heap) (h : PostX D γ s (fun x => X x L) e s') : PostE D γ s env slots X e s' := h
theorem lookup_cell_mem {x : Str} {c : Addr} (h : env.cells.lookup x = some c) : c ∈ ownA env := List.mem_cons_of_mem _ (List.mem_map.mpr ⟨(x, c), mem_of_lookup h, rfl⟩)
theorem notTup_cell {h : Heap} {c : Addr} {u : Option Value} (x : h.IsCell c u) (ws : List Value) : ¬ TupAt h c ws := fun q => by
  refine e1_2 x fun o e d => ?_
  refine e1_2 q fun n e' _ => ?_
  rw [e] at e'; cases e'; cases d
theorem notTup_same {h h' : Heap} {a : Addr} {o : Obj} (e : h.get? a = some o) (e' : h'.get? a = some o) (q : ∀ ws, ¬ TupAt h a ws) (ws : List Value) : ¬ TupAt h' a ws := fun x => by
  refine e1_2 x fun n q1 q2 => ?_
  rw [e'] at q1; cases q1
  exact q ws ⟨n, e, q2⟩
theorem store_ok {c : CC} {A : Around} {E : Value → Shared → Prop} {x : Str} {i : Nat} {v : Value} {W : V} (hE : EnvOk c env) (so : SlotsOk c) (R : HRel D γ H s.heap) (f : FRel D γ env c.slots s.heap L) (hs : slotV c x = some i) (rv : Rep D γ s.heap v W) :
    wpAny D.M A (storeName env x v) (fun _ s' => Stp (ownA env) γ γ s s' ∧ HRel D γ H s'.heap ∧ FRel D γ env c.slots s'.heap (L.set i (some W))) E s := by
  have hkf : env.scope.kind = .function := by rw [hE.scope]; exact hE.kind
  have hkind : ∀ y, env.kindOf y = c.scope.names.lookup y := fun y => by unfold Env.kindOf; rw [hE.scope]
  refine e1_2 (Option.bind_eq_some_iff.mp hs) fun kk hk hs => ?_
  have hk' : env.kindOf x = some kk := (hkind x).trans hk
  cases kk with
  | «local» =>
    have hs : c.slots.lookup x = some i := hs
    refine e1_2 (f.l.ns) fun m hn fm => ?_
    refine e0_4 (f.own env.locals List.mem_cons_self) fun lg lB _ cL => ?_
    refine wpAny_storeName_local hk' hn (fun h' hn' hs' => ?_) (by rw [hkf]; rfl)
    have hkk : ∀ b o, b ≠ env.locals → s.heap.get? b = some o → h'.get? b = some o := fun b o hb e => hs'.extBut b o hb e
    have tt : ∀ a ws, TupAt s.heap a ws → TupAt h' a ws := fun a ws q => tupAt_but hkk cL q
    refine ⟨⟨⟨_, _, rfl⟩, fun b o _ hb e => hkk b o (fun q => hb (q ▸ List.mem_cons_self)) e, ⟨[], by simp, by simp⟩⟩, R.but hkk lg lB cL, ⟨⟨⟨_, hn', ?_⟩, ?_, lg⟩, ?_, f.apart, f.above⟩⟩
    · intro y j V hy hj hL
      by_cases hxy : y = x
      · subst hxy
        rw [hs] at hj; obtain rfl := Option.some.inj hj
        obtain rfl := set_get hL
        exact ⟨v, by simp, Rep.mono ⟨[], by simp⟩ tt rv⟩
      · have hij : i ≠ j := fun q => hxy (so.inj y x i (q ▸ hj) hs)
        rw [List.getElem?_set_ne hij] at hL
        refine e1_2 (fm y j V hy hj hL) fun u hu ru => ?_
        exact ⟨u, by simp [hxy, hu], Rep.mono ⟨[], by simp⟩ tt ru⟩
    · intro y hy
      refine e2_4 (f.l.cel y hy) fun ca u e1 e2 e3 e4 => ?_
      refine ⟨ca, u, e1, e2.sameBut hs' (f.above (y, ca) (mem_of_lookup e1)), e3, fun j V hj hL => ?_⟩
      have hij : i ≠ j := fun q => by
        have := so.inj y x i (q ▸ hj) hs
        subst this; rw [hy] at hk'; cases hk'
      rw [List.getElem?_set_ne hij] at hL
      refine e1_2 (e4 j V hj hL) fun w hw rw_ => ?_
      exact ⟨w, hw, Rep.mono ⟨[], by simp⟩ tt rw_⟩
    · intro a ha
      refine e0_4 (f.own a ha) fun a1 a2 e_208 a3 => ?_
      obtain ⟨o, e⟩ := e_208
      by_cases hal : a = env.locals
      · subst hal
        exact ⟨a1, a2, (let ⟨o', _, _, eo, _⟩ := hn'; ⟨o', eo⟩), notTup_dict hn'⟩
      · exact ⟨a1, a2, ⟨o, hkk _ _ hal e⟩, notTup_same e (hkk _ _ hal e) a3⟩
  | cell =>
    have hs : c.slots.lookup x = some i := hs
    refine e2_4 (f.l.cel x hk') fun ca u e1 e2 e3 e4 => ?_
    refine e0_4 (f.own ca (lookup_cell_mem e1)) fun lg lB _ cL => ?_
    have hcl : ca ≠ env.locals := f.above (x, ca) (mem_of_lookup e1)
    refine wpAny_storeName_cell hkf hk' e1 e2 (fun h' hc' hs' => ?_)
    have hkk : ∀ b o, b ≠ ca → s.heap.get? b = some o → h'.get? b = some o := fun b o hb e => hs'.extBut b o hb e
    have tt : ∀ a ws, TupAt s.heap a ws → TupAt h' a ws := fun a ws q => tupAt_but hkk cL q
    refine e1_2 (f.l.ns) fun m hn fm => ?_
    refine ⟨⟨⟨_, s.toks, rfl⟩, fun b o _ hb e => hkk b o (fun q => hb (q ▸ lookup_cell_mem e1)) e, ⟨[], by simp, by simp⟩⟩, R.but hkk lg lB cL, ⟨⟨⟨m, hn.sameBut hs' (Ne.symm hcl), ?_⟩, ?_, f.l.nin⟩, ?_, f.apart, f.above⟩⟩
    · intro y j V hy hj hL
      have hij : i ≠ j := fun q => by
        have := so.inj y x i (q ▸ hj) hs
        subst this; rw [hy] at hk'; cases hk'
      rw [List.getElem?_set_ne hij] at hL
      refine e1_2 (fm y j V hy hj hL) fun w hw rw_ => ?_
      exact ⟨w, hw, Rep.mono ⟨[], by simp⟩ tt rw_⟩
    · intro y hy
      by_cases hxy : y = x
      · subst hxy
        refine ⟨ca, some v, e1, hc', e3, fun j V hj hL => ?_⟩
        rw [hs] at hj; obtain rfl := Option.some.inj hj
        obtain rfl := set_get hL
        exact ⟨v, rfl, Rep.mono ⟨[], by simp⟩ tt rv⟩
      · refine e2_4 (f.l.cel y hy) fun cb u' f1 f2 f3 f4 => ?_
        have hne : cb ≠ ca := fun q => hxy (name_of_addr f.apart (mem_of_lookup f1) (q ▸ mem_of_lookup e1))
        refine ⟨cb, u', f1, f2.sameBut hs' hne, f3, fun j V hj hL => ?_⟩
        have hij : i ≠ j := fun q => hxy (so.inj y x i (q ▸ hj) hs)
        rw [List.getElem?_set_ne hij] at hL
        refine e1_2 (f4 j V hj hL) fun w hw rw_ => ?_
        exact ⟨w, hw, Rep.mono ⟨[], by simp⟩ tt rw_⟩
    · intro a ha
      refine e0_4 (f.own a ha) fun a1 a2 e_209 a3 => ?_
      obtain ⟨o, e⟩ := e_209
      by_cases hal : a = ca
      · subst hal
        exact ⟨a1, a2, (let ⟨o', eo, _⟩ := hc'; ⟨o', eo⟩), notTup_cell hc'⟩
      · exact ⟨a1, a2, ⟨o, hkk _ _ hal e⟩, notTup_same e (hkk _ _ hal e) a3⟩
  | _ => exact no_some hs
end
section
variable {D : Wd} {γ γ1 : List Addr} {s s1 : Shared} {env : Env} {slots : List (Str × Nat)} {L : Lc}
theorem FRel.butN {h h' : Heap} {I : Addr} (f : FRel D γ env slots h L) (hk : ∀ b o, b ≠ I → h.get? b = some o → h'.get? b = some o) (hI : I ∉ ownA env) (nt : ∀ ws, ¬ TupAt h I ws) : FRel D γ env slots h' L where
  l := {
    ns := by
      refine e1_2 (f.l.ns) fun m n r => ?_
      refine ⟨m, n.at' fun o e => hk _ o (fun q => hI (q ▸ List.mem_cons_self)) e, fun x i V a b c => ?_⟩
      refine e1_2 (r x i V a b c) fun v e q => ?_
      exact ⟨v, e, Rep.mono ⟨[], by simp⟩ (fun _ _ q => tupAt_but hk nt q) q⟩
    cel := fun x hx => by
      refine e2_4 (f.l.cel x hx) fun c u a e_210 hc r => ?_
      obtain ⟨o, ho, hd⟩ := e_210
      refine ⟨c, u, a, ⟨o, hk _ _ (fun q => hI (q ▸ lookup_cell_mem a)) ho, hd⟩, hc, fun i V b d => ?_⟩
      refine e1_2 (r i V b d) fun v e q => ?_
      exact ⟨v, e, Rep.mono ⟨[], by simp⟩ (fun _ _ q => tupAt_but hk nt q) q⟩
    nin := f.l.nin }
  own := fun a ha => by
    refine e0_4 (f.own a ha) fun a1 a2 e_211 a3 => ?_
    obtain ⟨o, e⟩ := e_211
    have e' := hk a o (fun q => hI (q ▸ ha)) e
    exact ⟨a1, a2, ⟨o, e'⟩, notTup_same e e' a3⟩
  apart := f.apart
  above := f.above
theorem Stp.butF {wr : List Addr} {h' : Heap} {tk : Nat} {z : Addr} (t : Stp wr γ γ1 s s1) (hk : ∀ b o, b ≠ z → s1.heap.get? b = some o → h'.get? b = some o) (hz : s.heap.get? z = none) : Stp wr γ γ1 s { s1 with heap := h', toks := tk } := by
  refine ⟨?_, fun b o hb hw e => hk b o (by rintro rfl; rw [hz] at e; exact no_some e) (t.keep b o hb hw e), t.ext⟩
  refine e2_1 (t.same) fun h1 t1 e_212 => ?_
  obtain rfl := e_212
  exact ⟨_, _, rfl⟩
end
end Mine
namespace Mine
open PySem PyProof.Rows
noncomputable def SS (D : Wd) (Φ : Orc) (k : Nat) (c : CC) (st : Stmt) (is : IS) : Prop := ∀ env A γ H s L Q X, EnvOk c env → AOk D k A → HRel D γ H s.heap → FRel D γ env c.slots s.heap L →
  wpS Φ is L H Q X → wpAny D.M A (exec st env) (PostF D γ s env c.slots Q) (PostE D γ s env c.slots X) s
noncomputable def SSs (D : Wd) (Φ : Orc) (k : Nat) (c : CC) (sts : List Stmt) (iss : List IS) : Prop := ∀ env A γ H s L Q X, EnvOk c env → AOk D k A → HRel D γ H s.heap → FRel D γ env c.slots s.heap L →
  wpSs Φ iss L H Q X → wpAny D.M A (execs sts env) (PostF D γ s env c.slots Q) (PostE D γ s env c.slots X) s
section
variable {D : Wd} {Φ : Orc} {k : Nat} {c : CC}
theorem sss_of {f : Stmt → Option IS} (ih : ∀ st is, f st = some is → SS D Φ k c st is) : ∀ (sts : List Stmt) (iss : List IS), mapO f sts = some iss → SSs D Φ k c sts iss
  | [], iss, hm => by
    rw [mapO_nil hm]
    intro env A γ H s L Q X hE hA R fr w
    exact wpAny_execs_nil ⟨γ, H, L, .next, Stp.refl, R, fr, rfl, w⟩
  | st :: r, iss, hm => by
    refine e2_3 (mapO_cons hm) fun b bs e_213 h1 h2 => ?_
    obtain rfl := e_213
    intro env A γ H s L Q X hE hA R fr w
    refine wpAny_execs_cons (wpAny_mono (ih st b h1 env A γ H s L _ X hE hA R fr w) (fun fl s1 p => ?_) fun _ _ x => x)
    refine e4_5 p fun γ1 H1 L1 F st1 R1 fr1 hf q => ?_
    cases F with
    | next =>
      obtain rfl := hf
      exact wpAny_mono (sss_of ih r bs h2 env A γ1 H1 s1 L1 Q X hE hA R1 fr1 q) (fun _ _ x => x.back st1 R1 fr1) fun _ _ x => x.back st1 R1 fr1
    | cont => obtain rfl := hf; exact ⟨γ1, H1, L1, .cont, st1, R1, fr1, rfl, q⟩
    | ret V =>
      refine e1_2 hf fun v e_214 rv => ?_
      obtain rfl := e_214
      exact ⟨γ1, H1, L1, .ret V, st1, R1, fr1, ⟨v, rfl, rv⟩, q⟩
theorem kindF {env : Env} (hE : EnvOk c env) : env.scope.kind = .function := by rw [hE.scope]; exact hE.kind
theorem s_expr {e : Expr} {pos : Pos} {ie : IE} (h : SE D Φ k c e ie) (hc : isComp e = false) : SS D Φ k c (.Expr e pos) (.expr ie) := by
  intro env A γ H s L Q X hE hA R fr w
  have hk := kindF hE
  refine wpAny_Expr_any (wpAny_mono (h env A γ H s L _ _ hE hA R fr.l w) (fun v s1 p => ?_) fun _ _ x => x.toE fr R) (by unfold interactive; rw [hk]; rfl) (by cases e <;> first | rfl | exact Bool.noConfusion hc)
  refine e3_4 p fun γ1 V H1 st R1 rv q => ?_
  exact ⟨γ1, H1, L, .next, st.weak, R1, fr.stp R st, rfl, q⟩
theorem s_ret {e : Expr} {pos : Pos} {ie : IE} (h : SE D Φ k c e ie) : SS D Φ k c (.Return (some e) pos) (.ret ie) := by
  intro env A γ H s L Q X hE hA R fr w
  refine wpAny_Return_some (wpAny_mono (h env A γ H s L _ _ hE hA R fr.l w) (fun v s1 p => ?_) fun _ _ x => x.toE fr R)
  refine e3_4 p fun γ1 V H1 st R1 rv q => ?_
  exact ⟨γ1, H1, L, .ret V, st.weak, R1, fr.stp R st, ⟨v, rfl, rv⟩, q⟩
theorem s_assign {e : Expr} {x : Str} {px pos : Pos} {ie : IE} {i : Nat} (so : SlotsOk c) (h : SE D Φ k c e ie) (hs : slotV c x = some i) (hw : ∀ env, EnvOk c env → swapsWith e (some (.Name x px)) pos.line env = pure false) :
    SS D Φ k c (.Assign [.Name x px] e pos) (.assign i ie) := by
  intro env A γ H s L Q X hE hA R fr w
  refine wpAny_Assign_Name (wpAny_mono (h env A γ H s L _ _ hE hA R fr.l w) (fun v s1 p => ?_) fun _ _ x => x.toE fr R) (hw env hE)
  refine e3_4 p fun γ1 V H1 st R1 rv q => ?_
  refine wpAny_mono (store_ok hE so R1 (fr.stp R st) hs rv) (fun _ s2 p => ?_) fun _ _ x => x
  refine e0_3 p fun st2 R2 fr2 => ?_
  exact ⟨γ1, H1, _, .next, st.weak.transF R1 st2 (fr.stp R st).alive, R2, fr2, rfl, q⟩
theorem valueAt_cons {K : Type} [DecidableEq K] (a : K) (b : Value) (r : List (K × Value)) (y : K) : valueAt ((a, b) :: r) y = if a = y then some b else valueAt r y := by
  unfold valueAt
  rw [List.find?_cons]
  by_cases h : a = y
  · rw [if_pos h, decide_eq_true h]; rfl
  · rw [if_neg h, decide_eq_false h]
theorem valueAt_map {K : Type} [DecidableEq K] (k : K) (v : Value) (y : K) : ∀ kvs : List (K × Value), valueAt (kvs.map fun kv => if kv.1 = k then (kv.1, v) else kv) y = if y = k ∧ (kvs.any fun kv => kv.1 = k) = true then some v else valueAt kvs y
  | [] => by rw [if_neg (fun h => nomatch h.2)]; rfl
  | (a, b) :: r => by
    rw [List.map_cons, List.any_cons]
    by_cases ha : a = k
    · rw [show (if (a, b).1 = k then ((a, b).1, v) else (a, b)) = (a, v) from if_pos ha, valueAt_cons, valueAt_cons, valueAt_map k v y r, show decide ((a, b).1 = k) = true from decide_eq_true ha]
      by_cases hy : y = k
      · rw [if_pos (ha.trans hy.symm), if_pos ⟨hy, rfl⟩]
      · have hay : ¬ a = y := fun q => hy (q.symm.trans ha)
        rw [if_neg hay, if_neg (fun h => hy h.1), if_neg (fun h => hy h.1), if_neg hay]
    · rw [show (if (a, b).1 = k then ((a, b).1, v) else (a, b)) = (a, b) from if_neg ha, valueAt_cons, valueAt_cons, valueAt_map k v y r, show decide ((a, b).1 = k) = false from decide_eq_false ha, Bool.false_or]
      by_cases hay : a = y
      · have hy : ¬ y = k := fun q => ha (hay.trans q)
        rw [if_pos hay, if_pos hay, if_neg (fun h => hy h.1)]
      · rw [if_neg hay, if_neg hay]
theorem valueAt_app {K : Type} [DecidableEq K] (k : K) (v : Value) (y : K) : ∀ kvs : List (K × Value), (kvs.any fun kv => kv.1 = k) = false → valueAt (kvs ++ [(k, v)]) y = if y = k then some v else valueAt kvs y
  | [], _ => by
    rw [List.nil_append, valueAt_cons]
    by_cases hy : y = k
    · rw [if_pos hy.symm, if_pos hy]
    · rw [if_neg (fun q => hy q.symm), if_neg hy]
  | (a, b) :: r, h => by
    rw [List.any_cons, Bool.or_eq_false_iff] at h
    have ha : ¬ a = k := of_decide_eq_false h.1
    rw [List.cons_append, valueAt_cons, valueAt_cons, valueAt_app k v y r h.2]
    by_cases hay : a = y
    · rw [if_pos hay, if_pos hay, if_neg (fun q => ha (hay.trans q))]
    · rw [if_neg hay, if_neg hay]
theorem valueAt_stored {K : Type} [DecidableEq K] (kvs : List (K × Value)) (k : K) (v : Value) (y : K) : valueAt (stored kvs k v) y = if y = k then some v else valueAt kvs y := by
  unfold stored
  cases h : kvs.any fun kv => kv.1 = k with
  | true =>
    rw [if_pos rfl, valueAt_map, h]
    by_cases hy : y = k
    · rw [if_pos ⟨hy, rfl⟩, if_pos hy]
    · rw [if_neg (fun q => hy q.1), if_neg hy]
  | false => rw [if_neg Bool.false_ne_true]; exact valueAt_app k v y kvs h
theorem FsRep.cons {γ : List Addr} {h : Heap} {fs : List (Str × V)} {m : Str → Option Value} {x : Str} {v : Value} {W : V} (f : FsRep D γ h fs m) (r : Rep D γ h v W) : FsRep D γ h ((x, W) :: fs) (fun y => if y = x then some v else m y) := by
  refine ⟨fun y V hy => ?_, fun y hy => ?_⟩
  · rw [List.lookup_cons] at hy
    by_cases hxy : y = x
    · rw [beq_iff_eq.mpr hxy] at hy
      obtain rfl := Option.some.inj hy
      exact ⟨v, if_pos hxy, r⟩
    · rw [beq_eq_false_iff_ne.mpr hxy] at hy
      refine e1_2 (f.1 y V hy) fun u hu ru => ?_
      exact ⟨u, (if_neg hxy).trans hu, ru⟩
  · rw [List.lookup_cons] at hy
    by_cases hxy : y = x
    · rw [beq_iff_eq.mpr hxy] at hy; exact no_some hy.symm
    · rw [beq_eq_false_iff_ne.mpr hxy] at hy
      exact (if_neg hxy).trans (f.2 y hy)
theorem s_set {o i value : Expr} {pos' pos : Pos} {io ii iv : IE} (hv : SE D Φ k c value iv) (ho : SE D Φ k c o io) (hi : SE D Φ k c i ii) (hw : ∀ env, swapsWith value (some (.Subscript o i pos')) pos.line env = pure false) :
    SS D Φ k c (.Assign [.Subscript o i pos'] value pos) (.setItem io ii iv) := by
  intro env A γ H s L Q X hE hA R fr w
  refine wpAny_Assign_Subscript (wpAny_mono (hv env A γ H s L _ _ hE hA R fr.l w) (fun v s1 p => ?_) fun _ _ x => x.toE fr R) (hw env)
  refine e3_4 p fun γ1 V H1 st R1 rv q => ?_
  have fr1 := fr.stp R st
  refine wpAny_mono (ho env A γ1 H1 s1 L _ _ hE hA R1 fr1.l q) (fun ov s2 p => ?_) fun _ _ x => (x.toE fr1 R1).back st.weak R1 fr1
  refine e3_4 p fun γ2 Vo H2 st2 R2 ro q2 => ?_
  have fr2 := fr1.stp R1 st2
  refine wpAny_mono (hi env A γ2 H2 s2 L _ _ hE hA R2 fr2.l q2) (fun iv s3 p => ?_) fun _ _ x => (x.toE fr2 R2).back (st.trans0 R1 st2).weak R2 fr2
  refine e3_4 p fun γ3 Vi H3 st3 R3 ri q3 => ?_
  have fr3 := fr2.stp R2 st3
  have st03 := (st.trans0 R1 st2).trans0 R2 st3
  have rv3 := (rv.stp0 R1 st2).stp0 R2 st3
  have ro3 := ro.stp0 R2 st3
  refine e1_2 (oK_elim q3) fun j hj q3 => ?_
  rw [refV_some hj] at ro3
  refine e1_2 ro3 fun a ha e_215 => ?_
  obtain rfl := e_215
  cases Vi with
  | int m =>
    refine e1_3 (oK_elim q3) fun l hl hb q4 => ?_
    obtain ⟨u, rfl⟩ := ri
    refine e2_3 (R3.list ha hl) fun vs n e rs z => ?_
    have hlen := rs.length
    refine PySem.W.ki_setAt (items := vs.toArray) (n := n) e hb.1 (by lia) (by rw [List.size_toArray]; lia) ?_
    have e' := IsL.update e fun xs => xs.setIfInBounds m.toNat v
    have em : vs.toArray.setIfInBounds m.toNat v = (vs.set m.toNat v).toArray := by apply Array.toList_inj.mp; simp
    simp only [em] at e'
    have rs' : Reps D γ3 s3.heap (vs.set m.toNat v) (l.set m.toNat V) := by
      refine Reps.of_get (by rw [List.length_set, List.length_set, hlen]) fun y w W h1 h2 => ?_
      by_cases hy : m.toNat = y
      · subst hy
        rw [List.getElem?_set_self (by lia)] at h1 h2
        obtain rfl := Option.some.inj h1
        obtain rfl := Option.some.inj h2
        exact rv3
      · rw [List.getElem?_set_ne hy] at h1 h2
        refine e1_2 (rs.get h2) fun w' hw' rw' => ?_
        rw [h1] at hw'; obtain rfl := Option.some.inj hw'; exact rw'
    have hk : ∀ b o', b ≠ a → s3.heap.get? b = some o' → (s3.heap.update a (Obj.mapSeq fun xs => xs.setIfInBounds m.toNat v)).get? b = some o' := fun b o' hb q => (Heap.SameBut.update ..).extBut b o' hb q
    have st4 := stp_set (s := s3) (tk := s3.toks) ha hk
    exact ⟨γ3, _, L, .next, (st03.trans0 R3 st4).weak, R3.setList ha rs' (by rw [List.length_set, ← hlen]; exact z) e' hk, fr3.stp R3 st4, rfl, q4⟩
  | str x =>
    refine e1_3 (oK_elim q3) fun es he hb q4 => ?_
    refine e1_2 ri fun u e_216 _ => ?_
    obtain rfl := e_216
    refine e1_3 (R3.dict ha he) fun kvs hd hf hz => ?_
    refine wpAny_setItem_pairs (knd := strKind D.prog D.w) (k := x) (isStr (t := u)) hd (fun h' hd' hs => ?_) (by rw [sizeLine_eq]; lia)
    have hk : ∀ b o', b ≠ a → s3.heap.get? b = some o' → h'.get? b = some o' := fun b o' hb q => hs.extBut b o' hb q
    have st4 := stp_set (s := s3) (tk := s3.toks + 1) ha hk
    refine ⟨γ3, _, L, .next, (st03.trans0 R3 st4).weak, R3.setObj (o := .dict ((x, V) :: es)) ha hk fun ht => ⟨_, hd', ?_, ?_⟩, fr3.stp R3 st4, rfl, q4⟩
    · rw [show valueAt (stored kvs x v) = fun y => if y = x then some v else valueAt kvs y from funext fun y => valueAt_stored kvs x v y]
      exact (hf.mono ⟨[], by simp⟩ ht).cons (Rep.mono ⟨[], by simp⟩ ht rv3)
    · exact Nat.le_trans (stored_length_le _ _ _) (Nat.succ_le_succ hz)
  | _ => exact q3.elim
theorem s_setAttr {o value : Expr} {x : Str} {pos' pos : Pos} {io iv : IE} (g : GOk D c.G c.mts) (hx : fldOk x = true) (hv : SE D Φ k c value iv) (ho : SE D Φ k c o io) (hw : ∀ env, swapsWith value (some (.Attribute o x pos')) pos.line env = pure false) :
    SS D Φ k c (.Assign [.Attribute o x pos'] value pos) (.setAttr io x iv) := by
  intro env A γ H s L Q X hE hA R fr w
  refine plainObj_wpAny_Assign_Attribute (wpAny_mono (hv env A γ H s L _ _ hE hA R fr.l w) (fun v s1 p => ?_) fun _ _ x => x.toE fr R) (hw env)
  refine e3_4 p fun γ1 V H1 st R1 rv q => ?_
  have fr1 := fr.stp R st
  refine wpAny_mono (ho env A γ1 H1 s1 L _ _ hE hA R1 fr1.l q) (fun ov s2 p => ?_) fun _ _ x => (x.toE fr1 R1).back st.weak R1 fr1
  refine e3_4 p fun γ2 Vo H2 st2 R2 ro q2 => ?_
  have fr2 := fr1.stp R1 st2
  have st02 := st.trans0 R1 st2
  have rv2 := rv.stp0 R1 st2
  refine e1_2 (oK_elim q2) fun i hi q3 => ?_
  rw [refV_some hi] at ro
  refine e1_3 (oK_elim q3) fun pr hp hb q4 => ?_
  refine e1_2 ro fun a ha e_217 => ?_
  obtain rfl := e_217
  obtain ⟨o', dx, m, e, hc, hd, hj, I, hf, hno⟩ := inst_at R2 ha hp
  obtain ⟨N, nm, qn, bs, sn, sub, col, dd, k0, k1, k2, k3, k5, hC, hN⟩ := g.bk.cls
  have hne : a ≠ D.bk := fun q => by
    have := R2.fresh a (List.mem_of_getElem? ha)
    rw [q, hC] at this; exact no_some this.symm
  have hwi : PySem.Within m (pr.2.map (·.1)) := fun y hy => by
    cases hl : pr.2.lookup y with
    | none => exact absurd (hf.2 y hl) hy
    | some V => exact List.mem_map.mpr ⟨(y, V), mem_of_lookup hl, rfl⟩
  obtain ⟨hh, gg, d, t, os⟩ := s2
  refine store_attr F.store_object (R2.base _ _ hC) (hN.keeps R2.base) g.bk.noS (g.bk.noF x hx) (fld_obj hx) hne I (fun h' tk' I' hk hsame => ?_) hwi (by rw [List.length_map, sizeLine_eq]; lia)
  obtain ⟨o1, e1, c1, d1, s1', dd1⟩ := hsame o' e
  have eo : o1 = o' := by
    obtain ⟨a1, a2, a3, a4⟩ := o1
    obtain ⟨b1, b2, b3, b4⟩ := o'
    obtain rfl : a1 = b1 := c1
    obtain rfl : a3 = b3 := d1
    obtain rfl : a4 = b4 := s1'
    obtain rfl : b2 = some dx := hd
    rw [show a2 = some dx from dd1 dx rfl]
  rw [eo] at e1
  have hk2 : ∀ b ob, b ≠ dx → hh.get? b = some ob → h'.get? b = some ob := fun b ob hb eb => by
    by_cases hba : b = a
    · subst hba
      rw [e1, ← e]; exact eb
    · exact hk b ob hba (fun o₀ dy h1 h2 => by
        rw [e] at h1
        obtain rfl := Option.some.inj h1
        rw [hd] at h2
        obtain rfl := Option.some.inj h2
        exact hb) eb
  have st4 := stp_set (s := ⟨hh, gg, d, t, os⟩) (tk := tk') hj hk2
  refine ⟨γ2, _, L, .next, (st02.trans0 R2 st4).weak, R2.setObj hj hk2 fun ht => ?_, fr2.stp R2 st4, rfl, q4⟩
  refine e1_4 I' fun o2 e2 _ _ hd2 => ?_
  rw [e1] at e2
  obtain rfl := Option.some.inj e2
  rcases hd2 with ⟨q, _⟩ | ⟨d', q, _, hn'⟩
  · rw [hd] at q; exact no_some q.symm
  rw [hd] at q
  obtain rfl := Option.some.inj q
  refine ⟨_, hn', (hf.mono ⟨[], by simp⟩ ht).cons (Rep.mono ⟨[], by simp⟩ ht rv2), fun y hy => ?_⟩
  have hxy : y ≠ x := fun q => by rw [q, hx] at hy; exact Bool.noConfusion hy
  rw [if_neg hxy]; exact hno y hy
theorem s_assign_comp {n : Nat} {elt iter tgt : Expr} {y : Str} {py pos spos : Pos} {scope : Scope} {ielt : IE} {kk : SrcK} {ss ie : IE} {i : Nat} {c' : CC} {bdf : Lc → V → Option Lc} (g : GOk D c.G c.mts) (so : SlotsOk c)
    (ih : ∀ c e ie, GOk D c.G c.mts → compE n c e = some ie → Both D Φ k c e ie) (cg : CompG D k c scope tgt c' bdf)
    (hsrc : compSrc (compE n c) c iter = some (kk, ss)) (hce : compE n c' elt = some ielt) (hset : ∀ env x, foldedSetIterable iter env x = pure x) (hs : slotV c y = some i) (hie : wp2 Φ ie = compW Φ ss kk ielt bdf) :
    SS D Φ k c (.Assign [.Name y py] (.ListComp elt [⟨tgt, iter, [], 0⟩] scope pos) spos) (.assign i ie) := by
  intro env A γ H s L Q X hE hA R fr w
  have hsw : ∃ b, swapsWith (.ListComp elt [⟨tgt, iter, [], 0⟩] scope pos) (some (.Name y py)) spos.line env = pure b := ⟨_, rfl⟩
  obtain ⟨b, hb⟩ := hsw
  cases b with
  | false =>
    refine wpAny_Assign_Name (wpAny_mono ((e_comp g ih cg hsrc hce hset hie).1 env A γ H s L _ _ hE hA R fr.l w) (fun v s1 p => ?_) fun _ _ x => x.toE fr R) hb
    refine e3_4 p fun γ1 V H1 st R1 rv q => ?_
    refine wpAny_mono (store_ok hE so R1 (fr.stp R st) hs rv) (fun _ s2 p => ?_) fun _ _ x => x
    refine e0_3 p fun st2 R2 fr2 => ?_
    exact ⟨γ1, H1, _, .next, st.weak.transF R1 st2 (fr.stp R st).alive, R2, fr2, rfl, q⟩
  | true =>
    have w : (wp2 Φ ie).E L H (fun v H1 => Q .next (L.set i (some v)) H1) (fun x => X x L) := w
    rw [hie] at w
    rw [exec_Assign_Name_used _ _ _ _ hb]
    refine wpAny_bind (wpAny_standAt (wpAny_bind ?_))
    show wpAny _ A (do let _ ← comprehension (.ListComp elt [⟨tgt, iter, [], 0⟩] scope pos) scope env _ (newList []) false (eval iter env) (some (assign (.Name y py) env))) _ _ s
    refine wpAny_bind (wpAny_mono (comp_run (use := some (assign (.Name y py) env)) (Qf := fun _ s' => PostF D γ s env c.slots Q .next s') g ih cg hsrc hce hE hA R fr.l (hset env) w ?_) (fun _ s' hq => wpAny_pure (wpAny_pure hq)) fun _ _ x => x.toE fr R)
    intro γ' H' s' Dd C acc stp R' ho dn d0 hc cn c0 hdc hK
    refine e2_2 ho fun ys ny hy ry => ?_
    obtain ⟨m, hm⟩ := hc
    have dB := base_none R d0
    have R2 := R'.adoptList ry (by have := hK.1; lia) dn dB hy
    have fr' := fr.stp R stp
    have stp2 : Stp [] γ (γ' ++ [Dd]) s s' := by
      refine ⟨stp.same, stp.keep, ?_⟩
      refine e1_2 (stp.ext) fun δ e f => ?_
      refine ⟨δ ++ [Dd], by rw [e]; simp, fun b hb => ?_⟩
      rcases List.mem_append.mp hb with q | q
      · exact f b q
      · simp at q; subst q; exact d0
    have fr2 : FRel D (γ' ++ [Dd]) env c.slots s'.heap L := fr.stp R stp2
    show wpAny D.M A (assign (.Name y py) env (.ref Dd)) _ _ s'
    refine wpAny_assign_Name (wpAny_mono (store_ok (W := .ref H'.length) hE so R2 fr2 hs (Exists.intro _ ⟨by rw [List.getElem?_append_right (by rw [R'.len]; exact Nat.le_refl _)]; simp [R'.len], rfl⟩)) (fun _ s2 p => ?_) fun _ _ x => x)
    refine e0_3 p fun st3 R3 fr3 => ?_
    have hCown : C ∉ ownA env := fun hm' => by
      obtain ⟨o, e⟩ := fr.alive C hm'
      rw [c0] at e; cases e
    have cn2 : C ∉ γ' ++ [Dd] := by
      intro q
      rcases List.mem_append.mp q with q | q
      · exact cn q
      · exact hdc (List.mem_singleton.mp q).symm
    have hm3 : s2.heap.Ns C m := hm.at' fun o e => st3.keep C o cn2 hCown e
    refine ⟨m, hm3, fun h' hs' => ?_⟩
    have hk : ∀ b o, b ≠ C → s2.heap.get? b = some o → h'.get? b = some o := fun b o hb e => hs'.extBut b o hb e
    have nt := notTup_dict hm3
    have fr4 : FRel D (γ' ++ [Dd]) env c.slots h' (L.set i (some (.ref H'.length))) := fr3.butN hk hCown nt
    refine ⟨γ' ++ [Dd], _, _, .next, ?_, R3.but hk cn2 (base_none R c0) nt, fr4, rfl, hK.2⟩
    have st4 := stp2.weak.transF R2 st3 fr2.alive
    refine ⟨?_, fun b o hb hw e => hk b o (by rintro rfl; rw [c0] at e; exact no_some e) (st4.keep b o hb hw e), st4.ext⟩
    refine e2_1 (st4.same) fun h4 t4 e4 => ?_
    rw [e4]; exact ⟨_, _, rfl⟩
theorem s_if {t : Expr} {a b : List Stmt} {pos : Pos} {it : IE} {ia ib : List IS} (ht : ST D Φ k c t it) (ha : SSs D Φ k c a ia) (hb : SSs D Φ k c b ib) : SS D Φ k c (.If t a b pos) (.ite it ia ib) := by
  intro env A γ H s L Q X hE hA R fr w
  refine wpAny_If (wpAny_mono (ht env A γ H s L _ _ hE hA R fr.l w) (fun v s1 p => ?_) fun _ _ x => x.toE fr R)
  refine e2_3 p fun γ1 H1 st R1 q => ?_
  cases v with
  | true => exact wpAny_mono (ha env A γ1 H1 s1 L Q X hE hA R1 (fr.stp R st) q) (fun _ _ x => x.back st.weak R1 (fr.stp R st)) fun _ _ x => x.back st.weak R1 (fr.stp R st)
  | false => exact wpAny_mono (hb env A γ1 H1 s1 L Q X hE hA R1 (fr.stp R st) q) (fun _ _ x => x.back st.weak R1 (fr.stp R st)) fun _ _ x => x.back st.weak R1 (fr.stp R st)
theorem s_while {t : Expr} {b : List Stmt} {pos : Pos} {it : IE} {ib : List IS} (ht : ST D Φ k c t it) (hb : SSs D Φ k c b ib) : SS D Φ k c (.While t b [] pos) (.while it ib) := by
  intro env A γ H s L Q X hE hA R fr w
  obtain ⟨n, w⟩ := w
  obtain ⟨Iv, hIv⟩ : ∃ Iv : Nat → Shared → Prop, Iv = fun m s' => ∃ γ' H' L', Stp (ownA env) γ γ' s s' ∧ HRel D γ' H' s'.heap ∧ FRel D γ' env c.slots s'.heap L' ∧
    whileGo (fun L' H' K => (wp2 Φ it).T L' H' K noX) (fun L' H' K => wpSs Φ ib L' H' K noXS) m L' H' Q := ⟨_, rfl⟩
  refine wpAny_While (codeAny_whileLoop Iv ?_ n (by rw [hIv]; exact ⟨γ, H, L, Stp.refl, R, fr, w⟩))
  intro m s' hI
  rw [hIv] at hI
  refine e3_4 hI fun γ' H' L' st R' fr' w => ?_
  cases m with
  | zero => exact w.elim
  | succ m =>
    refine wpAny_mono (ht env A γ' H' s' L' _ _ hE hA R' fr'.l w) (fun v s1 p => ?_) fun _ _ x => x.elim
    refine e2_3 p fun γ1 H1 st1 R1 q => ?_
    have st01 : Stp (ownA env) γ γ1 s s1 := st.transF R' st1.weak fr'.alive
    have fr1 := fr'.stp R' st1
    cases v with
    | true =>
      refine wpAny_mono (hb env A γ1 H1 s1 L' _ noXS hE hA R1 fr1 q) (fun fl s2 p => ?_) fun _ _ x => x.elim
      refine e4_5 p fun γ2 H2 L2 F st2 R2 fr2 hf q2 => ?_
      have st02 := st01.transF R1 st2 fr1.alive
      cases F with
      | next => obtain rfl := hf; exact ⟨m, Nat.lt_succ_self _, by rw [hIv]; exact ⟨γ2, H2, L2, st02, R2, fr2, q2⟩⟩
      | cont => obtain rfl := hf; exact ⟨m, Nat.lt_succ_self _, by rw [hIv]; exact ⟨γ2, H2, L2, st02, R2, fr2, q2⟩⟩
      | ret V => obtain ⟨v, rfl, rv⟩ := hf; exact ⟨γ2, H2, L2, .ret V, st02, R2, fr2, ⟨v, rfl, rv⟩, q2⟩
    | false => exact wpAny_execs_nil ⟨γ1, H1, L', .next, st01, R1, fr1, rfl, q⟩
theorem s_for {n : Nat} {x : Str} {px pos : Pos} {iter : Expr} {b : List Stmt} {kk : SrcK} {ss : IE} {ib : List IS} {i : Nat} (g : GOk D c.G c.mts) (so : SlotsOk c) (ih : ∀ e ie, compE n c e = some ie → SE D Φ k c e ie) (hs : slotV c x = some i)
    (hsrc : compSrc (compE n c) c iter = some (kk, ss)) (hb : SSs D Φ k c b ib) : SS D Φ k c (.For (.Name x px) iter b [] pos) (.for i kk ss ib) := by
  intro env A γ H s L Q X hE hA R fr w
  refine wpAny_For (wpAny_mono (src_ok (K := fun l st H1 => forGo (fun L' H' K => wpSs Φ ib L' H' K X) st i l L H1 Q) g ih hsrc hE hA R fr.l w) (fun xv s1 h1 => wpAny_mono h1 (fun it s2 h2 => ?_) fun _ _ x => x.toE fr R) fun _ _ x => x.toE fr R) (noSetIter hsrc env)
  refine e7_10 h2 fun γ2 H2 I fp l st Inv e_218 stp2 R2 itr iv fps hI0 hst hlen w2 => ?_
  obtain rfl := e_218
  have fr2 := fr.stp R stp2
  have IB := base_none R hI0
  have fpo : ∀ b ∈ fp, b ∉ ownA env := fun b hb hm => by
    rcases (fps b hb).2.2 with q | ⟨ws, q⟩
    · subst q; obtain ⟨o, e⟩ := fr.alive _ hm; rw [hI0] at e; cases e
    · exact (fr2.own b hm).2.2.2 ws q
  obtain ⟨Iv, hIv⟩ : ∃ Iv : Nat → Shared → Prop, Iv = fun m s' => ∃ j γ' H' L', m = l.length - j ∧ j ≤ l.length ∧ Stp (ownA env) γ γ' s s' ∧ HRel D γ' H' s'.heap ∧ FRel D γ' env c.slots s'.heap L' ∧ Inv γ' j s'.heap ∧ st H' ∧ (∀ b ∈ fp, b ∉ γ' ∧ ∃ o, s'.heap.get? b = some o) ∧
    forGo (fun L' H' K => wpSs Φ ib L' H' K X) st i (l.drop j) L' H' Q := ⟨_, rfl⟩
  refine codeAny_forLoop Iv ?_ l.length (by rw [hIv]; exact ⟨0, γ2, H2, L, rfl, Nat.zero_le _, stp2.weak, R2, fr2, iv, hst, fun b hb => ⟨(fps b hb).1, (fps b hb).2.1⟩, w2⟩)
  intro m s' hI
  rw [hIv] at hI
  obtain ⟨j, γ', H', L', rfl, hj, st', R', fr', iv', hst', fp', w'⟩ := hI
  have hIg : I ∉ γ' := (fp' I itr.mem).1
  have nt := fun ws => itr.notTup γ' j s'.heap ws iv'
  have hIo : I ∉ ownA env := fpo I itr.mem
  have change : ∀ {h1 : Heap} {tk : Nat}, (∀ b o, b ≠ I → s'.heap.get? b = some o → h1.get? b = some o) → Stp (ownA env) γ γ' s { s' with heap := h1, toks := tk } ∧ HRel D γ' H' h1 ∧ FRel D γ' env c.slots h1 L' := by
    intro h1 tk hk
    exact ⟨st'.butF hk hI0, R'.but hk hIg IB nt, fr'.butN hk hIo nt⟩
  by_cases hlt : j < l.length
  · have hW : l[j]? = some l[j] := by simp [hlt]
    rw [List.drop_eq_getElem_cons hlt] at w'
    refine itr.next γ' H' s' j _ _ _ hW R' hIg hst' iv' fun v h1 tk1 hI1 hk1 iv1 rv1 => ?_
    refine e0_3 (change (tk := tk1) hk1) fun stc Rc frc => ?_
    show wpAny D.M A (assign (.Name x px) env v) _ _ _
    refine wpAny_assign_Name (wpAny_mono (store_ok (s := { s' with heap := h1, toks := tk1 }) hE so Rc frc hs rv1) (fun _ s3 p => ?_) fun _ _ x => x)
    refine e0_3 p fun st3 R3 fr3 => ?_
    have stc3 : Stp (ownA env) γ γ' s s3 := stc.transF (s1 := { s' with heap := h1, toks := tk1 }) Rc st3 (FRel.alive (s := { s' with heap := h1, toks := tk1 }) frc)
    have tt3 : ∀ a ws, TupAt h1 a ws → TupAt s3.heap a ws := fun a ws q => TupAt.stp (s := { s' with heap := h1, toks := tk1 }) Rc st3 (fun x hx => (frc.own x hx).2.2.2) q
    have fp1 : ∀ b ∈ fp, b ∉ γ' ∧ ∃ o, h1.get? b = some o := fun b hb => by
      refine ⟨(fp' b hb).1, ?_⟩
      by_cases hbI : b = I
      · subst hbI; exact hI1
      · obtain ⟨o, e⟩ := (fp' b hb).2; exact ⟨o, hk1 _ _ hbI e⟩
    have fp3 : ∀ b ∈ fp, b ∉ γ' ∧ ∃ o, s3.heap.get? b = some o := fun b hb => by
      obtain ⟨a, o, e⟩ := fp1 b hb
      exact ⟨a, o, st3.keep b o a (fpo b hb) e⟩
    have iv3 : Inv γ' (j + 1) s3.heap := itr.frame γ' γ' (j + 1) h1 s3.heap iv1 ⟨[], by simp⟩ (fun b hb o e => st3.keep b o (fp1 b hb).1 (fpo b hb) e) tt3
    refine wpAny_mono (hb env A γ' H' s3 _ _ X hE hA R3 fr3 w') (fun fl s4 p => ?_) fun _ _ x => x.elim
    refine e4_5 p fun γ4 H4 L4 F st4 R4 fr4 hf q4 => ?_
    have stc4 := stc3.transF R3 st4 fr3.alive
    have ext4 : ∃ δ, γ4 = γ' ++ δ := let ⟨δ, e, _⟩ := st4.ext; ⟨δ, e⟩
    have tt4 : ∀ a ws, TupAt s3.heap a ws → TupAt s4.heap a ws := fun a ws q => TupAt.stp R3 st4 (fun x hx => (fr3.own x hx).2.2.2) q
    have go : st H4 ∧ forGo (fun L' H' K => wpSs Φ ib L' H' K X) st i (l.drop (j + 1)) L4 H4 Q → ∃ m, m < l.length - j ∧ Iv m s4 := fun q => by
      refine ⟨l.length - (j + 1), by lia, ?_⟩
      rw [hIv]
      refine ⟨j + 1, γ4, H4, L4, rfl, hlt, stc4, R4, fr4, ?_, q.1, ?_, q.2⟩
      · exact itr.frame γ' γ4 (j + 1) s3.heap s4.heap iv3 ext4 (fun b hb o e => st4.keep b o (fp3 b hb).1 (fpo b hb) e) tt4
      · intro b hb
        obtain ⟨a, o, e⟩ := fp3 b hb
        have e' := st4.keep b o a (fpo b hb) e
        refine ⟨?_, o, e'⟩
        refine e1_2 (st4.ext) fun δ ed fd => ?_
        subst ed
        intro q
        rcases List.mem_append.mp q with q | q
        · exact a q
        · rw [fd b q] at e; cases e
    cases F with
    | next => obtain rfl := hf; exact go q4
    | cont => obtain rfl := hf; exact go q4
    | ret V => obtain ⟨v, rfl, rv⟩ := hf; exact ⟨γ4, H4, L4, .ret V, stc4, R4, fr4, ⟨v, rfl, rv⟩, q4⟩
  · have hin : j = l.length := by lia
    subst hin
    rw [List.drop_length] at w'
    refine itr.done γ' H' s' _ _ R' hst' iv' fun h1 tk1 hk1 => ?_
    refine e0_3 (change (tk := tk1) hk1) fun stc Rc frc => ?_
    exact wpAny_execs_nil ⟨γ', H', L', .next, stc, Rc, frc, rfl, w'⟩
end
end Mine
namespace Mine
open PySem PyProof.Rows
section
variable {D : Wd} {Φ : Orc} {k : Nat}
theorem noSwap {e : Expr} {n : Nat} {c : CC} {ie : IE} (h : compE n c e = some ie) (hl : ∀ a b d f, e ≠ .ListComp a b d f) (t : Option Expr) (l : Nat) (env : Env) : swapsWith e t l env = pure false := by
  cases e <;> first | rfl | exact absurd rfl (hl _ _ _ _) | (cases n <;> exact no_some h)
theorem s_assign_any (hO : OrcOk D k Φ) {n : Nat} {c : CC} (g : GOk D c.G c.mts) (so : SlotsOk c) {x : Str} {px pos : Pos} {e : Expr} {i : Nat} {ie : IE} (h1 : slotV c x = some i) (h2 : compE n c e = some ie) : SS D Φ k c (.Assign [.Name x px] e pos) (.assign i ie) := by
  by_cases hl : ∃ a b d f, e = .ListComp a b d f
  · obtain ⟨elt, gens, scope, pos', rfl⟩ := hl
    cases n with
    | zero => exact no_some h2
    | succ n =>
      obtain ⟨tgt, iter, kk, ss, ielt, c', bdf, rfl, cg, e1, e2, hie⟩ := lc_inv (D := D) (Φ := Φ) (k := k) (show cLc (compE n) c elt gens scope = some ie from h2)
      exact s_assign_comp g so (fun c e ie g h => soundE hO n c e ie g h) cg e1 e2 (noSetIter e1) h1 hie
  · exact s_assign so (soundE hO n c e ie g h2).1 h1 (fun env _ => noSwap h2 (fun a b d f q => hl ⟨a, b, d, f, q⟩) _ _ env)
theorem soundS (hO : OrcOk D k Φ) : ∀ (n : Nat) (c : CC) (st : Stmt) (is : IS), GOk D c.G c.mts → SlotsOk c → compS n c st = some is → SS D Φ k c st is := by
  intro n
  induction n with
  | zero => intro c st is g so h; exact no_some h
  | succ n ih =>
    intro c st is g so h
    have ihE : ∀ e ie, compE n c e = some ie → Both D Φ k c e ie := fun e ie h => soundE hO n c e ie g h
    have ihS := sss_of (f := compS n c) (fun st is h => ih c st is g so h)
    cases st with
    | Expr e p =>
      obtain ⟨hc, h⟩ := onlyIf_some h
      refine e1_2 (Option.map_eq_some_iff.mp h) fun a ha e_222 => ?_
      obtain rfl := e_222
      exact s_expr (ihE _ _ ha).1 (bnot hc)
    | Assign ts e p =>
      refine e1_2 (on1_some (show on1 ts _ = some is from h)) fun t e_223 h => ?_
      obtain rfl := e_223
      cases t with
      | Name x px =>
        refine e2_3 (oTwo_some (show oTwo IS.assign _ _ = some is from h)) fun a b h1 h2 e_224 => ?_
        obtain rfl := e_224
        exact s_assign_any hO g so h1 h2
      | Subscript o i p' =>
        obtain ⟨hc, h⟩ := onlyIf_some (show onlyIf (!isComp e) _ = some is from h)
        refine e3_4 (oThree_some h) fun a b d h1 h2 h3 e_225 => ?_
        obtain rfl := e_225
        exact s_set (ihE _ _ h1).1 (ihE _ _ h2).1 (ihE _ _ h3).1 (fun env => noSwap h1 (fun a b d f q => by subst q; exact Bool.noConfusion hc) _ _ env)
      | Attribute o x p' =>
        obtain ⟨hc, h⟩ := onlyIf_some (show onlyIf (!isComp e && fldOk x) _ = some is from h)
        rw [Bool.and_eq_true] at hc
        refine e2_3 (oTwo_some h) fun a b h1 h2 e_226 => ?_
        obtain rfl := e_226
        exact s_setAttr g hc.2 (ihE _ _ h1).1 (ihE _ _ h2).1 (fun env => noSwap h1 (fun a b d f q => by subst q; exact Bool.noConfusion hc.1) _ _ env)
      | _ => exact no_some h
    | Return e p =>
      refine e1_2 (Option.bind_eq_some_iff.mp h) fun e e_227 h => ?_
      obtain rfl := e_227
      obtain ⟨a, ha, rfl⟩ := Option.map_eq_some_iff.mp h; exact s_ret (ihE _ _ ha).1
    | If t a b p => obtain ⟨t, a, b, h1, h2, h3, rfl⟩ := oThree_some h; exact s_if (ihE _ _ h1).2 (ihS _ _ h2) (ihS _ _ h3)
    | While t b e p =>
      obtain ⟨h0, h⟩ := onlyIf_some h
      obtain rfl : e = [] := List.isEmpty_iff.mp h0
      obtain ⟨t, b, h1, h2, rfl⟩ := oTwo_some h; exact s_while (ihE _ _ h1).2 (ihS _ _ h2)
    | For t iter b e p =>
      obtain ⟨h0, h⟩ := onlyIf_some h
      obtain rfl : e = [] := List.isEmpty_iff.mp h0
      refine e2_2 (onName_some h) fun x px e_228 h => ?_
      obtain rfl := e_228
      obtain ⟨i, ks, b, h1, h2, h3, rfl⟩ := oThree_some h; exact s_for g so (fun e ie h => (ihE e ie h).1) h1 h2 (ihS _ _ h3)
    | Raise e d p =>
      obtain rfl := Option.some.inj h
      exact fun _ _ _ _ _ _ _ _ _ _ _ _ w => w.elim
    | Continue p =>
      obtain rfl := Option.some.inj h
      exact fun env A γ H s L Q X hE hA R fr w => wpAny_Continue ⟨γ, H, L, .cont, Stp.refl, R, fr, rfl, w⟩
    | _ => exact no_some h
theorem slotsGo_lookup : ∀ (names : List Str) (k : Nat) (x : Str) (i : Nat), (slotsGo names k).lookup x = some i → ∃ j, i = k + j ∧ names[j]? = some x
  | [], _, _, _, h => by simp [slotsGo] at h
  | y :: r, k, x, i, h => by
    simp only [slotsGo, List.lookup_cons] at h
    cases hxy : x == y with
    | true =>
      rw [hxy] at h
      simp only [Option.some.injEq] at h
      exact ⟨0, by lia, by simp; exact (by simpa using hxy : x = y).symm⟩
    | false =>
      rw [hxy] at h
      refine e1_2 (slotsGo_lookup r (k + 1) x i h) fun j e1 e2 => ?_
      exact ⟨j + 1, by lia, by simpa using e2⟩
theorem bindL_spec {kindOf : Str → Option NameKind} : ∀ (binds : List (Str × Value)) (m : Str → Option Value) (x : Str), kindOf x = some .local → (binds.map (·.1)).Nodup → bindL kindOf binds m x = (binds.lookup x).or (m x)
  | [], m, x, _, _ => by simp [bindL]
  | (n, v) :: r, m, x, hx, hn => by
    simp only [List.map_cons, List.nodup_cons] at hn
    rw [bindL, bindL_spec r _ x hx hn.2, List.lookup_cons]
    cases hxn : x == n with
    | true =>
      have : x = n := by simpa using hxn
      subst this
      have hr : r.lookup x = none := by
        rw [List.lookup_eq_none_iff]
        intro p hp
        have : x ≠ p.1 := fun q => hn.1 (q ▸ List.mem_map_of_mem hp)
        simpa using this
      simp [hr, hx]
    | false =>
      have hne : x ≠ n := by simpa using hxn
      congr 1
      split
      · simp [hne]
      · rfl
theorem bindC_spec {kindOf : Str → Option NameKind} : ∀ (binds : List (Str × Value)) (m : Str → Option Value) (x : Str), kindOf x ≠ some .local → (binds.map (·.1)).Nodup → bindC kindOf binds m x = (binds.lookup x).or (m x)
  | [], m, x, _, _ => by simp [bindC]
  | (n, v) :: r, m, x, hx, hn => by
    simp only [List.map_cons, List.nodup_cons] at hn
    rw [bindC, bindC_spec r _ x hx hn.2, List.lookup_cons]
    cases hxn : x == n with
    | true =>
      have : x = n := by simpa using hxn
      subst this
      have hr : r.lookup x = none := by
        rw [List.lookup_eq_none_iff]
        intro p hp
        have : x ≠ p.1 := fun q => hn.1 (q ▸ List.mem_map_of_mem hp)
        simpa using this
      simp [hr, hx]
    | false =>
      have hne : x ≠ n := by simpa using hxn
      congr 1
      split
      · rfl
      · simp [hne]
theorem zip_lookup : ∀ (ps : List Str) (vals : List Value) (i : Nat) (x : Str) (v : Value), ps.Nodup → ps[i]? = some x → vals[i]? = some v → (ps.zip vals).lookup x = some v
  | p :: ps, [], i, x, v, _, _, h => by simp at h
  | p :: ps, w :: vals, 0, x, v, hn, h1, h2 => by
    simp at h1 h2; subst h1; subst h2; simp [List.lookup_cons]
  | p :: ps, w :: vals, i + 1, x, v, hn, h1, h2 => by
    simp only [List.nodup_cons] at hn
    simp at h1 h2
    have hne : (x == p) = false := by
      have : x ≠ p := fun q => hn.1 (q ▸ List.mem_of_getElem? h1)
      simpa using this
    rw [List.zip_cons_cons, List.lookup_cons, hne]
    exact zip_lookup ps vals i x v hn.2 h1 h2
  | [], _, _, _, _, _, h, _ => by simp at h
theorem cellsFrom_names : ∀ (names : List (Str × NameKind)) (n : Nat) (acc : List (Str × Addr)) (x : Str), x ∈ (cellsFrom n names acc).map (·.1) → x ∈ acc.map (·.1) ∨ (x, NameKind.cell) ∈ names
  | [], _, _, _, h => .inl h
  | (y, kd) :: r, n, acc, x, h => by
    unfold cellsFrom at h
    split at h
    · rename_i hk
      rcases cellsFrom_names r _ _ x h with q | q
      · simp only [List.map_cons, List.mem_cons] at q
        rcases q with q | q
        · subst q
          have : kd = .cell := by simpa using hk
          subst this
          exact .inr List.mem_cons_self
        · exact .inl q
      · exact .inr (List.mem_cons_of_mem _ q)
    · rcases cellsFrom_names r _ _ x h with q | q
      · exact .inl q
      · exact .inr (List.mem_cons_of_mem _ q)
theorem cellsFrom_nodup : ∀ (names : List (Str × NameKind)) (n : Nat) (acc : List (Str × Addr)), (names.map (·.1)).Nodup → (acc.map (·.1)).Nodup → (∀ x ∈ acc.map (·.1), x ∉ names.map (·.1)) → ((cellsFrom n names acc).map (·.1)).Nodup
  | [], _, _, _, h, _ => h
  | (y, kd) :: r, n, acc, hn, ha, hd => by
    simp only [List.map_cons, List.nodup_cons] at hn
    unfold cellsFrom
    split
    · refine cellsFrom_nodup r _ _ hn.2 ?_ ?_
      · simp only [List.map_cons, List.nodup_cons]
        exact ⟨fun q => hd y q (by simp), ha⟩
      · intro x hx
        simp only [List.map_cons, List.mem_cons] at hx
        rcases hx with q | q
        · subst q; exact hn.1
        · exact fun q' => hd x q (by simp at q' ⊢; exact .inr q')
    · exact cellsFrom_nodup r _ _ hn.2 ha (fun x hx q' => hd x hx (by simp at q' ⊢; exact .inr q'))
theorem lookup_of_nodup : ∀ {l : List (Str × Addr)} {n : Str} {a : Addr}, (l.map (·.1)).Nodup → (n, a) ∈ l → l.lookup n = some a
  | (m, b) :: r, n, a, hn, h => by
    simp only [List.map_cons, List.nodup_cons] at hn
    rw [List.lookup_cons]
    rcases List.mem_cons.mp h with q | q
    · cases q; simp
    · have : (n == m) = false := by
        have : n ≠ m := fun e => hn.1 (e ▸ List.mem_map_of_mem q)
        simpa using this
      rw [this]
      exact lookup_of_nodup hn.2 q
structure FnOk (D : Wd) (G : List (Str × V)) (mts : List Str) (x : Str) (f : Fn) : Prop where
  at' : ∃ a o name qual params body scope pm cd doc ps, D.fa x = some a ∧ D.hB.get? a = some o ∧ o.data = .func (methDef name qual params body scope pm cd doc) ∧ D.hB.CodeRec cd qual ∧
    compFn G mts ps body scope = some f ∧ (∀ vals : List Value, vals.length = ps.length → bindArgs (methDef name qual params body scope pm cd doc) ⟨vals, []⟩ = pure (ps.zip vals)) ∧
    ps.Nodup ∧ (scope.names.map (·.1)).Nodup ∧ (∀ p ∈ ps, scope.names.lookup p = some .local ∨ scope.names.lookup p = some .cell) ∧ scope.isCoroutine = false ∧ scope.isGenerator = false ∧ scope.kind = .function
theorem fn_ok {G : List (Str × V)} {mts : List Str} (g : GOk D G mts) (hO : OrcOk D k Φ) {x : Str} {f : Fn} (fo : FnOk D G mts x f) : ∀ vs H Q X, wpFn Φ f vs H Q X → ∀ A γ s vals a, AOkC D (k + 1) A → HRel D γ H s.heap → Reps D γ s.heap vals vs → D.fa x = some a →
    (∃ o fd, D.hB.get? a = some o ∧ o.data = .func fd) ∧ wpAny D.M A (call (.ref a) vals) (PostV D γ s Q) (PostX D γ s X) s := by
  intro vs H Q X w A γ s vals a hA R rv hxa
  obtain ⟨a', o, name, qual, params, body, scope, pm, cd, doc, ps, hx, ho, hd, hcd, hf, hb, hps, hnn, hk, hco, hgen, hkind⟩ := fo.at'
  rw [hxa] at hx; obtain rfl := Option.some.inj hx
  refine ⟨⟨o, _, ho, hd⟩, ?_⟩
  refine e1_2 (Option.map_eq_some_iff.mp hf) fun ib hib e_229 => ?_
  obtain rfl := e_229
  obtain ⟨hlen, w⟩ := w
  simp only at hlen
  have hvl : vals.length = ps.length := by rw [rv.length, hlen]
  have hz : (ps.zip vals).map (·.1) = ps := by rw [List.map_fst_zip]; lia
  have hzn : ((ps.zip vals).map (·.1)).Nodup := by rw [hz]; exact hps
  have kinds : ∀ y ∈ ps.zip vals, scope.names.lookup y.1 = some .local ∨ (scope.names.lookup y.1 = some .cell ∧ ((cellsFrom (s.heap.objs.size + 1) scope.names []).lookup y.1).isSome = true) := fun y hy => by
    have : y.1 ∈ ps := by rw [← hz]; exact List.mem_map_of_mem hy
    rcases hk y.1 this with q | q
    · exact .inl q
    · exact .inr ⟨q, PySem.W.cellsFrom_some _ _ _ (.inl q)⟩
  refine wpAny_call (codeAny_call_cells (fd := methDef name qual params body scope pm cd doc) (body := body) (binds := ps.zip vals) (Nat.lt_of_lt_of_le (Nat.lt_of_le_of_lt (Nat.le_add_right _ _) hA.depth) (by decide)) (R.base _ _ ho) hd (g.lim.keeps R.base) (hcd.keeps R.base) rfl (hb vals hvl) rfl kinds (fun s1 ic => ?_) hco hgen hkind)
  generalize henv : callEnvC (methDef name qual params body scope pm cd doc) s.heap.objs.size a = env at ic ⊢
  have hko : ∀ y, env.kindOf y = scope.names.lookup y := fun y => by subst henv; rfl
  have hloc : env.locals = s.heap.objs.size := by subst henv; rfl
  have hcells : env.cells = cellsFrom (s.heap.objs.size + 1) scope.names [] := by subst henv; rfl
  let c : CC := { G, mts, scope, slots := slotsGo (ownNames ps scope) 0, nxt := (ownNames ps scope).length }
  have hE : EnvOk c env := ⟨by subst henv; rfl, hkind, by subst henv; rfl, by subst henv; rfl⟩
  have so : SlotsOk c := ⟨fun y z i h1 h2 => by
    refine e1_2 (slotsGo_lookup _ _ _ _ h1) fun j e1 e2 => ?_
    refine e1_2 (slotsGo_lookup _ _ _ _ h2) fun j' e1' e2' => ?_
    have : j = j' := by lia
    subst this
    rw [e2] at e2'; cases e2'; rfl⟩
  have new : ∀ b, s.heap.objs.size ≤ b → b ∉ γ ∧ D.hB.get? b = none := fun b hb => by
    have e : s.heap.get? b = none := by
      cases q : s.heap.get? b with
      | none => rfl
      | some o => exact absurd (Heap.lt_size q) (Nat.not_lt.mpr hb)
    exact R.nin e
  have keep := ic.toInCall.keep
  have tt : ∀ a ws, TupAt s.heap a ws → TupAt s1.heap a ws := fun _ _ q => tupAt_grow keep q
  have cn : ((env.cells).map (·.1)).Nodup := by rw [hcells]; exact cellsFrom_nodup _ _ _ hnn (by simp) (by simp)
  have ini : ∀ (y : Str) (i : Nat) (V : V), c.slots.lookup y = some i → (initL { names := (ownNames ps scope).length + 3, params := ps.length, body := ib } vs)[i]? = some (some V) → ∃ v, (ps.zip vals).lookup y = some v ∧ Rep D γ s1.heap v V := by
    intro y i V hs hL
    refine e1_2 (slotsGo_lookup _ _ _ _ hs) fun j e1 e2 => ?_
    have hij : i = j := by lia
    subst hij
    unfold initL at hL
    have hi : i < vs.length := by
      apply Classical.byContradiction
      intro hn
      rw [List.getElem?_append_right (by simp; lia), List.getElem?_replicate] at hL
      split at hL <;> cases hL
    rw [List.getElem?_append_left (by simpa using hi), List.getElem?_map] at hL
    simp only [Option.map_eq_some_iff, Option.some.injEq, exists_eq_right] at hL
    refine e1_2 (rv.get hL) fun v hv rvv => ?_
    have hpi : ps[i]? = some y := by
      unfold ownNames at e2
      rw [List.getElem?_append_left (by lia)] at e2
      exact e2
    exact ⟨v, zip_lookup ps vals i y v hps hpi hv, Rep.mono ⟨[], by simp⟩ tt rvv⟩
  have frl : FRel D γ env c.slots s1.heap (initL { names := (ownNames ps scope).length + 3, params := ps.length, body := ib } vs) := by
    refine ⟨⟨⟨_, ic.toInCall.ns, ?_⟩, ?_, ?_⟩, ?_, ic.apart, ?_⟩
    · intro y i V hy hs hL
      refine e1_2 (ini y i V hs hL) fun v hv r => ?_
      exact ⟨v, by rw [bindL_spec _ _ _ hy hzn, hv]; rfl, r⟩
    · intro y hy
      have hc' : (env.cells.lookup y).isSome = true := by rw [hcells]; exact PySem.W.cellsFrom_some _ _ _ (.inl (by rw [← hko]; exact hy))
      obtain ⟨ca, hca⟩ := Option.isSome_iff_exists.mp hc'
      have habove := ic.above y ca (mem_of_lookup hca)
      rw [hloc] at habove
      refine ⟨ca, _, hca, ic.cell y ca hca, (new ca (Nat.le_of_lt habove)).1, fun i V hs hL => ?_⟩
      refine e1_2 (ini y i V hs hL) fun v hv r => ?_
      exact ⟨v, by rw [bindC_spec _ _ _ (by rw [hy]; intro q; cases q) hzn, hv]; rfl, r⟩
    · exact (new _ (by rw [hloc]; exact Nat.le_refl _)).1
    · intro b hb
      rcases List.mem_cons.mp hb with q | q
      · subst q
        have n1 := new env.locals (by rw [hloc]; exact Nat.le_refl _)
        exact ⟨n1.1, n1.2, (let ⟨o, _, _, e, _⟩ := ic.toInCall.ns; ⟨o, e⟩), notTup_dict ic.toInCall.ns⟩
      · refine e1_2 (List.mem_map.mp q) fun e_230 hm e_231 => ?_
        obtain ⟨y, ca⟩ := e_230
        obtain rfl := e_231
        have habove := ic.above y ca hm
        rw [hloc] at habove
        have n1 := new ca (Nat.le_of_lt habove)
        have hcell := ic.cell y ca (lookup_of_nodup cn hm)
        exact ⟨n1.1, n1.2, (let ⟨o, e, _⟩ := hcell; ⟨o, e⟩), notTup_cell hcell⟩
    · intro p hp
      exact Nat.ne_of_gt (ic.above p.1 p.2 hp)
  have own0 : ∀ b ∈ ownA env, s.heap.get? b = none := fun b hb => by
    have hge : s.heap.objs.size ≤ b := by
      rcases List.mem_cons.mp hb with q | q
      · rw [q, hloc]; exact Nat.le_refl _
      · refine e1_2 (List.mem_map.mp q) fun e_232 hm e_233 => ?_
        obtain ⟨y, ca⟩ := e_232
        obtain rfl := e_233
        have habove := ic.above y ca hm
        rw [hloc] at habove
        exact Nat.le_of_lt habove
    cases q : s.heap.get? b with
    | none => rfl
    | some o => exact absurd (Heap.lt_size q) (Nat.not_lt.mpr hge)
  have fresh0 : ∀ b, s1.heap.get? b = none → s.heap.get? b = none := fun b hb => by
    cases q : s.heap.get? b with
    | none => rfl
    | some o => rw [keep b o q] at hb; cases hb
  have stp0 : ∀ {γ2 : List Addr} {s2 : Shared}, Stp (ownA env) γ γ2 s1 s2 → Stp [] γ γ2 s s2 := fun {γ2 s2} st2 => by
    refine ⟨?_, fun b o hb _ e => st2.keep b o hb (fun q => by rw [own0 b q] at e; exact no_some e) (keep b o e), ?_⟩
    · refine e2_1 (ic.toInCall.same) fun h1 t1 e1 => ?_
      refine e2_1 (st2.same) fun h2 t2 e2 => ?_
      rw [e2, e1]; exact ⟨_, _, rfl⟩
    · refine e1_2 (st2.ext) fun δ e f => ?_
      exact ⟨δ, e, fun b hb => fresh0 b (f b hb)⟩
  have body_ok := sss_of (f := compS 40 c) (fun st is h => soundS (Φ := Φ) (k := k) hO 40 c st is g so h) body ib hib env (A.deeper env) γ H s1 _ _ _ hE (hA.deeper env) (R.grow keep) frl w
  refine wpAny_mono body_ok (fun fl s2 p => ?_) fun e s2 p => p.elim
  refine e4_5 p fun γ2 H2 L2 F st2 R2 fr2 hf2 q2 => ?_
  have st0 := stp0 st2
  cases F with
  | next => obtain rfl := hf2; exact ⟨γ2, .none, H2, st0, R2, (show Rep _ _ _ _ .none from rfl), q2⟩
  | cont => obtain rfl := hf2; exact ⟨γ2, .none, H2, st0, R2, (show Rep _ _ _ _ .none from rfl), q2⟩
  | ret V => obtain ⟨v, rfl, rv⟩ := hf2; exact ⟨γ2, V, H2, st0, R2, rv, q2⟩
end
end Mine
namespace Mine
open PySem PyProof.Rows
theorem zip_lookup_some : ∀ (ps : List Str) (vals : List Value) (n : Str), vals.length = ps.length → n ∈ ps → ((ps.zip vals).lookup n).isSome = true
  | [], _, n, _, h => by cases h
  | p :: ps, [], n, e, _ => by simp at e
  | p :: ps, v :: vals, n, e, h => by
    simp only [List.zip_cons_cons, List.lookup_cons]
    split
    · rfl
    · rename_i q
      refine zip_lookup_some ps vals n (by simpa using e) ?_
      rcases List.mem_cons.mp h with q' | q'
      · subst q'; simp at q
      · exact q'
theorem zip_filterMap : ∀ (ps : List Str) (vals : List Value) (pre : List (Str × Value)), vals.length = ps.length → ps.Nodup → (∀ p ∈ ps, pre.lookup p = none) → ps.filterMap (fun n => ((pre ++ ps.zip vals).lookup n).map (n, ·)) = ps.zip vals
  | [], _, _, _, _, _ => by simp
  | p :: ps, [], _, e, _, _ => by simp at e
  | p :: ps, v :: vals, pre, e, hn, hp => by
    have h1 : (pre ++ (p :: ps).zip (v :: vals)).lookup p = some v := by
      rw [List.lookup_append, hp p (by simp)]; simp
    simp only [List.filterMap_cons, h1, Option.map_some]
    simp only [List.zip_cons_cons, List.cons.injEq, true_and]
    have := zip_filterMap ps vals (pre ++ [(p, v)]) (by simpa using e) (List.nodup_cons.mp hn).2 (fun q hq => by
      rw [List.lookup_append, hp q (by simp [hq])]
      have : (q == p) = false := by
        have : q ≠ p := fun e => (List.nodup_cons.mp hn).1 (e ▸ hq)
        simpa using this
      simp [List.lookup_cons, this])
    simpa using this
theorem bind_simple {name qual : Str} {args : List Arg} {body : List Stmt} {scope : Scope} {pm cd doc : Value} {kd : List (Option Expr)} {vals : List Value} (hn : (args.map (·.arg)).Nodup) (hl : vals.length = (args.map (·.arg)).length) :
    bindArgs (methDef name qual ⟨[], args, none, [], kd, none, []⟩ body scope pm cd doc) ⟨vals, []⟩ = pure ((args.map (·.arg)).zip vals) := by
  unfold bindArgs
  simp only [methDef, seqItems?, notAStandIn, List.map_nil, List.nil_append, List.append_nil, Option.isNone_none]
  generalize args.map (·.arg) = ps at *
  have h1 : (ps.filter fun n => ((ps.zip vals).lookup n).isNone) = [] := by
    rw [List.filter_eq_nil_iff]
    intro n hm
    have := zip_lookup_some _ vals n hl hm
    simp only [Option.isNone_iff_eq_none]
    intro q; rw [q] at this; cases this
  have h2 := zip_filterMap _ vals [] hl hn (by simp)
  simp only [List.nil_append] at h2
  have h3 : ¬ vals.length > ps.length := by lia
  simp [h1, h2, h3]
noncomputable def strsNodup : List Str → Bool
  | [] => true
  | x :: r => !r.contains x && strsNodup r
theorem strsNodup_ok : ∀ {l : List Str}, strsNodup l = true → l.Nodup
  | [], _ => List.nodup_nil
  | x :: r, h => by
    simp only [strsNodup, Bool.and_eq_true, Bool.not_eq_true', List.contains_eq_mem, decide_eq_false_iff_not] at h
    exact List.nodup_cons.mpr ⟨h.1, strsNodup_ok h.2⟩
noncomputable def simpleArgs (a : Arguments) : Option (List Str) := onlyIf (a.posonlyargs.isEmpty && a.vararg.isNone && a.kwonlyargs.isEmpty && a.kwarg.isNone && a.defaults.isEmpty) (some (a.args.map (·.arg)))
noncomputable def okFn (ps : List Str) (scope : Scope) : Bool := strsNodup ps && strsNodup (scope.names.map (·.1)) && (ps.all fun p => scope.names.lookup p == some .local || scope.names.lookup p == some .cell) && !scope.isCoroutine && !scope.isGenerator && scope.kind == .function
noncomputable def checkRec (G : List (Str × V)) (mts : List Str) (params : Arguments) (body : List Stmt) (scope : Scope) : Option Fn := (simpleArgs params).bind fun ps => onlyIf (okFn ps scope) (compFn G mts ps body scope)
noncomputable def checkFn (G : List (Str × V)) (mts : List Str) (p : Program) (x : Str) : Option Fn := ((recsOf p).find? (fun d => d.name == x)).bind fun d => checkRec G mts d.params d.body d.scope
noncomputable def checkMt (G : List (Str × V)) (mts : List Str) (c : ClsRec) (m : Str) : Option Fn := (c.meths.find? (fun d => d.name == m)).bind fun d => checkRec G mts d.params d.body d.scope
theorem simple_some {params : Arguments} {ps : List Str} (h : simpleArgs params = some ps) : ∃ ar kd, params = ⟨[], ar, none, [], kd, none, []⟩ ∧ ps = ar.map (·.arg) := by
  obtain ⟨po, ar, va, ko, kd, kw, df⟩ := params
  obtain ⟨hb, h⟩ := onlyIf_some (show onlyIf (po.isEmpty && va.isNone && ko.isEmpty && kw.isNone && df.isEmpty) (some (ar.map (·.arg))) = some ps from h)
  simp only [Bool.and_eq_true, List.isEmpty_iff, Option.isNone_iff_eq_none] at hb
  obtain ⟨⟨⟨⟨rfl, rfl⟩, rfl⟩, rfl⟩, rfl⟩ := hb
  exact ⟨ar, kd, rfl, (Option.some.inj h).symm⟩
theorem fnOk_of {D : Wd} {G : List (Str × V)} {mts : List Str} {x : Str} {f : Fn} {a : Addr} {o : Obj} {name qual : Str} {params : Arguments} {body : List Stmt} {scope : Scope} {pm cd doc : Value} (hx : D.fa x = some a) (ho : D.hB.get? a = some o)
    (hd : o.data = .func (methDef name qual params body scope pm cd doc)) (hcd : D.hB.CodeRec cd qual) (h : checkRec G mts params body scope = some f) : FnOk D G mts x f := by
  refine e1_2 (Option.bind_eq_some_iff.mp h) fun ps hps h => ?_
  obtain ⟨hc, h⟩ := onlyIf_some h
  unfold okFn at hc
  rw [Bool.and_eq_true, Bool.and_eq_true, Bool.and_eq_true, Bool.and_eq_true, Bool.and_eq_true] at hc
  obtain ⟨⟨⟨⟨⟨c1, c2⟩, c3⟩, c4⟩, c5⟩, c6⟩ := hc
  have hnd := strsNodup_ok c1
  refine ⟨⟨a, o, name, qual, params, body, scope, pm, cd, doc, ps, hx, ho, hd, hcd, h, ?_, hnd, strsNodup_ok c2, fun q hq => ?_, bnot c4, bnot c5, ?_⟩⟩
  · intro vals hl
    refine e2_2 (simple_some hps) fun ar kd e_234 e_235 => ?_
    obtain rfl := e_234
    obtain rfl := e_235
    exact bind_simple hnd hl
  · have := List.all_eq_true.mp c3 q hq
    rw [Bool.or_eq_true, beq_iff_eq, beq_iff_eq] at this
    exact this
  · revert c6; cases scope.kind <;> intro c6 <;> first | rfl | exact Bool.noConfusion c6
theorem fnOk_of_top {D : Wd} {G : List (Str × V)} {mts : List Str} {p : Program} {loose : List Str} {mean : ExcName → Option Value} (T : Top p loose mean D.mg D.mb D.hB) {x : Str} {f : Fn} (hs : strip x = none) (h : checkFn G mts p x = some f) : FnOk D G mts x f := by
  refine e1_2 (Option.bind_eq_some_iff.mp h) fun d hd h2 => ?_
  have hn : (d.name == x) = true := List.find?_some (p := fun (d : DefRec) => d.name == x) hd
  obtain rfl : d.name = x := eq_of_beq hn
  obtain ⟨a, o, pm, cd, doc, h1, q2, h3, h4⟩ := T.fn d (List.mem_of_find?_eq_some hd)
  exact fnOk_of (qual := d.name) (fa_fn hs h1) q2 h3 h4 h2
theorem fnOk_of_cls {D : Wd} {G : List (Str × V)} {mts : List Str} {c : ClsRec} {N : Addr} (P : PlainAt D.hB c D.bk N D.mt) {m : Str} {f : Fn} (h : checkMt G mts c m = some f) : FnOk D G mts (Str.ofString "Book." ++ m) f := by
  refine e1_2 (Option.bind_eq_some_iff.mp h) fun d hd h2 => ?_
  have hn : (d.name == m) = true := List.find?_some (p := fun (d : MethRec) => d.name == m) hd
  obtain rfl : d.name = m := eq_of_beq hn
  obtain ⟨a, o, pm, cd, doc, h1, q2, _, h3, h4⟩ := P.meths d (List.mem_of_find?_eq_some hd)
  exact fnOk_of (fa_mt h1) q2 h3 h4 h2
noncomputable def bkChk (c : ClsRec) (mts : List Str) : Bool := (["names", "free_rules", "busy_rules", "held", "given"] : List Str).all c.quiet.contains && ((Str.ofString "__init__") :: mts).all fun m => !fldOk m && (fastLookup "object" m).isSome && c.meths.any (·.name == m)
theorem bkOk_of {D : Wd} {mts : List Str} {c : ClsRec} {N : Addr} (P : PlainAt D.hB c D.bk N D.mt) (h : bkChk c mts = true) : BkOk D mts := by
  unfold bkChk at h
  rw [Bool.and_eq_true, List.all_eq_true, List.all_eq_true] at h
  have mt : ∀ m ∈ (Str.ofString "__init__") :: mts, fldOk m = false ∧ (∃ y, typeLookup (.type "object") m = pure y) ∧ ∃ a o, D.mt m = some (.ref a) ∧ D.hB.get? a = some o ∧ o.cls = .type "function" ∧ (∃ fd, o.data = .func fd) ∧ D.fa (Str.ofString "Book." ++ m) = some a := fun m hm => by
    have h2 := h.2 m hm
    rw [Bool.and_eq_true, Bool.and_eq_true, List.any_eq_true] at h2
    obtain ⟨⟨h3, h4⟩, d, hd, e⟩ := h2
    obtain rfl : d.name = m := eq_of_beq e
    obtain ⟨a, o, pm, cd, doc, q1, q2, q3, q4, _⟩ := P.meths d hd
    refine ⟨bnot h3, ?_, a, o, q1, q2, q3, ⟨_, q4⟩, fa_mt q1⟩
    obtain ⟨r, hr⟩ := Option.isSome_iff_exists.mp h4
    exact ⟨r, by rw [typeLookup_type, builtinLookup_eq_fast, hr]⟩
  obtain ⟨nm, q, bs, sn, sub, col, dd, k0, k1, k2, k3, k5, e⟩ := P.cls.obj
  obtain ⟨_, _, a, o, q1, q2, q3, _, q5⟩ := mt _ List.mem_cons_self
  refine ⟨⟨N, nm, q, bs, sn, sub, col, dd, k0, k1, k2, k3, k5, e, P.cls.ns⟩, P.quiet _ (.tail _ (.head _)), P.quiet _ (.tail _ (.tail _ (.head _))), P.quiet _ (.head _), fun x hx => ?_, fun m hm => mt m (List.mem_cons_of_mem _ (List.contains_iff_mem.mp hm)), a, o, q1, q2, q3, q5⟩
  have : x ∈ (["names", "free_rules", "busy_rules", "held", "given"] : List Str) := by
    rcases fld_cases hx with rfl | rfl | rfl | rfl | rfl
    · exact .head _
    · exact .tail _ (.head _)
    · exact .tail _ (.tail _ (.head _))
    · exact .tail _ (.tail _ (.tail _ (.head _)))
    · exact .tail _ (.tail _ (.tail _ (.tail _ (.head _))))
  exact P.quiet x (List.contains_iff_mem.mp (h.1 x this))
end Mine
namespace Mine
open PySem PySem.W PyProof.Rows
noncomputable def isName : Stmt → Bool
  | .Assign [.Name x _] _ _ => x == ("__name__" : Str)
  | _ => false
noncomputable def viewOf (p : Program) : Program := { p with main := { p.main with body := p.main.body.filter fun st => !isName st } }
theorem noΦ_ok {D : Wd} : OrcOk D 0 noΦ := fun _ _ _ _ _ h => h.elim
theorem ext_ok {D : Wd} {G : List (Str × V)} {mts : List Str} {k : Nat} {Φ : Orc} {n : Str} {f : Fn} {C : List V → Hp → (V → Hp → Prop) → XL → Prop} (g : GOk D G mts) (hO : OrcOk D k Φ) (fo : FnOk D G mts n f)
    (h : ∀ vs H Q X, C vs H Q X → wpFn Φ f vs H Q X) : OrcOk D (k + 1) (ext n C Φ) := by
  intro x vs H Q X hx A γ s vals a hA R rv ha
  unfold ext at hx
  cases e : x == n with
  | true =>
    rw [e] at hx
    obtain rfl : x = n := eq_of_beq e
    exact fn_ok g hO fo vs H Q X (h vs H Q X hx) A γ s vals a hA R rv ha
  | false =>
    rw [e] at hx
    exact hO x vs H Q X hx A γ s vals a (hA.mono (Nat.le_succ k)) R rv ha
theorem ints_get : ∀ {vs : List Value} {ns : List Int}, IntsAre vs ns → vs.length = ns.length ∧ ∀ (k : Nat) (i : Int), ns[k]? = some i → ∃ t, vs[k]? = some (.int i t)
  | _, _, .nil => ⟨rfl, fun k i h => by simp at h⟩
  | _, _, .cons n t r => by
    obtain ⟨h1, h2⟩ := ints_get r
    refine ⟨by simp [h1], fun k i h => ?_⟩
    cases k with
    | zero => simp at h; subst h; exact ⟨t, by simp⟩
    | succ k => simp at h; obtain ⟨u, hu⟩ := h2 k i h; exact ⟨u, by simpa using hu⟩
noncomputable def GVal (D : Wd) (x : Str) (W : V) : Prop := ∃ v, (D.mg x = some v ∨ (D.mg x = none ∧ D.mb x = some v)) ∧ ∀ γ, Rep D γ D.hB v W
noncomputable def GAll (D : Wd) : List (Str × V) → Prop
  | [] => True
  | p :: r => GVal D p.1 p.2 ∧ GAll D r
theorem gall_lookup {D : Wd} : ∀ {G : List (Str × V)}, GAll D G → ∀ (x : Str) (W : V), G.lookup x = some W → GVal D x W
  | [], _, x, W, h => by cases h
  | (y, U) :: r, g, x, W, h => by
    rw [List.lookup_cons] at h
    split at h
    · rename_i e
      have e : x = y := by simpa using e
      cases h; subst e; exact g.1
    · exact gall_lookup g.2 x W h
theorem gok {D : Wd} {G : List (Str × V)} {mts : List Str} {p : Program} {loose : List Str} {mean : ExcName → Option Value} {c : ClsRec} {N : Addr} (T : Top p loose mean D.mg D.mb D.hB) (g : GAll D G) (P : PlainAt D.hB c D.bk N D.mt) (q : bkChk c mts = true) : GOk D G mts :=
  ⟨T.g, T.b, fun x V h => gall_lookup g x V h, T.nolimit, bkOk_of P q⟩
theorem gv_bk {D : Wd} {x : Str} (h : D.mg x = some (.ref D.bk)) : GVal D x .bk := ⟨_, .inl h, fun _ => rfl⟩
theorem gv_fn {D : Wd} {x : Str} {a : Addr} (hs : strip x = none) (h : D.mg x = some (.ref a)) : GVal D x (.fn x) :=
  ⟨_, .inl h, fun _ => Exists.intro a ⟨rfl, fa_fn hs h⟩⟩
theorem gv_int {D : Wd} {x : Str} {i : Int} {t : Tok} (h : D.mg x = some (.int i t)) : GVal D x (.int i) := ⟨_, .inl h, fun _ => rep_i⟩
theorem gv_str {D : Wd} {x s : Str} {t : Tok} (h : D.mg x = some (.str s t)) (f : StrFine s) : GVal D x (.str s) := ⟨_, .inl h, fun _ => rep_s f⟩
theorem gv_tup {D : Wd} {x : Str} {a : Addr} {vs : List Value} {n : Nat} {l : List V} (h : D.mg x = some (.ref a)) (e : D.hB.get? a = some { cls := .type "tuple", data := .seq vs.toArray n }) (hz : vs.length ≤ 2000000) (r : ∀ γ, Reps D γ D.hB vs l) : GVal D x (.tup l) :=
  ⟨_, .inl h, fun γ => Exists.intro a ⟨vs, rfl, ⟨n, e, hz⟩, r γ⟩⟩
theorem gv_bi {D : Wd} {b : Bi} {x : Str} (h : D.mg x = none) (e : D.mb x = some (.builtin b.name)) : GVal D x (.bi b) := ⟨_, .inr ⟨h, e⟩, fun _ => rfl⟩
theorem gv_ty {D : Wd} {b : Ty} {x : Str} (h : D.mg x = none) (e : D.mb x = some (.type b.name)) : GVal D x (.ty b) := ⟨_, .inr ⟨h, e⟩, fun _ => rfl⟩
theorem reps_int {D : Wd} {γ : List Addr} {h : Heap} {i : Int} {t : Tok} {vs : List Value} {l : List V} (r : Reps D γ h vs l) : Reps D γ h (.int i t :: vs) (.int i :: l) := Exists.intro _ ⟨_, rfl, rep_i, r⟩
theorem reps_str {D : Wd} {γ : List Addr} {h : Heap} {x : Str} {t : Tok} {vs : List Value} {l : List V} (f : StrFine x) (r : Reps D γ h vs l) : Reps D γ h (.str x t :: vs) (.str x :: l) := Exists.intro _ ⟨_, rfl, rep_s f, r⟩
theorem reps_nil {D : Wd} {γ : List Addr} {h : Heap} : Reps D γ h [] [] := rfl
theorem law_top {prog : Program} {w : World} {s₁ : Shared} {mg mb mN : Str → Option Value} {C : Addr} {k : Nat} {Φ : Orc} {c : ClaimW} {cl : Str → Option Addr} {mean : ExcName → Option Value} {fa a : Addr} {vs : List Value} {ns : List Int} {args : List WData} {x : Str}
    (hO : OrcOk ⟨prog, w, s₁.heap, mg, mb, C, mN⟩ k Φ) (hA : AOkC ⟨prog, w, s₁.heap, mg, mb, C, mN⟩ k callerA) (hs : strip x = none) (hx : mg x = some (.ref fa)) (hL : s₁.heap.IsList a vs.toArray) (hI : IntsAre vs ns) (hΦ : Φ x [.scr ns] [] (fun V _ => V = .bool true) (fun _ _ => False)) (hlen : ns.length ≤ 2000000)
    (hg : s₁.gens = #[]) (hr : ∀ cls, c.raises args cls = false) (hp : c.post args (.bool true) args = true) :
    wpAny (model prog w) callerA (call (.ref fa) [.ref a]) (fun v s' => GoodWG c cl mean args s₁ (.ok (.ret v)) s') (fun e s' => GoodWG c cl mean args s₁ (.error e) s') s₁ := by
  obtain ⟨h1, h2⟩ := ints_get hI
  have R : HRel ⟨prog, w, s₁.heap, mg, mb, C, mN⟩ [] [] s₁.heap := ⟨rfl, List.nodup_nil, fun _ _ _ e => no_some e, fun _ h => (nomatch h), fun _ _ e => e⟩
  have rv : Reps ⟨prog, w, s₁.heap, mg, mb, C, mN⟩ [] s₁.heap [.ref a] [.scr ns] := Reps.one (Exists.intro a ⟨vs, rfl, hL, by lia, h1, h2⟩)
  refine wpAny_mono (hO x [.scr ns] [] _ _ hΦ callerA [] s₁ [.ref a] fa hA R rv (fa_fn hs hx)).2 ?_ (fun _ _ p => p.elim)
  rintro v s' ⟨γ', V, H', st, R', r, rfl⟩
  obtain rfl := r
  refine e2_1 (st.same) fun h' tk e_237 => ?_
  obtain rfl := e_237
  exact GoodW.toG ⟨.inl ⟨_, _, [], rfl, hr, ReadsW.bool true, hp, fun _ => ⟨List.nodup_nil, fun _ hm => (nomatch hm)⟩⟩, fun b o e => R'.base b o e, rfl, hg⟩
theorem caller_ok {D : Wd} {k : Nat} (h : k ≤ 100) : AOkC D k callerA := ⟨rfl, by show 1 + claimMargin + 3 * k < 900; unfold claimMargin; lia, by show 4 + 16 * k < 9000; lia, rfl⟩
end Mine
namespace Mine
open PySem
noncomputable def f_is_whole : Fn := { names := 4, params := 1, body := [
  (.ret (.and (.call (.bi .isinstance) [(.loc 0), (.lit (.ty .int))]) (.not (.call (.bi .isinstance) [(.loc 0), (.lit (.ty .bool))]))))] }
noncomputable def f_month_length : Fn := { names := 5, params := 2, body := [
  (.ite (.and (.cmp (.loc 1) .Eq (.lit (.int 2))) (.cmp (.bin .Mod (.loc 0) (.lit (.int 4))) .Eq (.lit (.int 0)))) [(.ret (.lit (.int 29)))] []),
  (.ret (.sub (.lit (.tup [(.int 31), (.int 28), (.int 31), (.int 30), (.int 31), (.int 30), (.int 31), (.int 31), (.int 30), (.int 31), (.int 30), (.int 31)])) (.bin .Sub (.loc 1) (.lit (.int 1)))))] }
noncomputable def f_date_of : Fn := { names := 8, params := 1, body := [
  (.assign 1 (.bin .Mod (.loc 0) (.lit (.int 1461)))),
  (.assign 2 (.lit (.int 0))),
  (.while (.and (.cmp (.loc 2) .Lt (.lit (.int 3))) (.cmp (.loc 1) .GtE (.sub (.lit (.tup [(.int 0), (.int 366), (.int 731), (.int 1096)])) (.bin .Add (.loc 2) (.lit (.int 1)))))) [(.assign 2 (.bin .Add (.loc 2) (.lit (.int 1))))]),
  (.assign 3 (.bin .Add (.bin .Mult (.bin .FloorDiv (.loc 0) (.lit (.int 1461))) (.lit (.int 4))) (.loc 2))),
  (.assign 1 (.bin .Sub (.loc 1) (.sub (.lit (.tup [(.int 0), (.int 366), (.int 731), (.int 1096)])) (.loc 2)))),
  (.assign 4 (.lit (.int 1))),
  (.while (.cmp (.loc 1) .GtE (.call (.fn "month_length") [(.loc 3), (.loc 4)])) [(.assign 1 (.bin .Sub (.loc 1) (.call (.fn "month_length") [(.loc 3), (.loc 4)]))), (.assign 4 (.bin .Add (.loc 4) (.lit (.int 1))))]),
  (.ret (.tup [(.loc 3), (.loc 4), (.bin .Add (.loc 1) (.lit (.int 1)))]))] }
noncomputable def f_from_end : Fn := { names := 5, params := 1, body := [
  (.assign 1 (.call (.fn "date_of") [(.loc 0)])),
  (.ret (.bin .Sub (.bin .Sub (.sub (.loc 1) (.lit (.int 2))) (.call (.fn "month_length") [(.sub (.loc 1) (.lit (.int 0))), (.sub (.loc 1) (.lit (.int 1)))])) (.lit (.int 1))))] }
noncomputable def f_is_between : Fn := { names := 6, params := 3, body := [
  (.ret (.and (.call (.fn "is_whole") [(.loc 0)]) (.cmp2 (.loc 1) .LtE (.loc 0) .LtE (.loc 2))))] }
noncomputable def f_is_time : Fn := { names := 4, params := 1, body := [
  (.ret (.call (.fn "is_between") [(.loc 0), (.lit (.int 0)), (.bin .Sub (.lit (.int 1000000000000)) (.lit (.int 1)))]))] }
noncomputable def f_are_rising : Fn := { names := 8, params := 3, body := [
  (.ite (.or (.not (.call (.bi .isinstance) [(.loc 0), (.lit (.ty .tuple))])) (.not (.cmp2 (.lit (.int 1)) .LtE (.call (.bi .len) [(.loc 0)]) .LtE (.loc 1)))) [(.ret (.lit (.bool false)))] []),
  (.assign 3 (.neg (.lit (.int 1)))),
  (.for 4 .val (.loc 0) [(.ite (.not (.call (.fn "is_between") [(.loc 4), (.bin .Add (.loc 3) (.lit (.int 1))), (.loc 2)])) [(.ret (.lit (.bool false)))] []), (.assign 3 (.loc 4))]),
  (.ret (.lit (.bool true)))] }
noncomputable def f_is_plain : Fn := { names := 5, params := 1, body := [
  (.assign 1 (.sub (.loc 0) (.lit (.int 0)))),
  (.ite (.cmp (.loc 1) .Eq (.lit (.str "once"))) [(.ret (.and (.cmp (.call (.bi .len) [(.loc 0)]) .Eq (.lit (.int 3))) (.and (.call (.fn "is_time") [(.sub (.loc 0) (.lit (.int 1)))]) (.call (.fn "is_between") [(.sub (.loc 0) (.lit (.int 2))), (.lit (.int 1)), (.lit (.int 48))]))))] []),
  (.ite (.cmp (.call (.bi .len) [(.loc 0)]) .NotEq (.lit (.int 4))) [(.ret (.lit (.bool false)))] []),
  (.ite (.cmp (.loc 1) .Eq (.lit (.str "every"))) [(.ret (.and (.call (.fn "is_time") [(.sub (.loc 0) (.lit (.int 1)))]) (.and (.call (.fn "is_between") [(.sub (.loc 0) (.lit (.int 2))), (.lit (.int 1)), (.lit (.int 48))]) (.call (.fn "is_between") [(.sub (.loc 0) (.lit (.int 3))), (.lit (.int 1)), (.lit (.int 1000000))]))))] []),
  (.ite (.or (.not (.call (.fn "is_between") [(.sub (.loc 0) (.lit (.int 2))), (.lit (.int 0)), (.lit (.int 23))])) (.not (.call (.fn "is_between") [(.sub (.loc 0) (.lit (.int 3))), (.lit (.int 1)), (.lit (.int 48))]))) [(.ret (.lit (.bool false)))] []),
  (.ite (.cmp (.loc 1) .Eq (.lit (.str "week"))) [(.ret (.call (.fn "are_rising") [(.sub (.loc 0) (.lit (.int 1))), (.lit (.int 7)), (.lit (.int 6))]))] []),
  (.ret (.and (.cmp (.loc 1) .Eq (.lit (.str "month"))) (.and (.call (.fn "is_between") [(.sub (.loc 0) (.lit (.int 1))), (.neg (.lit (.int 31))), (.lit (.int 31))]) (.cmp (.sub (.loc 0) (.lit (.int 1))) .NotEq (.lit (.int 0))))))] }
noncomputable def f_is_rule : Fn := { names := 5, params := 1, body := [
  (.for 1 .range (.lit (.int 8)) [(.ite (.or (.not (.call (.bi .isinstance) [(.loc 0), (.lit (.ty .tuple))])) (.or (.cmp (.call (.bi .len) [(.loc 0)]) .Eq (.lit (.int 0))) (.not (.call (.bi .isinstance) [(.sub (.loc 0) (.lit (.int 0))), (.lit (.ty .str))])))) [(.ret (.lit (.bool false)))] []), (.ite (.cmp (.sub (.loc 0) (.lit (.int 0))) .NotIn (.lit (.tup [(.str "from"), (.str "until"), (.str "also"), (.str "but")]))) [(.ret (.call (.fn "is_plain") [(.loc 0)]))] []), (.ite (.cmp (.call (.bi .len) [(.loc 0)]) .NotEq (.lit (.int 3))) [(.ret (.lit (.bool false)))] []), (.ite (.and (.cmp (.sub (.loc 0) (.lit (.int 0))) .Eq (.lit (.str "but"))) (.not (.call (.fn "are_rising") [(.sub (.loc 0) (.lit (.int 1))), (.lit (.int 20)), (.bin .Sub (.lit (.int 100000000000)) (.lit (.int 1)))]))) [(.ret (.lit (.bool false)))] []), (.ite (.and (.cmp (.sub (.loc 0) (.lit (.int 0))) .NotEq (.lit (.str "but"))) (.not (.call (.fn "is_time") [(.sub (.loc 0) (.lit (.int 1)))]))) [(.ret (.lit (.bool false)))] []), (.assign 0 (.sub (.loc 0) (.lit (.int 2))))]),
  (.ret (.lit (.bool false)))] }
noncomputable def f_innermost : Fn := { names := 4, params := 1, body := [
  (.while (.cmp (.sub (.loc 0) (.lit (.int 0))) .In (.lit (.tup [(.str "from"), (.str "until"), (.str "also"), (.str "but")]))) [(.assign 0 (.sub (.loc 0) (.lit (.int 2))))]),
  (.ret (.loc 0))] }
noncomputable def f_length_of : Fn := { names := 5, params := 1, body := [
  (.assign 1 (.call (.fn "innermost") [(.loc 0)])),
  (.ite (.or (.cmp (.sub (.loc 1) (.lit (.int 0))) .Eq (.lit (.str "once"))) (.cmp (.sub (.loc 1) (.lit (.int 0))) .Eq (.lit (.str "every")))) [(.ret (.sub (.loc 1) (.lit (.int 2))))] []),
  (.ret (.sub (.loc 1) (.lit (.int 3))))] }
noncomputable def f_begins_plain : Fn := { names := 6, params := 2, body := [
  (.ite (.cmp (.sub (.loc 0) (.lit (.int 0))) .Eq (.lit (.str "once"))) [(.ret (.cmp (.loc 1) .Eq (.sub (.loc 0) (.lit (.int 1)))))] []),
  (.ite (.cmp (.sub (.loc 0) (.lit (.int 0))) .Eq (.lit (.str "every"))) [(.ret (.and (.cmp (.loc 1) .GtE (.sub (.loc 0) (.lit (.int 1)))) (.cmp (.bin .Mod (.bin .Sub (.loc 1) (.sub (.loc 0) (.lit (.int 1)))) (.sub (.loc 0) (.lit (.int 3)))) .Eq (.lit (.int 0)))))] []),
  (.ite (.cmp (.bin .Mod (.loc 1) (.lit (.int 24))) .NotEq (.sub (.loc 0) (.lit (.int 2)))) [(.ret (.lit (.bool false)))] []),
  (.assign 2 (.bin .FloorDiv (.loc 1) (.lit (.int 24)))),
  (.ite (.cmp (.sub (.loc 0) (.lit (.int 0))) .Eq (.lit (.str "week"))) [(.ret (.cmp (.bin .Mod (.loc 2) (.lit (.int 7))) .In (.sub (.loc 0) (.lit (.int 1)))))] []),
  (.ite (.cmp (.sub (.loc 0) (.lit (.int 1))) .Lt (.lit (.int 0))) [(.ret (.cmp (.call (.fn "from_end") [(.loc 2)]) .Eq (.sub (.loc 0) (.lit (.int 1)))))] []),
  (.ret (.cmp (.sub (.call (.fn "date_of") [(.loc 2)]) (.lit (.int 2))) .Eq (.sub (.loc 0) (.lit (.int 1)))))] }
noncomputable def f_begins : Fn := { names := 5, params := 2, body := [
  (.ite (.cmp (.loc 1) .Lt (.lit (.int 0))) [(.ret (.lit (.bool false)))] []),
  (.while (.cmp (.sub (.loc 0) (.lit (.int 0))) .In (.lit (.tup [(.str "from"), (.str "until"), (.str "also"), (.str "but")]))) [(.ite (.and (.cmp (.sub (.loc 0) (.lit (.int 0))) .Eq (.lit (.str "from"))) (.cmp (.loc 1) .Lt (.sub (.loc 0) (.lit (.int 1))))) [(.ret (.lit (.bool false)))] []), (.ite (.and (.cmp (.sub (.loc 0) (.lit (.int 0))) .Eq (.lit (.str "until"))) (.cmp (.loc 1) .GtE (.sub (.loc 0) (.lit (.int 1))))) [(.ret (.lit (.bool false)))] []), (.ite (.and (.cmp (.sub (.loc 0) (.lit (.int 0))) .Eq (.lit (.str "also"))) (.cmp (.loc 1) .Eq (.sub (.loc 0) (.lit (.int 1))))) [(.ret (.lit (.bool true)))] []), (.ite (.and (.cmp (.sub (.loc 0) (.lit (.int 0))) .Eq (.lit (.str "but"))) (.cmp (.bin .FloorDiv (.loc 1) (.lit (.int 24))) .In (.sub (.loc 0) (.lit (.int 1))))) [(.ret (.lit (.bool false)))] []), (.assign 0 (.sub (.loc 0) (.lit (.int 2))))]),
  (.ret (.call (.fn "begins_plain") [(.loc 0), (.loc 1)]))] }
noncomputable def f_covers : Fn := { names := 6, params := 2, body := [
  (.ite (.cmp (.loc 1) .Lt (.lit (.int 0))) [(.ret (.lit (.bool false)))] []),
  (.for 2 .range (.call (.fn "length_of") [(.loc 0)]) [(.ite (.call (.fn "begins") [(.loc 0), (.bin .Sub (.loc 1) (.loc 2))]) [(.ret (.lit (.bool true)))] [])]),
  (.ret (.lit (.bool false)))] }
noncomputable def f_is_name : Fn := { names := 5, params := 1, body := [
  (.ite (.or (.not (.call (.bi .isinstance) [(.loc 0), (.lit (.ty .str))])) (.not (.cmp2 (.lit (.int 1)) .LtE (.call (.bi .len) [(.loc 0)]) .LtE (.lit (.int 12))))) [(.ret (.lit (.bool false)))] []),
  (.for 1 .val (.loc 0) [(.ite (.cmp (.loc 1) .NotIn (.lit (.str "abcdefghijklmnopqrstuvwxyz"))) [(.ret (.lit (.bool false)))] [])]),
  (.ret (.lit (.bool true)))] }
noncomputable def f_some_covers : Fn := { names := 6, params := 2, body := [
  (.for 2 .val (.loc 0) [(.ite (.call (.fn "covers") [(.loc 2), (.loc 1)]) [(.ret (.lit (.bool true)))] [])]),
  (.ret (.lit (.bool false)))] }
noncomputable def f_need_stretch : Fn := { names := 6, params := 3, body := [
  (.ite (.or (.not (.call (.fn "is_between") [(.loc 0), (.lit (.int 1)), (.lit (.int 48))])) (.or (.not (.call (.fn "is_time") [(.loc 1)])) (.not (.call (.fn "is_time") [(.loc 2)])))) [.fail] []),
  (.ite (.not (.cmp2 (.loc 1) .LtE (.loc 2) .LtE (.bin .Add (.loc 1) (.lit (.int 10000))))) [.fail] [])] }
noncomputable def f_B___init__ : Fn := { names := 4, params := 1, body := [
  (.setAttr (.loc 0) "names" (.lst [])),
  (.setAttr (.loc 0) "free_rules" .dct),
  (.setAttr (.loc 0) "busy_rules" .dct),
  (.setAttr (.loc 0) "held" (.lst [])),
  (.setAttr (.loc 0) "given" (.lit (.int 0)))] }
noncomputable def f_B_come : Fn := { names := 7, params := 3, body := [
  (.ite (.not (.call (.fn "is_name") [(.loc 1)])) [.fail] []),
  (.ite (.cmp (.loc 1) .In (.attr (.loc 0) "names")) [.fail] []),
  (.ite (.cmp (.call (.bi .len) [(.loc 2)]) .Gt (.lit (.int 20))) [.fail] []),
  (.for 3 .val (.loc 2) [(.ite (.not (.call (.fn "is_rule") [(.loc 3)])) [.fail] [])]),
  (.expr (.meth (.attr (.loc 0) "names") .append [(.loc 1)])),
  (.setItem (.attr (.loc 0) "free_rules") (.loc 1) (.call (.ty .list) [(.loc 2)])),
  (.setItem (.attr (.loc 0) "busy_rules") (.loc 1) (.lst []))] }
noncomputable def f_B_need_somebody : Fn := { names := 5, params := 2, body := [
  (.ite (.cmp (.loc 1) .NotIn (.attr (.loc 0) "names")) [.fail] [])] }
noncomputable def f_B_busy : Fn := { names := 8, params := 3, body := [
  (.expr (.mcall (.loc 0) "need_somebody" [(.loc 1)])),
  (.ite (.or (.not (.call (.fn "is_rule") [(.loc 2)])) (.cmp (.call (.bi .len) [(.sub (.attr (.loc 0) "busy_rules") (.loc 1))]) .GtE (.lit (.int 20)))) [.fail] []),
  (.for 3 .val (.attr (.loc 0) "held") [(.ite (.cmp (.loc 1) .In (.sub (.loc 3) (.lit (.int 3)))) [(.for 4 .range (.sub (.loc 3) (.lit (.int 2))) [(.ite (.call (.fn "covers") [(.loc 2), (.bin .Add (.sub (.loc 3) (.lit (.int 1))) (.loc 4))]) [.fail] [])])] [])]),
  (.expr (.meth (.sub (.attr (.loc 0) "busy_rules") (.loc 1)) .append [(.loc 2)]))] }
noncomputable def f_B_meets_at : Fn := { names := 8, params := 4, body := [
  (.for 4 .val (.attr (.loc 0) "held") [(.ite (.and (.cmp (.sub (.loc 4) (.lit (.int 0))) .NotEq (.loc 3)) (.and (.cmp (.loc 1) .In (.sub (.loc 4) (.lit (.int 3)))) (.cmp2 (.sub (.loc 4) (.lit (.int 1))) .LtE (.loc 2) .Lt (.bin .Add (.sub (.loc 4) (.lit (.int 1))) (.sub (.loc 4) (.lit (.int 2))))))) [(.ret (.lit (.bool true)))] [])]),
  (.ret (.lit (.bool false)))] }
noncomputable def f_B_free_at : Fn := { names := 7, params := 4, body := [
  (.ite (.or (.cmp (.loc 2) .Lt (.lit (.int 0))) (.mcall (.loc 0) "meets_at" [(.loc 1), (.loc 2), (.loc 3)])) [(.ret (.lit (.bool false)))] []),
  (.ret (.and (.call (.fn "some_covers") [(.sub (.attr (.loc 0) "free_rules") (.loc 1)), (.loc 2)]) (.not (.call (.fn "some_covers") [(.sub (.attr (.loc 0) "busy_rules") (.loc 1)), (.loc 2)]))))] }
noncomputable def f_B_need_all : Fn := { names := 6, params := 2, body := [
  (.ite (.cmp (.call (.bi .len) [(.loc 1)]) .Eq (.lit (.int 0))) [.fail] []),
  (.for 2 .val (.loc 1) [(.expr (.mcall (.loc 0) "need_somebody" [(.loc 2)]))]),
  (.for 2 .val (.loc 1) [(.ite (.cmp (.meth (.loc 1) .count [(.loc 2)]) .Gt (.lit (.int 1))) [.fail] [])])] }
noncomputable def f_B_bar : Fn := { names := 11, params := 5, body := [
  (.for 5 .range2 (.tup [(.lit (.int 1)), (.bin .Add (.loc 2) (.lit (.int 1)))]) [(.assign 6 (.bin .Sub (.bin .Add (.loc 3) (.loc 2)) (.loc 5))), (.for 7 .val (.loc 1) [(.ite (.not (.mcall (.loc 0) "free_at" [(.loc 7), (.loc 6), (.loc 4)])) [(.ret (.tup [(.loc 7), (.loc 6)]))] [])])]),
  (.ret (.lit .none))] }
noncomputable def f_B_look : Fn := { names := 11, params := 6, body := [
  (.assign 6 (.lst [])),
  (.while (.cmp (.loc 3) .LtE (.loc 4)) [(.assign 7 (.mcall (.loc 0) "bar" [(.loc 1), (.loc 2), (.loc 3), (.loc 5)])), (.ite (.cmp (.loc 7) .Is (.lit .none)) [(.ret (.tup [(.loc 3), (.loc 6)]))] []), (.expr (.meth (.loc 6) .append [(.tup [(.loc 3), (.call (.bi .min) [(.loc 4), (.sub (.loc 7) (.lit (.int 1)))]), (.sub (.loc 7) (.lit (.int 0))), (.sub (.loc 7) (.lit (.int 1)))])])), (.assign 3 (.bin .Add (.sub (.loc 7) (.lit (.int 1))) (.lit (.int 1))))]),
  (.ret (.tup [(.lit .none), (.loc 6)]))] }
noncomputable def f_B_first : Fn := { names := 8, params := 5, body := [
  (.expr (.mcall (.loc 0) "need_all" [(.loc 1)])),
  (.expr (.call (.fn "need_stretch") [(.loc 2), (.loc 3), (.loc 4)])),
  (.ret (.mcall (.loc 0) "look" [(.loc 1), (.loc 2), (.loc 3), (.bin .Sub (.loc 4) (.loc 2)), (.lit (.int 0))]))] }
noncomputable def f_B_meet : Fn := { names := 9, params := 5, body := [
  (.assign 5 (.sub (.mcall (.loc 0) "first" [(.loc 1), (.loc 2), (.loc 3), (.loc 4)]) (.lit (.int 0)))),
  (.ite (.cmp (.loc 5) .Is (.lit .none)) [(.ret (.lit .none))] []),
  (.setAttr (.loc 0) "given" (.bin .Add (.attr (.loc 0) "given") (.lit (.int 1)))),
  (.expr (.meth (.attr (.loc 0) "held") .append [(.tup [(.attr (.loc 0) "given"), (.loc 5), (.loc 2), (.call (.ty .tuple) [(.loc 1)])])])),
  (.ret (.tup [(.attr (.loc 0) "given"), (.loc 5)]))] }
noncomputable def f_B_place_of : Fn := { names := 6, params := 2, body := [
  (.ite (.call (.fn "is_whole") [(.loc 1)]) [(.for 2 .range (.call (.bi .len) [(.attr (.loc 0) "held")]) [(.ite (.cmp (.sub (.sub (.attr (.loc 0) "held") (.loc 2)) (.lit (.int 0))) .Eq (.loc 1)) [(.ret (.loc 2))] [])])] []),
  .fail] }
noncomputable def f_B_drop : Fn := { names := 6, params := 2, body := [
  (.assign 2 (.mcall (.loc 0) "place_of" [(.loc 1)])),
  (.setAttr (.loc 0) "held" (.bin .Add (.slice (.attr (.loc 0) "held") none (some (.loc 2))) (.slice (.attr (.loc 0) "held") (some (.bin .Add (.loc 2) (.lit (.int 1)))) none)))] }
noncomputable def f_B_move : Fn := { names := 10, params := 4, body := [
  (.assign 4 (.mcall (.loc 0) "place_of" [(.loc 1)])),
  (.assign 5 (.sub (.attr (.loc 0) "held") (.loc 4))),
  (.expr (.call (.fn "need_stretch") [(.sub (.loc 5) (.lit (.int 2))), (.loc 2), (.loc 3)])),
  (.assign 6 (.sub (.mcall (.loc 0) "look" [(.sub (.loc 5) (.lit (.int 3))), (.sub (.loc 5) (.lit (.int 2))), (.loc 2), (.bin .Sub (.loc 3) (.sub (.loc 5) (.lit (.int 2)))), (.loc 1)]) (.lit (.int 0)))),
  (.ite (.cmp (.loc 6) .IsNot (.lit .none)) [(.setItem (.attr (.loc 0) "held") (.loc 4) (.tup [(.loc 1), (.loc 6), (.sub (.loc 5) (.lit (.int 2))), (.sub (.loc 5) (.lit (.int 3)))]))] []),
  (.ret (.loc 6))] }
noncomputable def f_l_cell_at : Fn := { names := 5, params := 2, body := [
  (.ite (.cmp (.call (.bi .len) [(.loc 0)]) .Eq (.lit (.int 0))) [(.ret (.lit (.int 0)))] []),
  (.ret (.bin .Add (.sub (.loc 0) (.bin .Mod (.loc 1) (.call (.bi .len) [(.loc 0)]))) (.bin .Mult (.bin .FloorDiv (.loc 1) (.call (.bi .len) [(.loc 0)])) (.lit (.int 31)))))] }
noncomputable def f_l_whole : Fn := { names := 4, params := 1, body := [
  (.ret (.and (.call (.bi .isinstance) [(.loc 0), (.lit (.ty .int))]) (.not (.call (.bi .isinstance) [(.loc 0), (.lit (.ty .bool))]))))] }
noncomputable def f_l_days : Fn := { names := 6, params := 2, body := [
  (.assign 2 (.lst [(.lit (.int 31)), (.lit (.int 28)), (.lit (.int 31)), (.lit (.int 30)), (.lit (.int 31)), (.lit (.int 30)), (.lit (.int 31)), (.lit (.int 31)), (.lit (.int 30)), (.lit (.int 31)), (.lit (.int 30)), (.lit (.int 31))])),
  (.ret (.bin .Add (.sub (.loc 2) (.bin .Sub (.loc 1) (.lit (.int 1)))) (.call (.ty .int) [(.and (.cmp (.loc 1) .Eq (.lit (.int 2))) (.cmp (.bin .Mod (.loc 0) (.lit (.int 4))) .Eq (.lit (.int 0))))])))] }
noncomputable def f_l_in_month : Fn := { names := 7, params := 1, body := [
  (.assign 1 (.bin .Mod (.loc 0) (.lit (.int 1461)))),
  (.assign 2 (.lit (.int 0))),
  (.assign 3 (.lit (.int 1))),
  (.while (.cmp (.loc 1) .GtE (.call (.fn "_law_days") [(.loc 2), (.loc 3)])) [(.assign 1 (.bin .Sub (.loc 1) (.call (.fn "_law_days") [(.loc 2), (.loc 3)]))), (.assign 2 (.bin .Add (.loc 2) (.bin .FloorDiv (.loc 3) (.lit (.int 12))))), (.assign 3 (.bin .Add (.bin .Mod (.loc 3) (.lit (.int 12))) (.lit (.int 1))))]),
  (.ret (.lst [(.bin .Add (.loc 1) (.lit (.int 1))), (.bin .Sub (.loc 1) (.call (.fn "_law_days") [(.loc 2), (.loc 3)]))]))] }
noncomputable def f_l_plain_begins : Fn := { names := 5, params := 2, body := [
  (.ite (.cmp (.sub (.loc 0) (.lit (.int 0))) .Eq (.lit (.str "once"))) [(.ret (.cmp (.loc 1) .Eq (.sub (.loc 0) (.lit (.int 1)))))] []),
  (.ite (.cmp (.sub (.loc 0) (.lit (.int 0))) .Eq (.lit (.str "every"))) [(.ret (.and (.cmp (.loc 1) .GtE (.sub (.loc 0) (.lit (.int 1)))) (.cmp (.bin .Mod (.bin .Sub (.loc 1) (.sub (.loc 0) (.lit (.int 1)))) (.sub (.loc 0) (.lit (.int 3)))) .Eq (.lit (.int 0)))))] []),
  (.ite (.or (.cmp (.loc 1) .Lt (.lit (.int 0))) (.cmp (.bin .Mod (.loc 1) (.lit (.int 24))) .NotEq (.sub (.loc 0) (.lit (.int 2))))) [(.ret (.lit (.bool false)))] []),
  (.ite (.cmp (.sub (.loc 0) (.lit (.int 0))) .Eq (.lit (.str "week"))) [(.ret (.cmp (.bin .Mod (.bin .FloorDiv (.loc 1) (.lit (.int 24))) (.lit (.int 7))) .In (.sub (.loc 0) (.lit (.int 1)))))] []),
  (.ret (.cmp (.sub (.loc 0) (.lit (.int 1))) .In (.call (.fn "_law_in_month") [(.bin .FloorDiv (.loc 1) (.lit (.int 24)))])))] }
noncomputable def f_l_bearing : Fn := { names := 3, params := 0, body := [
  (.ret (.lst [(.lit (.str "from")), (.lit (.str "until")), (.lit (.str "also")), (.lit (.str "but"))]))] }
noncomputable def f_l_heads : Fn := { names := 5, params := 1, body := [
  (.assign 1 (.lst [])),
  (.while (.cmp (.sub (.loc 0) (.lit (.int 0))) .In (.call (.fn "_law_bearing") [])) [(.expr (.meth (.loc 1) .append [(.loc 0)])), (.assign 0 (.sub (.loc 0) (.lit (.int 2))))]),
  (.ret (.bin .Add (.loc 1) (.lst [(.loc 0)])))] }
noncomputable def f_l_begun : Fn := { names := 8, params := 2, body := [
  (.assign 2 (.call (.fn "_law_heads") [(.loc 0)])),
  (.assign 3 (.call (.fn "_law_plain_begins") [(.sub (.loc 2) (.neg (.lit (.int 1)))), (.loc 1)])),
  (.for 4 .rev (.slice (.loc 2) none (some (.neg (.lit (.int 1))))) [(.ite (.cmp (.sub (.loc 4) (.lit (.int 0))) .Eq (.lit (.str "from"))) [(.assign 3 (.and (.loc 3) (.cmp (.loc 1) .GtE (.sub (.loc 4) (.lit (.int 1))))))] [(.ite (.cmp (.sub (.loc 4) (.lit (.int 0))) .Eq (.lit (.str "until"))) [(.assign 3 (.and (.loc 3) (.cmp (.loc 1) .Lt (.sub (.loc 4) (.lit (.int 1))))))] [(.ite (.cmp (.sub (.loc 4) (.lit (.int 0))) .Eq (.lit (.str "also"))) [(.assign 3 (.or (.loc 3) (.cmp (.loc 1) .Eq (.sub (.loc 4) (.lit (.int 1))))))] [(.assign 3 (.and (.loc 3) (.cmp (.bin .FloorDiv (.loc 1) (.lit (.int 24))) .NotIn (.sub (.loc 4) (.lit (.int 1))))))])])])]),
  (.ret (.loc 3))] }
noncomputable def f_l_size : Fn := { names := 5, params := 1, body := [
  (.assign 1 (.sub (.call (.fn "_law_heads") [(.loc 0)]) (.neg (.lit (.int 1))))),
  (.ite (.cmp (.sub (.loc 1) (.lit (.int 0))) .In (.lst [(.lit (.str "once")), (.lit (.str "every"))])) [(.ret (.sub (.loc 1) (.lit (.int 2))))] []),
  (.ret (.sub (.loc 1) (.lit (.int 3))))] }
noncomputable def f_l_weekdays : Fn := { names := 6, params := 1, body := [
  (.assign 1 (.lst [])),
  (.for 2 .range (.lit (.int 7)) [(.ite (.cmp (.bin .Mod (.loc 0) (.lit (.int 2))) .Eq (.lit (.int 1))) [(.expr (.meth (.loc 1) .append [(.loc 2)]))] []), (.assign 0 (.bin .FloorDiv (.loc 0) (.lit (.int 2))))]),
  (.ret (.call (.ty .tuple) [(.loc 1)]))] }
noncomputable def f_l_plain_by : Fn := { names := 10, params := 3, body := [
  (.assign 3 (.bin .Mod (.sub (.loc 0) (.lit (.int 0))) (.lit (.int 4)))),
  (.assign 4 (.bin .Add (.lit (.int 1)) (.bin .Mod (.bin .FloorDiv (.sub (.loc 0) (.lit (.int 0))) (.lit (.int 4))) (.loc 2)))),
  (.assign 5 (.bin .Add (.loc 1) (.bin .Mod (.sub (.loc 0) (.lit (.int 1))) (.lit (.int 60))))),
  (.ite (.cmp (.loc 3) .Eq (.lit (.int 0))) [(.ret (.tup [(.lit (.str "once")), (.loc 5), (.loc 4)]))] []),
  (.ite (.cmp (.loc 3) .Eq (.lit (.int 1))) [(.ret (.tup [(.lit (.str "every")), (.loc 5), (.loc 4), (.bin .Add (.lit (.int 1)) (.bin .Mod (.sub (.loc 0) (.lit (.int 2))) (.lit (.int 30))))]))] []),
  (.ite (.cmp (.loc 3) .Eq (.lit (.int 2))) [(.ret (.tup [(.lit (.str "week")), (.call (.fn "_law_weekdays") [(.bin .Add (.lit (.int 1)) (.bin .Mod (.sub (.loc 0) (.lit (.int 2))) (.lit (.int 127))))]), (.bin .Mod (.sub (.loc 0) (.lit (.int 1))) (.lit (.int 24))), (.loc 4)]))] []),
  (.assign 6 (.bin .Sub (.bin .Mod (.sub (.loc 0) (.lit (.int 2))) (.lit (.int 62))) (.lit (.int 31)))),
  (.ite (.cmp (.bin .Mod (.bin .FloorDiv (.sub (.loc 0) (.lit (.int 2))) (.lit (.int 62))) (.lit (.int 2))) .Eq (.lit (.int 1))) [(.assign 6 (.sub (.lst [(.neg (.lit (.int 1))), (.lit (.int 0)), (.lit (.int 30)), (.lit (.int 29)), (.lit (.int 28)), (.neg (.lit (.int 31))), (.neg (.lit (.int 30))), (.neg (.lit (.int 29))), (.neg (.lit (.int 28))), (.lit (.int 27))]) (.bin .Mod (.bin .FloorDiv (.sub (.loc 0) (.lit (.int 2))) (.lit (.int 124))) (.lit (.int 10)))))] []),
  (.ret (.tup [(.lit (.str "month")), (.bin .Add (.loc 6) (.call (.ty .int) [(.cmp (.loc 6) .GtE (.lit (.int 0)))])), (.bin .Mod (.sub (.loc 0) (.lit (.int 1))) (.lit (.int 24))), (.loc 4)]))] }
noncomputable def f_l_head_by : Fn := { names := 9, params := 3, body := [
  (.assign 3 (.sub (.lst [(.lit (.str "from")), (.lit (.str "until")), (.lit (.str "also")), (.lit (.str "but"))]) (.bin .Mod (.loc 0) (.lit (.int 4))))),
  (.assign 4 (.bin .Add (.loc 1) (.bin .Mod (.bin .FloorDiv (.loc 0) (.lit (.int 4))) (.lit (.int 70))))),
  (.ite (.cmp (.loc 3) .NotEq (.lit (.str "but"))) [(.ret (.tup [(.loc 3), (.loc 4), (.loc 2)]))] []),
  (.assign 5 (.sub (.lst [(.lit (.int 1)), (.lit (.int 2)), (.lit (.int 5)), (.lit (.int 20))]) (.bin .Mod (.bin .FloorDiv (.loc 0) (.lit (.int 280))) (.lit (.int 4))))),
  (.ret (.tup [(.loc 3), (.call (.ty .tuple) [(.comp (.bin .Add (.bin .FloorDiv (.loc 4) (.lit (.int 24))) (.bin .Mult (.loc 6) (.bin .Add (.lit (.int 1)) (.bin .Mod (.bin .FloorDiv (.loc 0) (.lit (.int 1120))) (.lit (.int 3)))))) 6 .range (.loc 5))]), (.loc 2)]))] }
noncomputable def f_l_far : Fn := { names := 4, params := 1, body := [
  (.ret (.sub (.lst [(.lit (.int 0)), (.bin .Mod (.bin .FloorDiv (.loc 0) (.lit (.int 4))) (.bin .Pow (.lit (.int 10)) (.lit (.int 6)))), (.bin .Mod (.bin .FloorDiv (.loc 0) (.lit (.int 4))) (.bin .Sub (.bin .Pow (.lit (.int 10)) (.lit (.int 12))) (.lit (.int 20000)))), (.bin .Sub (.bin .Pow (.lit (.int 10)) (.lit (.int 12))) (.lit (.int 200)))]) (.bin .Mod (.loc 0) (.lit (.int 4)))))] }
noncomputable def f_l_in_time : Fn := { names := 4, params := 1, body := [
  (.ret (.call (.bi .min) [(.loc 0), (.bin .Sub (.bin .Pow (.lit (.int 10)) (.lit (.int 12))) (.lit (.int 1)))]))] }
noncomputable def f_l_name_by : Fn := { names := 10, params := 3, body := [
  (.assign 3 (.lit (.str "abcdefghijklmnopqrstuvwxyz"))),
  (.assign 4 (.bin .Mod (.bin .FloorDiv (.loc 0) (.lit (.int 2))) (.lit (.int 12)))),
  (.ite (.cmp (.bin .Mod (.loc 0) (.lit (.int 2))) .Eq (.lit (.int 1))) [(.assign 1 (.bin .FloorDiv (.loc 0) (.lit (.int 48))))] []),
  (.assign 5 (.lit (.str ""))),
  (.ite (.cmp (.bin .Mod (.loc 0) (.lit (.int 6))) .Eq (.lit (.int 4))) [(.for 6 .range (.bin .Add (.loc 2) (.lit (.int 1))) [(.assign 5 (.bin .Add (.loc 5) (.sub (.loc 3) (.bin .Mod (.bin .Add (.bin .FloorDiv (.loc 0) (.lit (.int 6))) (.bin .Mult (.loc 6) (.bin .Add (.lit (.int 1)) (.bin .Mod (.bin .FloorDiv (.loc 0) (.lit (.int 150))) (.lit (.int 5)))))) (.lit (.int 25))))))]), (.ret (.loc 5))] []),
  (.for 6 .range (.bin .Add (.bin .Add (.loc 4) (.lit (.int 1))) (.bin .Mod (.bin .FloorDiv (.loc 1) (.lit (.int 24))) (.bin .Sub (.lit (.int 12)) (.loc 4)))) [(.ite (.cmp (.loc 6) .Eq (.loc 4)) [(.assign 5 (.bin .Add (.loc 5) (.sub (.loc 3) (.bin .Add (.bin .Mult (.bin .Mod (.bin .FloorDiv (.loc 0) (.lit (.int 24))) (.lit (.int 2))) (.lit (.int 13))) (.loc 2)))))] [(.assign 5 (.bin .Add (.loc 5) (.sub (.loc 3) (.bin .Mod (.bin .Add (.bin .FloorDiv (.loc 1) (.lit (.int 288))) (.bin .Mult (.loc 6) (.bin .Add (.lit (.int 1)) (.bin .Mod (.loc 1) (.lit (.int 5)))))) (.lit (.int 26))))))])]),
  (.ret (.loc 5))] }
noncomputable def f_l_free_by : Fn := { names := 7, params := 2, body := [
  (.assign 2 (.bin .Mod (.sub (.loc 0) (.lit (.int 0))) (.lit (.int 4)))),
  (.assign 3 (.bin .Add (.lit (.int 1)) (.bin .Mod (.bin .FloorDiv (.sub (.loc 0) (.lit (.int 0))) (.lit (.int 4))) (.lit (.int 5))))),
  (.ite (.cmp (.bin .Mod (.bin .FloorDiv (.sub (.loc 0) (.lit (.int 0))) (.lit (.int 20))) (.lit (.int 8))) .Eq (.lit (.int 1))) [(.ret (.tup [(.lit (.str "every")), (.bin .Add (.loc 1) (.bin .Mod (.sub (.loc 0) (.lit (.int 1))) (.lit (.int 6)))), (.bin .Add (.lit (.int 24)) (.bin .Mod (.bin .FloorDiv (.sub (.loc 0) (.lit (.int 0))) (.lit (.int 160))) (.lit (.int 25)))), (.bin .Add (.lit (.int 1)) (.bin .Mod (.sub (.loc 0) (.lit (.int 2))) (.lit (.int 60))))]))] []),
  (.ite (.cmp (.loc 2) .Lt (.lit (.int 2))) [(.ret (.tup [(.lit (.str "every")), (.bin .Add (.loc 1) (.bin .Mod (.sub (.loc 0) (.lit (.int 1))) (.lit (.int 6)))), (.loc 3), (.bin .Add (.lit (.int 1)) (.bin .Mod (.sub (.loc 0) (.lit (.int 2))) (.lit (.int 9))))]))] []),
  (.ite (.cmp (.loc 2) .Eq (.lit (.int 2))) [(.ret (.tup [(.lit (.str "week")), (.call (.fn "_law_weekdays") [(.bin .Add (.lit (.int 1)) (.bin .Mod (.sub (.loc 0) (.lit (.int 2))) (.lit (.int 127))))]), (.bin .Mod (.sub (.loc 0) (.lit (.int 1))) (.lit (.int 24))), (.bin .Add (.loc 3) (.lit (.int 4)))]))] []),
  (.ret (.call (.fn "_law_plain_by") [(.loc 0), (.loc 1), (.lit (.int 5))]))] }
noncomputable def f_l_people_by : Fn := { names := 13, params := 4, body := [
  (.assign 4 (.lst [])),
  (.assign 5 (.bin .FloorDiv (.call (.fn "_law_cell_at") [(.loc 0), (.bin .Add (.loc 1) (.lit (.int 12)))]) (.lit (.int 7)))),
  (.for 6 .range (.loc 2) [(.assign 7 (.comp (.call (.fn "_law_cell_at") [(.loc 0), (.bin .Add (.bin .Add (.loc 1) (.bin .Mult (.lit (.int 13)) (.loc 6))) (.loc 10))]) 10 .range (.lit (.int 13)))), (.assign 8 (.lst [(.call (.fn "_law_free_by") [(.slice (.loc 7) (some (.lit (.int 1))) (some (.lit (.int 4)))), (.loc 3)])])), (.ite (.cmp (.bin .Mod (.sub (.loc 7) (.lit (.int 0))) (.lit (.int 3))) .Eq (.lit (.int 1))) [(.expr (.meth (.loc 8) .append [(.call (.fn "_law_plain_by") [(.slice (.loc 7) (some (.lit (.int 4))) (some (.lit (.int 7)))), (.loc 3), (.lit (.int 5))])]))] []), (.ite (.cmp (.bin .Mod (.bin .FloorDiv (.sub (.loc 7) (.lit (.int 0))) (.lit (.int 3))) (.lit (.int 4))) .Eq (.lit (.int 1))) [(.setItem (.loc 8) (.lit (.int 0)) (.call (.fn "_law_head_by") [(.sub (.loc 7) (.lit (.int 4))), (.loc 3), (.sub (.loc 8) (.lit (.int 0)))]))] []), (.assign 9 (.lst [])), (.ite (.cmp (.bin .Mod (.bin .FloorDiv (.sub (.loc 7) (.lit (.int 0))) (.lit (.int 12))) (.lit (.int 3))) .Gt (.lit (.int 0))) [(.expr (.meth (.loc 9) .append [(.call (.fn "_law_plain_by") [(.slice (.loc 7) (some (.lit (.int 7))) (some (.lit (.int 10)))), (.loc 3), (.sub (.lst [(.lit (.int 4)), (.lit (.int 48))]) (.call (.ty .int) [(.cmp (.bin .Mod (.bin .FloorDiv (.sub (.loc 7) (.lit (.int 0))) (.lit (.int 5))) (.lit (.int 8))) .Eq (.lit (.int 1)))]))])]))] []), (.ite (.cmp (.bin .Mod (.bin .FloorDiv (.sub (.loc 7) (.lit (.int 0))) (.lit (.int 12))) (.lit (.int 3))) .Eq (.lit (.int 2))) [(.expr (.meth (.loc 9) .append [(.call (.fn "_law_head_by") [(.sub (.loc 7) (.lit (.int 10))), (.loc 3), (.call (.fn "_law_plain_by") [(.slice (.loc 7) (some (.lit (.int 10))) (some (.lit (.int 13)))), (.loc 3), (.lit (.int 3))])])]))] []), (.ite (.cmp (.bin .Mod (.bin .FloorDiv (.sub (.loc 7) (.lit (.int 0))) (.lit (.int 7))) (.lit (.int 9))) .Eq (.lit (.int 4))) [(.assign 8 (.lst []))] []), (.expr (.meth (.loc 4) .append [(.lst [(.call (.fn "_law_name_by") [(.loc 5), (.bin .FloorDiv (.sub (.loc 7) (.lit (.int 0))) (.lit (.int 36))), (.loc 6)]), (.loc 8), (.loc 9), (.lst [])])]))]),
  (.ret (.loc 4))] }
noncomputable def f_l_book_of : Fn := { names := 7, params := 1, body := [
  (.assign 1 .new),
  (.for 2 .val (.loc 0) [(.expr (.mcall (.loc 1) "come" [(.sub (.loc 2) (.lit (.int 0))), (.call (.ty .list) [(.sub (.loc 2) (.lit (.int 1)))])])), (.for 3 .val (.sub (.loc 2) (.lit (.int 2))) [(.expr (.mcall (.loc 1) "busy" [(.sub (.loc 2) (.lit (.int 0))), (.loc 3)]))])]),
  (.ret (.loc 1))] }
noncomputable def f_l_lasts : Fn := { names := 6, params := 2, body := [
  (.for 2 .range (.call (.fn "_law_size") [(.loc 0)]) [(.ite (.and (.cmp (.loc 1) .GtE (.loc 2)) (.call (.fn "_law_begun") [(.loc 0), (.bin .Sub (.loc 1) (.loc 2))])) [(.ret (.lit (.bool true)))] [])]),
  (.ret (.lit (.bool false)))] }
noncomputable def f_l_open : Fn := { names := 5, params := 2, body := [
  (.ite (.call (.bi .any) [(.comp2 (.and (.cmp (.loc 2) .LtE (.loc 1)) (.cmp (.loc 1) .Lt (.bin .Add (.loc 2) (.loc 3)))) 2 .val (.sub (.loc 0) (.lit (.int 3))))]) [(.ret (.lit (.bool false)))] []),
  (.ite (.not (.call (.bi .any) [(.comp (.call (.fn "_law_lasts") [(.loc 2), (.loc 1)]) 2 .val (.sub (.loc 0) (.lit (.int 1))))])) [(.ret (.lit (.bool false)))] []),
  (.ret (.not (.call (.bi .any) [(.comp (.call (.fn "_law_lasts") [(.loc 2), (.loc 1)]) 2 .val (.sub (.loc 0) (.lit (.int 2))))])))] }
noncomputable def f_l_is_told : Fn := { names := 4, params := 1, body := [
  (.ite (.or (.not (.call (.bi .isinstance) [(.loc 0), (.lit (.ty .tuple))])) (.or (.cmp (.call (.bi .len) [(.loc 0)]) .NotEq (.lit (.int 2))) (.not (.call (.bi .isinstance) [(.sub (.loc 0) (.lit (.int 1))), (.lit (.ty .list))])))) [(.ret (.lit (.bool false)))] []),
  (.ret (.or (.cmp (.sub (.loc 0) (.lit (.int 0))) .Is (.lit .none)) (.call (.fn "_law_whole") [(.sub (.loc 0) (.lit (.int 0)))])))] }
noncomputable def f_l_row_holds : Fn := { names := 7, params := 4, body := [
  (.ite (.or (.not (.call (.bi .isinstance) [(.loc 0), (.lit (.ty .tuple))])) (.or (.cmp (.call (.bi .len) [(.loc 0)]) .NotEq (.lit (.int 4))) (.not (.call (.bi .isinstance) [(.sub (.loc 0) (.lit (.int 2))), (.lit (.ty .str))])))) [(.ret (.lit (.bool false)))] []),
  (.ite (.or (.not (.call (.fn "_law_whole") [(.sub (.loc 0) (.lit (.int 0)))])) (.or (.not (.call (.fn "_law_whole") [(.sub (.loc 0) (.lit (.int 1)))])) (.not (.call (.fn "_law_whole") [(.sub (.loc 0) (.lit (.int 3)))])))) [(.ret (.lit (.bool false)))] []),
  (.ite (.or (.cmp (.sub (.loc 0) (.lit (.int 0))) .NotEq (.loc 3)) (.or (.cmp (.sub (.loc 0) (.lit (.int 1))) .Lt (.loc 3)) (.not (.cmp2 (.sub (.loc 0) (.lit (.int 1))) .LtE (.sub (.loc 0) (.lit (.int 3))) .Lt (.bin .Add (.sub (.loc 0) (.lit (.int 0))) (.loc 2)))))) [(.ret (.lit (.bool false)))] []),
  (.ret (.call (.bi .any) [(.comp (.and (.cmp (.sub (.loc 4) (.lit (.int 0))) .Eq (.sub (.loc 0) (.lit (.int 2)))) (.not (.call (.fn "_law_open") [(.loc 4), (.sub (.loc 0) (.lit (.int 3)))]))) 4 .val (.loc 1))]))] }
noncomputable def f_l_holds : Fn := { names := 10, params := 5, body := [
  (.assign 5 (.loc 3)),
  (.for 6 .val (.sub (.loc 0) (.lit (.int 1))) [(.ite (.not (.call (.fn "_law_row_holds") [(.loc 6), (.loc 1), (.loc 2), (.loc 5)])) [(.ret (.lit (.bool false)))] []), (.assign 5 (.bin .Add (.sub (.loc 6) (.lit (.int 1))) (.lit (.int 1))))]),
  (.ite (.cmp (.sub (.loc 0) (.lit (.int 0))) .Is (.lit .none)) [(.ret (.cmp (.loc 5) .Eq (.call (.bi .max) [(.loc 3), (.bin .Add (.bin .Sub (.loc 4) (.loc 2)) (.lit (.int 1)))])))] []),
  (.ite (.or (.cmp (.sub (.loc 0) (.lit (.int 0))) .NotEq (.loc 5)) (.cmp (.bin .Add (.sub (.loc 0) (.lit (.int 0))) (.loc 2)) .Gt (.loc 4))) [(.ret (.lit (.bool false)))] []),
  (.ret (.call (.fn "_law_all_open") [(.sub (.loc 0) (.lit (.int 0))), (.loc 1), (.loc 2)]))] }
noncomputable def f_l_all_open : Fn := { names := 8, params := 3, body := [
  (.for 3 .val (.loc 1) [(.for 4 .range (.loc 2) [(.ite (.not (.call (.fn "_law_open") [(.loc 3), (.bin .Add (.loc 0) (.loc 4))])) [(.ret (.lit (.bool false)))] [])])]),
  (.ret (.lit (.bool true)))] }
noncomputable def f_l_busier : Fn := { names := 8, params := 3, body := [
  (.for 3 .val (.loc 2) [(.ite (.cmp (.loc 3) .Is (.lit .none)) [.cont] []), (.assign 4 (.call (.bi .any) [(.comp2 (.cmp2 (.loc 5) .LtE (.loc 3) .Lt (.bin .Add (.loc 5) (.loc 6))) 5 .val (.sub (.loc 1) (.lit (.int 3))))])), (.ite (.not (.loc 4)) [(.expr (.mcall (.loc 0) "busy" [(.sub (.loc 1) (.lit (.int 0))), (.tup [(.lit (.str "once")), (.loc 3), (.lit (.int 1))])])), (.expr (.meth (.sub (.loc 1) (.lit (.int 2))) .append [(.tup [(.lit (.str "once")), (.loc 3), (.lit (.int 1))])]))] [])])] }
noncomputable def f_l_taken : Fn := { names := 13, params := 5, body := [
  (.assign 5 (.comp (.sub (.loc 10) (.lit (.int 0))) 10 .val (.loc 1))),
  (.assign 6 (.mcall (.loc 0) "meet" [(.loc 5), (.loc 3), (.sub (.loc 4) (.lit (.int 0))), (.sub (.loc 4) (.lit (.int 1)))])),
  (.ite (.cmp (.loc 2) .Is (.lit .none)) [(.ret (.cmp (.loc 6) .Is (.lit .none)))] []),
  (.assign 7 (.bin .Add (.sub (.loc 4) (.lit (.int 0))) (.lit (.int 2000)))),
  (.assign 8 (.call (.bi .max) [(.bin .Add (.lst [(.loc 7)]) (.comp (.sub (.sub (.sub (.loc 10) (.lit (.int 1))) (.lit (.int 0))) (.lit (.int 1))) 10 .val (.loc 1)))])),
  (.for 9 .val (.sub (.sub (.loc 1) (.neg (.lit (.int 1)))) (.lit (.int 2))) [(.ite (.cmp2 (.loc 8) .LtE (.sub (.loc 9) (.lit (.int 1))) .Lt (.bin .Add (.loc 8) (.loc 3))) [(.assign 8 (.bin .Add (.sub (.loc 9) (.lit (.int 1))) (.lit (.int 1))))] [])]),
  (.ite (.cmp (.bin .Add (.loc 8) (.loc 3)) .Gt (.bin .Add (.sub (.loc 4) (.lit (.int 1))) (.lit (.int 2000)))) [(.assign 8 (.lit .none))] []),
  (.ret (.and (.cmp (.loc 6) .Eq (.tup [(.lit (.int 1)), (.loc 2)])) (.cmp (.mcall (.loc 0) "move" [(.lit (.int 1)), (.loc 7), (.bin .Add (.sub (.loc 4) (.lit (.int 1))) (.lit (.int 2000)))]) .Eq (.loc 8))))] }
noncomputable def f_l_asked : Fn := { names := 8, params := 3, body := [
  (.assign 3 (.comp (.sub (.loc 5) (.lit (.int 0))) 5 .val (.loc 1))),
  (.assign 4 (.mcall (.loc 0) "first" [(.loc 3), (.sub (.loc 2) (.lit (.int 0))), (.sub (.loc 2) (.lit (.int 1))), (.sub (.loc 2) (.lit (.int 2)))])),
  (.ite (.not (.call (.fn "_law_is_told") [(.loc 4)])) [(.ret (.neg (.lit (.int 1))))] []),
  (.ite (.not (.call (.fn "_law_holds") [(.loc 4), (.loc 1), (.sub (.loc 2) (.lit (.int 0))), (.sub (.loc 2) (.lit (.int 1))), (.sub (.loc 2) (.lit (.int 2)))])) [(.ret (.neg (.lit (.int 1))))] []),
  (.ite (.cmp (.bin .Mod (.call (.bi .len) [(.sub (.loc 2) (.lit (.int 3)))]) (.lit (.int 2))) .Eq (.lit (.int 0))) [(.expr (.meth (.sub (.loc 2) (.lit (.int 3))) .append [(.tup [(.loc 4), (.call (.bi .repr) [(.loc 4)])])]))] [(.expr (.meth (.sub (.loc 4) (.lit (.int 1))) .clear []))]),
  (.ret (.sub (.loc 4) (.lit (.int 0))))] }
noncomputable def f_l_asked_again : Fn := { names := 13, params := 5, body := [
  (.assign 5 (.sub (.loc 2) (.neg (.lit (.int 1))))),
  (.assign 6 (.sub (.loc 5) (.lit (.int 3)))),
  (.assign 7 (.mcall (.loc 1) "meet" [(.lst [(.sub (.loc 5) (.lit (.int 0)))]), (.lit (.int 1)), (.sub (.loc 4) (.lit (.int 1))), (.call (.fn "_law_in_time") [(.bin .Add (.sub (.loc 4) (.lit (.int 1))) (.lit (.int 12)))])])),
  (.ite (.cmp (.loc 7) .Is (.lit .none)) [(.ret (.lit (.bool true)))] []),
  (.setItem (.loc 5) (.lit (.int 3)) (.bin .Add (.loc 6) (.lst [(.tup [(.sub (.loc 7) (.lit (.int 1))), (.lit (.int 1))])]))),
  (.ite (.cmp (.call (.fn "_law_asked") [(.loc 1), (.loc 2), (.loc 4)]) .Eq (.neg (.lit (.int 1)))) [(.ret (.lit (.bool false)))] []),
  (.assign 8 (.call (.fn "_law_in_time") [(.bin .Add (.sub (.loc 4) (.lit (.int 1))) (.bin .Mod (.call (.fn "_law_cell_at") [(.loc 0), (.lit (.int 9))]) (.lit (.int 12))))])),
  (.assign 9 (.mcall (.loc 1) "move" [(.sub (.loc 7) (.lit (.int 0))), (.loc 8), (.call (.fn "_law_in_time") [(.bin .Add (.loc 8) (.lit (.int 9)))])])),
  (.ite (.cmp (.loc 9) .IsNot (.lit .none)) [(.setItem (.loc 5) (.lit (.int 3)) (.bin .Add (.loc 6) (.lst [(.tup [(.loc 9), (.lit (.int 1))])])))] []),
  (.ite (.cmp (.call (.fn "_law_asked") [(.loc 1), (.loc 2), (.loc 4)]) .Eq (.neg (.lit (.int 1)))) [(.ret (.lit (.bool false)))] []),
  (.expr (.mcall (.loc 1) "drop" [(.sub (.loc 7) (.lit (.int 0)))])),
  (.setItem (.loc 5) (.lit (.int 3)) (.loc 6)),
  (.ret (.cmp (.call (.fn "_law_asked") [(.loc 1), (.loc 2), (.loc 4)]) .Eq (.loc 3)))] }
noncomputable def f_law : Fn := { names := 21, params := 1, body := [
  (.assign 1 (.call (.fn "_law_far") [(.call (.fn "_law_cell_at") [(.loc 0), (.lit (.int 0))])])),
  (.assign 2 (.and (.cmp (.bin .Mod (.call (.fn "_law_cell_at") [(.loc 0), (.lit (.int 7))]) (.lit (.int 8))) .Eq (.lit (.int 1))) (.cmp (.loc 1) .Lt (.bin .Sub (.bin .Pow (.lit (.int 10)) (.lit (.int 12))) (.lit (.int 20000)))))),
  (.assign 3 (.bin .Add (.lit (.int 1)) (.bin .Mult (.bin .Mod (.call (.fn "_law_cell_at") [(.loc 0), (.lit (.int 1))]) (.lit (.int 3))) (.call (.ty .int) [(.not (.loc 2))])))),
  (.assign 4 (.call (.fn "_law_people_by") [(.loc 0), (.lit (.int 12)), (.loc 3), (.loc 1)])),
  (.assign 5 (.call (.fn "_law_book_of") [(.loc 4)])),
  (.assign 6 (.bin .Add (.lit (.int 1)) (.bin .Mod (.call (.fn "_law_cell_at") [(.loc 0), (.lit (.int 3))]) (.lit (.int 4))))),
  (.assign 7 (.bin .Add (.loc 1) (.bin .Mod (.call (.fn "_law_cell_at") [(.loc 0), (.lit (.int 4))]) (.lit (.int 60))))),
  (.ite (.and (.cmp (.loc 1) .Gt (.bin .Sub (.bin .Pow (.lit (.int 10)) (.lit (.int 12))) (.lit (.int 1000)))) (.cmp (.bin .Mod (.bin .FloorDiv (.call (.fn "_law_cell_at") [(.loc 0), (.lit (.int 4))]) (.lit (.int 60))) (.lit (.int 3))) .Eq (.lit (.int 1)))) [(.assign 7 (.bin .Sub (.bin .Sub (.bin .Pow (.lit (.int 10)) (.lit (.int 12))) (.lit (.int 1))) (.bin .Mod (.bin .FloorDiv (.call (.fn "_law_cell_at") [(.loc 0), (.lit (.int 4))]) (.lit (.int 180))) (.lit (.int 30)))))] []),
  (.ite (.and (.cmp (.bin .Mod (.call (.fn "_law_cell_at") [(.loc 0), (.lit (.int 6))]) (.lit (.int 3))) .Eq (.lit (.int 1))) (.not (.loc 2))) [(.assign 8 (.bin .Add (.lit (.int 1)) (.bin .Mod (.bin .FloorDiv (.call (.fn "_law_cell_at") [(.loc 0), (.lit (.int 6))]) (.lit (.int 3))) (.lit (.int 3))))), (.assign 9 (.mcall (.loc 5) "meet" [(.lst [(.sub (.sub (.loc 4) (.neg (.lit (.int 1)))) (.lit (.int 0)))]), (.loc 8), (.loc 7), (.call (.fn "_law_in_time") [(.bin .Add (.loc 7) (.lit (.int 20)))])])), (.ite (.cmp (.loc 9) .IsNot (.lit .none)) [(.expr (.meth (.sub (.sub (.loc 4) (.neg (.lit (.int 1)))) (.lit (.int 3))) .append [(.tup [(.sub (.loc 9) (.lit (.int 1))), (.loc 8)])]))] [])] []),
  (.assign 10 (.call (.fn "_law_in_time") [(.bin .Add (.loc 7) (.bin .Mod (.call (.fn "_law_cell_at") [(.loc 0), (.lit (.int 5))]) (.lit (.int 41))))])),
  (.ite (.loc 2) [(.assign 6 (.bin .Add (.lit (.int 25)) (.bin .Mod (.bin .FloorDiv (.call (.fn "_law_cell_at") [(.loc 0), (.lit (.int 7))]) (.lit (.int 8))) (.lit (.int 24))))), (.assign 10 (.bin .Add (.loc 7) (.bin .Mod (.call (.fn "_law_cell_at") [(.loc 0), (.lit (.int 5))]) (.lit (.int 10001))))), (.assign 4 (.lst [])), (.for 11 .range (.bin .Add (.lit (.int 1)) (.bin .Mod (.call (.fn "_law_cell_at") [(.loc 0), (.lit (.int 1))]) (.lit (.int 6)))) [(.assign 12 (.tup [(.lit (.str "every")), (.bin .Add (.loc 7) (.bin .Mod (.bin .FloorDiv (.call (.fn "_law_cell_at") [(.loc 0), (.bin .Add (.lit (.int 7)) (.bin .Mult (.lit (.int 2)) (.loc 11)))]) (.lit (.int 192))) (.lit (.int 9000)))), (.lit (.int 1)), (.lit (.int 1))])), (.expr (.meth (.loc 4) .append [(.lst [(.bin .Add (.lit (.str "z")) (.sub (.lit (.str "uvwxyz")) (.loc 11))), (.lst [(.loc 12)]), (.lst []), (.lst [])])])), (.expr (.mcall (.loc 5) "come" [(.sub (.sub (.loc 4) (.neg (.lit (.int 1)))) (.lit (.int 0))), (.lst [(.loc 12)])]))])] []),
  (.assign 13 (.slice (.loc 4) (some (.bin .Mod (.call (.fn "_law_cell_at") [(.loc 0), (.lit (.int 2))]) (.call (.bi .len) [(.loc 4)]))) none)),
  (.ite (.cmp (.bin .Mod (.bin .FloorDiv (.call (.fn "_law_cell_at") [(.loc 0), (.lit (.int 2))]) (.lit (.int 3))) (.lit (.int 2))) .Eq (.lit (.int 1))) [(.assign 13 (.rev (.loc 13)))] []),
  (.assign 14 (.lst [(.loc 6), (.loc 7), (.loc 10), (.lst [])])),
  (.assign 15 (.call (.fn "_law_asked") [(.loc 5), (.loc 13), (.loc 14)])),
  (.ite (.or (.cmp (.loc 15) .Eq (.neg (.lit (.int 1)))) (.and (.not (.loc 2)) (.not (.call (.fn "_law_asked_again") [(.loc 0), (.loc 5), (.loc 13), (.loc 15), (.loc 14)])))) [(.ret (.lit (.bool false)))] []),
  (.ite (.cmp (.bin .Mod (.call (.fn "_law_cell_at") [(.loc 0), (.lit (.int 8))]) (.lit (.int 2))) .Eq (.lit (.int 1))) [(.assign 16 (.call (.fn "_law_in_time") [(.bin .Add (.loc 7) (.bin .Mod (.bin .FloorDiv (.call (.fn "_law_cell_at") [(.loc 0), (.lit (.int 8))]) (.lit (.int 2))) (.lit (.int 12))))])), (.expr (.call (.fn "_law_busier") [(.loc 5), (.sub (.loc 13) (.neg (.lit (.int 1)))), (.lst [(.loc 15), (.loc 16)])])), (.assign 15 (.call (.fn "_law_asked") [(.loc 5), (.loc 13), (.loc 14)]))] []),
  (.ite (.cmp (.loc 15) .Eq (.neg (.lit (.int 1)))) [(.ret (.lit (.bool false)))] []),
  (.assign 17 (.or (.not (.loc 2)) (.call (.fn "_law_taken") [(.loc 5), (.loc 13), (.loc 15), (.loc 6), (.tup [(.loc 7), (.loc 10)])]))),
  (.ret (.and (.loc 17) (.call (.bi .all) [(.comp2 (.cmp (.call (.bi .repr) [(.loc 18)]) .Eq (.loc 19)) 18 .val (.sub (.loc 14) (.lit (.int 3))))])))] }
end Mine
namespace Mine
open PySem
noncomputable def mlen (leap : Bool) (m : Int) : Int := if m = 2 then (if leap then 29 else 28) else if m = 4 ∨ m = 6 ∨ m = 9 ∨ m = 11 then 30 else 31
theorem idxP_ints {l : List Int} {k : Int} (h1 : 0 ≤ k) (h2 : k < (l.length : Int)) (d : Int) : idxP (l.map V.int) k = some (.int (l.getD k.toNat d)) := by
  have h3 : k.toNat < l.length := by lia
  unfold idxP
  rw [if_pos h1, List.getElem?_map, List.getElem?_eq_getElem h3]
  simp [h3]
theorem idx_P {α : Type} {l : List α} {k : Int} (h : 0 ≤ k) : idx l k = idxP l k := by unfold idx idxP; rw [if_pos h, if_pos h]
theorem idx_ints {l : List Int} {k : Int} (h1 : 0 ≤ k) (h2 : k < (l.length : Int)) (d : Int) : idx (l.map V.int) k = some (.int (l.getD k.toNat d)) := (idx_P h1).trans (idxP_ints h1 h2 d)
theorem mlen_at : ∀ k : Fin 12, [31, 28, 31, 30, 31, 30, 31, 31, 30, 31, 30, 31].getD k.val 0 = mlen false (k.val + 1) := by decide
theorem months_at {m : Int} (h1 : 1 ≤ m) (h2 : m ≤ 12) : idxP [V.int 31, .int 28, .int 31, .int 30, .int 31, .int 30, .int 31, .int 31, .int 30, .int 31, .int 30, .int 31] (m - 1) = some (.int (mlen false m)) := by
  have h0 : 0 ≤ m - 1 := by lia
  have h3 : (m - 1).toNat < 12 := by lia
  have e := mlen_at ⟨(m - 1).toNat, h3⟩
  have e2 : (((m - 1).toNat : Nat) : Int) + 1 = m := by lia
  simp only [e2] at e
  exact (idxP_ints (l := [31, 28, 31, 30, 31, 30, 31, 31, 30, 31, 30, 31]) h0 (by show m - 1 < 12; lia) 0).trans (by rw [e])
noncomputable abbrev Ctr := List V → Hp → (V → Hp → Prop) → XL → Prop
noncomputable def C_month_length : Ctr := fun vs H Q _ => ∃ y m : Int, vs = [.int y, .int m] ∧ 1 ≤ m ∧ m ≤ 12 ∧ Q (.int (mlen (decide (y % 4 = 0)) m)) H
theorem w_month_length : ∀ vs H Q X, C_month_length vs H Q X → wpFn noΦ f_month_length vs H Q X := by
  rintro vs H Q X ⟨y, m, rfl, h1, h2, q⟩
  refine fn_of rfl ?_
  simp_arith only [f_month_length, initL, List.map_cons, List.map_nil, List.replicate, List.cons_append, List.nil_append, months_at h1 h2]
  refine ⟨fun h => ⟨fun h' => ?_, fun h' => ?_⟩, fun h => ?_⟩
  · simpa [mlen, h, h'] using q
  · simpa [mlen, h, h'] using q
  · simpa [mlen, h] using q
noncomputable def Φ1 : Orc := ext "month_length" C_month_length noΦ
noncomputable def monGo (leap : Bool) : Nat → Int → Int → Int × Int
  | 0, r, m => (r, m)
  | n + 1, r, m => if mlen leap m ≤ r then monGo leap n (r - mlen leap m) (m + 1) else (r, m)
noncomputable def yearAt (r : Int) : Int := if r < 366 then 0 else if r < 731 then 1 else if r < 1096 then 2 else 3
noncomputable def yearOff (p : Int) : Int := if p = 0 then 0 else if p = 1 then 366 else if p = 2 then 731 else 1096
noncomputable def dMon (r : Int) : Int × Int := monGo (decide (yearAt r = 0)) 11 (r - yearOff (yearAt r)) 1
noncomputable def dDay (d : Int) : Int := (dMon (d % 1461)).1 + 1
noncomputable def dMonth (d : Int) : Int := (dMon (d % 1461)).2
noncomputable def dYear (d : Int) : Int := d / 1461 * 4 + yearAt (d % 1461)
noncomputable def C_date_of : Ctr := fun vs H Q _ => ∃ d : Int, vs = [.int d] ∧ Q (.tup [.int (dYear d), .int (dMonth d), .int (dDay d)]) H
theorem P1_ml : Φ1 "month_length" = C_month_length := rfl
theorem leap_year (d : Int) : decide (dYear d % 4 = 0) = decide (yearAt (d % 1461) = 0) := by
  unfold dYear yearAt
  rw [Bool.eq_iff_iff]; simp only [decide_eq_true_eq]
  split
  · lia
  · split
    · lia
    · split <;> lia
theorem mon_loop {d p y : Int} {t4 t5 t6 : Option V} {leap : Bool} (hl : decide (y % 4 = 0) = leap) {Q : QS} {H : Hp} : ∀ (n : Nat) (r m : Int), 1 ≤ m → m + (n : Int) ≤ 12 → (monGo leap n r m).1 < mlen leap (monGo leap n r m).2 →
    Q .next [some (V.int d), some (.int (monGo leap n r m).1), some (.int p), some (.int y), some (.int (monGo leap n r m).2), t4, t5, t6] H →
    whileGo (whTX Φ1 ((IE.loc 1).cmp CmpOp.GtE (IE.call (V.fn "month_length") [IE.loc 3, IE.loc 4])) noX)
      (whBX Φ1 [IS.assign 1 (IE.bin Operator.Sub (IE.loc 1) (IE.call (V.fn "month_length") [IE.loc 3, IE.loc 4])), IS.assign 4 (IE.bin Operator.Add (IE.loc 4) (IE.lit (V.int 1)))] noXS)
      (n + 1) [some (V.int d), some (.int r), some (.int p), some (.int y), some (.int m), t4, t5, t6] H Q := by
  intro n
  induction n with
  | zero =>
    intro r m h1 h2 h3 q
    simp_arith only [↓whX_s, ↓P1_ml, C_month_length]
    refine ⟨y, m, rfl, h1, by lia, ?_⟩
    rw [hl]
    exact ⟨fun h => absurd h3 (by simp only [monGo]; lia), fun _ => q⟩
  | succ n ih =>
    intro r m h1 h2 h3 q
    rw [whX_s]
    simp_arith only [↓P1_ml, C_month_length]
    refine ⟨y, m, rfl, h1, by lia, ?_⟩
    rw [hl]
    refine ⟨fun h => ⟨y, m, rfl, h1, by lia, ?_⟩, fun h => ?_⟩
    · rw [hl]
      have e : monGo leap (n + 1) r m = monGo leap n (r - mlen leap m) (m + 1) := by simp only [monGo]; rw [if_pos h]
      rw [e] at h3 q
      exact ih _ _ (by lia) (by lia) h3 q
    · have e : monGo leap (n + 1) r m = (r, m) := by simp only [monGo]; rw [if_neg h]
      rw [e] at q
      exact q
noncomputable def imGo : Nat → Int → Int → Int → Int × Int × Int
  | 0, r, y, m => (r, y, m)
  | n + 1, r, y, m => if mlen (decide (y % 4 = 0)) m ≤ r then imGo n (r - mlen (decide (y % 4 = 0)) m) (y + m / 12) (m % 12 + 1) else (r, y, m)
noncomputable def fits (r : Int) : Bool := decide (0 ≤ (dMon r).1) && decide ((dMon r).1 < mlen (decide (yearAt r = 0)) (dMon r).2) && decide (1 ≤ (dMon r).2) && decide ((dMon r).2 ≤ 12) && decide (imGo 47 r 0 1 = ((dMon r).1, yearAt r, (dMon r).2))
theorem fits_all : ∀ r : Fin 1461, fits (r.val : Int) = true := by decide +kernel
theorem fits_at (d : Int) : fits (d % 1461) = true := by
  have h1 : 0 ≤ d % 1461 := Int.emod_nonneg _ (by decide)
  have h2 : d % 1461 < 1461 := Int.emod_lt_of_pos _ (by decide)
  have := fits_all ⟨(d % 1461).toNat, by lia⟩
  simp only at this
  rwa [Int.toNat_of_nonneg h1] at this
theorem dMon_at (d : Int) : 0 ≤ (dMon (d % 1461)).1 ∧ (dMon (d % 1461)).1 < mlen (decide (yearAt (d % 1461) = 0)) (dMon (d % 1461)).2 ∧ 1 ≤ (dMon (d % 1461)).2 ∧ (dMon (d % 1461)).2 ≤ 12 ∧ imGo 47 (d % 1461) 0 1 = ((dMon (d % 1461)).1, yearAt (d % 1461), (dMon (d % 1461)).2) := by
  have := fits_at d
  simp only [fits, Bool.and_eq_true, decide_eq_true_eq] at this
  obtain ⟨⟨⟨⟨a, b⟩, c⟩, e⟩, f⟩ := this
  exact ⟨a, b, c, e, f⟩
theorem date_tail {XF : XS} {d p : Int} {Q : V → Hp → Prop} {H : Hp} {X : XL} (hp : yearAt (d % 1461) = p) (q : Q (.tup [.int (dYear d), .int (dMonth d), .int (dDay d)]) H) :
    wpS Φ1 (IS.while ((IE.loc 1).cmp CmpOp.GtE (IE.call (V.fn "month_length") [IE.loc 3, IE.loc 4])) [IS.assign 1 (IE.bin Operator.Sub (IE.loc 1) (IE.call (V.fn "month_length") [IE.loc 3, IE.loc 4])), IS.assign 4 (IE.bin Operator.Add (IE.loc 4) (IE.lit (V.int 1)))])
      [some (V.int d), some (V.int (d % 1461 - yearOff p)), some (V.int p), some (V.int (d / 1461 * 4 + p)), some (V.int 1), none, none, none] H
      (sqX Φ1 [IS.ret (IE.tup [IE.loc 3, IE.loc 4, IE.bin Operator.Add (IE.loc 1) (IE.lit (V.int 1))])] (fun fl _ H1 => Q (retV fl) H1) fun x _ H1 => X x H1) XF := by
  rw [Z_while]
  subst hp
  have hl : decide ((d / 1461 * 4 + yearAt (d % 1461)) % 4 = 0) = decide (yearAt (d % 1461) = 0) := leap_year d
  refine ⟨12, mon_loop hl 11 _ 1 (by lia) (by lia) (dMon_at d).2.1 ?_⟩
  simp_arith only [X_lit]
  exact q
theorem w_date_of : ∀ vs H Q X, C_date_of vs H Q X → wpFn Φ1 f_date_of vs H Q X := by
  rintro vs H Q X ⟨d, rfl, q⟩
  refine fn_of rfl ?_
  simp_arith only [f_date_of, initL, List.map_cons, List.map_nil, List.replicate, List.cons_append, List.nil_append, ↓P1_ml]
  rw [Z_while]
  refine ⟨4, ?_⟩
  simp_arith only [↓whX_s]
  refine ⟨fun h => ⟨fun h' => ⟨fun h'' => ?_, fun h'' => ?_⟩, fun h' => ?_⟩, fun h => ?_⟩
  · exact date_tail (p := 3) (by unfold yearAt; rw [if_neg (by lia), if_neg (by lia), if_neg (by lia)]) q
  · exact date_tail (p := 2) (by unfold yearAt; rw [if_neg (by lia), if_neg (by lia), if_pos (by lia)]) q
  · exact date_tail (p := 1) (by unfold yearAt; rw [if_neg (by lia), if_pos (by lia)]) q
  · exact date_tail (p := 0) (by unfold yearAt; rw [if_pos (by lia)]) q
noncomputable def Φ2 : Orc := ext "date_of" C_date_of Φ1
theorem P2_ml : Φ2 "month_length" = C_month_length := rfl
theorem P2_do : Φ2 "date_of" = C_date_of := rfl
noncomputable def mLen (d : Int) : Int := mlen (decide (yearAt (d % 1461) = 0)) (dMonth d)
noncomputable def C_from_end : Ctr := fun vs H Q _ => ∃ d : Int, vs = [.int d] ∧ Q (.int (dDay d - mLen d - 1)) H
theorem w_from_end : ∀ vs H Q X, C_from_end vs H Q X → wpFn Φ2 f_from_end vs H Q X := by
  rintro vs H Q X ⟨d, rfl, q⟩
  refine fn_of rfl ?_
  simp_arith only [f_from_end, initL, List.map_cons, List.map_nil, List.replicate, List.cons_append, List.nil_append, ↓P2_ml, ↓P2_do, C_date_of, C_month_length]
  refine ⟨d, rfl, dYear d, dMonth d, rfl, (dMon_at d).2.2.1, (dMon_at d).2.2.2.1, ?_⟩
  rw [leap_year]
  exact q
noncomputable def Φ3 : Orc := ext "from_end" C_from_end Φ2
theorem isi_int_int {H : Hp} {x : Int} : isInstH H (.int x) .int = some true := rfl
theorem isi_int_bool {H : Hp} {x : Int} : isInstH H (.int x) .bool = some false := rfl
noncomputable def C_is_whole : Ctr := fun vs H Q _ => ∃ x : Int, vs = [.int x] ∧ Q (.bool true) H
theorem w_is_whole : ∀ vs H Q X, C_is_whole vs H Q X → wpFn Φ3 f_is_whole vs H Q X := by
  rintro vs H Q X ⟨x, rfl, q⟩
  refine fn_of rfl ?_
  simp_arith only [f_is_whole, initL, List.map_cons, List.map_nil, List.replicate, List.cons_append, List.nil_append, isi_int_int, isi_int_bool]
  exact q
noncomputable def Φ4 : Orc := ext "is_whole" C_is_whole Φ3
theorem P4_iw : Φ4 "is_whole" = C_is_whole := rfl
inductive IC_is_between (H : Hp) (Q : V → Hp → Prop) : List V → Prop where
  | mk (x : Int) (a : Int) (b : Int) : (Q (.bool (decide (a ≤ x) && decide (x ≤ b))) H) → IC_is_between H Q ([.int x, .int a, .int b])
noncomputable def C_is_between : Ctr := fun vs H Q _ => IC_is_between H Q vs
theorem w_is_between : ∀ vs H Q X, C_is_between vs H Q X → wpFn Φ4 f_is_between vs H Q X := by
  rintro vs H Q X ⟨x, a, b, q⟩
  refine fn_of rfl ?_
  simp_arith only [f_is_between, initL, List.map_cons, List.map_nil, List.replicate, List.cons_append, List.nil_append, ↓P4_iw]
  refine ⟨x, rfl, ?_⟩
  simp_arith only [X_lit]
  refine ⟨fun h => ?_, fun h => ?_⟩
  · rw [decide_eq_true h] at q; exact q
  · rw [decide_eq_false h] at q ⊢; exact q
noncomputable def Φ5 : Orc := ext "is_between" C_is_between Φ4
theorem P5_ib : Φ5 "is_between" = C_is_between := rfl
theorem cc_ib {x a b : Int} {H : Hp} {Q : V → Hp → Prop} {X : XL} : C_is_between [.int x, .int a, .int b] H Q X = Q (.bool (decide (a ≤ x) && decide (x ≤ b))) H := by
  refine propext ⟨fun h => ?_, fun h => ⟨x, a, b, h⟩⟩
  cases h with | mk _ _ _ h => exact h
theorem btw {a x b : Int} (h1 : a ≤ x) (h2 : x ≤ b) : (decide (a ≤ x) && decide (x ≤ b)) = true := by rw [decide_eq_true h1, decide_eq_true h2]; rfl
noncomputable def C_is_time : Ctr := fun vs H Q _ => ∃ x : Int, vs = [.int x] ∧ 0 ≤ x ∧ x < 1000000000000 ∧ Q (.bool true) H
theorem w_is_time : ∀ vs H Q X, C_is_time vs H Q X → wpFn Φ5 f_is_time vs H Q X := by
  rintro vs H Q X ⟨x, rfl, h1, h2, q⟩
  refine fn_of rfl ?_
  simp_arith only [f_is_time, initL, List.map_cons, List.map_nil, List.replicate, List.cons_append, List.nil_append, ↓P5_ib, ↓cc_ib]
  rw [btw h1 (by lia)]; exact q
noncomputable def Φ6 : Orc := ext "is_time" C_is_time Φ5
theorem P6_ib : Φ6 "is_between" = C_is_between := rfl
noncomputable def rise (most : Int) : Int → List Int → Prop
  | _, [] => True
  | a, d :: r => a < d ∧ d ≤ most ∧ rise most d r
noncomputable def intsV (ds : List Int) : V := .tup (ds.map .int)
theorem isi_tup {H : Hp} {l : List V} : isInstH H (.tup l) .tuple = some true := rfl
inductive IC_are_rising (H : Hp) (Q : V → Hp → Prop) : List V → Prop where
  | mk (ds : List Int) (many : Int) (most : Int) : (1 ≤ ds.length) → ((ds.length : Int) ≤ many) → (rise most (-1) ds) → (Q (.bool true) H) → IC_are_rising H Q ([intsV ds, .int many, .int most])
noncomputable def C_are_rising : Ctr := fun vs H Q _ => IC_are_rising H Q vs
theorem ri_loop {XF : XS} {v0 : V} {many most : Int} {t5 t6 t7 : Option V} {H : Hp} {Q : QS} : ∀ (ds : List Int) (a : Int) (t4 : Option V), rise most a ds →
    (∀ a' t', Q .next [some v0, some (.int many), some (.int most), some (.int a'), t', t5, t6, t7] H) →
    forGo (whBX Φ6 [(.ite (.not (.call (.fn "is_between") [(.loc 4), (.bin .Add (.loc 3) (.lit (.int 1))), (.loc 2)])) [(.ret (.lit (.bool false)))] []), (.assign 3 (.loc 4))] XF) (fun _ => True) 4 (ds.map V.int)
      [some v0, some (.int many), some (.int most), some (.int a), t4, t5, t6, t7] H Q := by
  intro ds
  induction ds with
  | nil => intro a t4 _ q; exact q _ _
  | cons d r ih =>
    intro a t4 hr q
    rw [List.map_cons, foX_cons]
    simp_arith only [↓P6_ib, ↓cc_ib]
    have h1 := hr.1
    rw [btw (by lia) hr.2.1]
    exact ih d _ hr.2.2 q
theorem w_are_rising : ∀ vs H Q X, C_are_rising vs H Q X → wpFn Φ6 f_are_rising vs H Q X := by
  rintro vs H Q X ⟨ds, many, most, h1, h2, hr, q⟩
  refine fn_of rfl ?_
  change wpSs Φ6 f_are_rising.body [some (.tup (ds.map .int)), some (.int many), some (.int most), none, none, none, none, none] H _ _
  refine zs_cons ?_
  generalize hK : sqX Φ6 (_ :: _) = K
  have e1 : (1 : Int) ≤ ((ds.map V.int).length : Int) := by rw [List.length_map]; lia
  have e2 : ((ds.map V.int).length : Int) ≤ many := by rw [List.length_map]; exact h2
  simp_arith only [isi_tup, decide_eq_true e2]
  refine ⟨fun _ => ?_, fun h => absurd e1 h⟩
  subst hK
  refine zs_cons ?_
  generalize hK : sqX Φ6 (_ :: _) = K
  simp_arith only [X_lit]
  subst hK
  refine zs_cons ?_
  generalize hK : sqX Φ6 (_ :: _) = K
  simp_arith only [X_lit]
  subst hK
  exact ri_loop ds (-1) _ hr fun a' t' => q
noncomputable def Φ7 : Orc := ext "are_rising" C_are_rising Φ6
end Mine
namespace Mine
open PySem
inductive Pl where
  | once (h s : Int)
  | every (h s p : Int)
  | week (ds : List Int) (t s : Int)
  | month (d t s : Int)
inductive Hd where
  | frm (h : Int)
  | til (h : Int)
  | als (h : Int)
  | but (ds : List Int)
inductive Rl where
  | pl (p : Pl)
  | hd (k : Hd) (p : Pl)
noncomputable def pv : Pl → V
  | .once h s => .tup [.str "once", .int h, .int s]
  | .every h s p => .tup [.str "every", .int h, .int s, .int p]
  | .week ds t s => .tup [.str "week", intsV ds, .int t, .int s]
  | .month d t s => .tup [.str "month", .int d, .int t, .int s]
noncomputable def Hd.w : Hd → Str
  | .frm _ => "from"
  | .til _ => "until"
  | .als _ => "also"
  | .but _ => "but"
noncomputable def Hd.v : Hd → V
  | .frm h => .int h
  | .til h => .int h
  | .als h => .int h
  | .but ds => intsV ds
noncomputable def rv : Rl → V
  | .pl p => pv p
  | .hd k p => .tup [.str k.w, k.v, pv p]
noncomputable def Rl.inner : Rl → Pl
  | .pl p => p
  | .hd _ p => p
noncomputable def Pl.size : Pl → Int
  | .once _ s => s
  | .every _ s _ => s
  | .week _ _ s => s
  | .month _ _ s => s
noncomputable def Rl.size (r : Rl) : Int := r.inner.size
noncomputable def hourOk (h : Int) : Prop := 0 ≤ h ∧ h < 1000000000000
noncomputable def sizeOk1 (s : Int) : Prop := 1 ≤ s ∧ s ≤ 48
noncomputable def Pl.fine : Pl → Prop
  | .once h s => hourOk h ∧ sizeOk1 s
  | .every h s p => hourOk h ∧ sizeOk1 s ∧ 1 ≤ p ∧ p ≤ 1000000
  | .week ds t s => (0 ≤ t ∧ t ≤ 23) ∧ sizeOk1 s ∧ 1 ≤ ds.length ∧ ds.length ≤ 7 ∧ rise 6 (-1) ds
  | .month d t s => (0 ≤ t ∧ t ≤ 23) ∧ sizeOk1 s ∧ -31 ≤ d ∧ d ≤ 31 ∧ d ≠ 0
noncomputable def Hd.fine : Hd → Prop
  | .frm h => hourOk h
  | .til h => hourOk h
  | .als h => hourOk h
  | .but ds => 1 ≤ ds.length ∧ ds.length ≤ 20 ∧ rise 99999999999 (-1) ds
noncomputable def Rl.fine : Rl → Prop
  | .pl p => p.fine
  | .hd k p => k.fine ∧ p.fine
theorem Rl.fine.inner {r : Rl} (h : r.fine) : r.inner.fine := by
  cases r with
  | pl p => exact h
  | hd k p => exact h.2
theorem Pl.fine.size {p : Pl} (h : p.fine) : sizeOk1 p.size := by
  cases p with
  | once h s => exact h.2
  | every h s p => exact h.2.1
  | week ds t s => exact h.2.1
  | month d t s => exact h.2.1
theorem eqv_int (a b : Int) : PyData.eqv (.int a) (.int b) = decide (a = b) := rfl
theorem toPys_ints : ∀ ds : List Int, toPys (ds.map V.int) = some (ds.map PyData.int)
  | [] => rfl
  | d :: r => by
    show ((toPys (r.map V.int)).map _) = _
    rw [toPys_ints r]; rfl
theorem any_ints (x : Int) : ∀ ds : List Int, ((ds.map PyData.int).any fun e => PyData.eqv e (.int x)) = ds.contains x
  | [] => rfl
  | d :: r => by
    rw [List.map_cons, List.any_cons, any_ints x r, eqv_int, List.contains_cons]
    congr 1
    rw [Bool.eq_iff_iff, decide_eq_true_eq, beq_iff_eq]; exact eq_comm
theorem mem_ints {x : Int} {ds : List Int} : memV (.int x) (ds.map V.int) = some (ds.contains x) := by
  unfold memV
  rw [toPys_ints]
  show (if (PyData.int x).depth ≤ 60 then some ((ds.map PyData.int).any fun e => PyData.eqv e (.int x)) else none) = _
  rw [if_pos (Nat.le_of_ble_eq_true rfl), any_ints]
noncomputable abbrev outs : List V := [.str "from", .str "until", .str "also", .str "but"]
theorem mo_frm : memV (.str "from") outs = some true := by decide
theorem mo_til : memV (.str "until") outs = some true := by decide
theorem mo_als : memV (.str "also") outs = some true := by decide
theorem mo_but : memV (.str "but") outs = some true := by decide
theorem mo_hd (k : Hd) : memV (.str k.w) outs = some true := by
  cases k with
  | frm h => exact mo_frm
  | til h => exact mo_til
  | als h => exact mo_als
  | but ds => exact mo_but
theorem n2 : ((2 : Nat) : Int) = 2 := rfl
theorem n3 : ((3 : Nat) : Int) = 3 := rfl
theorem n4 : ((4 : Nat) : Int) = 4 := rfl
theorem mo_once : memV (.str "once") outs = some false := by decide
theorem mo_every : memV (.str "every") outs = some false := by decide
theorem mo_week : memV (.str "week") outs = some false := by decide
theorem mo_month : memV (.str "month") outs = some false := by decide
noncomputable def Pl.w : Pl → Str
  | .once _ _ => "once"
  | .every _ _ _ => "every"
  | .week _ _ _ => "week"
  | .month _ _ _ => "month"
theorem mo_pl (p : Pl) : memV (.str p.w) outs = some false := by
  cases p with
  | once h s => exact mo_once
  | every h s p => exact mo_every
  | week ds t s => exact mo_week
  | month d t s => exact mo_month
theorem pv_w (p : Pl) : ∃ r, pv p = .tup (.str p.w :: r) := by cases p <;> exact ⟨_, rfl⟩
section
variable {Φ : Orc} {u w : Str} {rest : List V} {Lr : Lc} {H : Hp} {c : IE} {a : List IS} {QF : QS} {XF : XS} {P : Bool → Hp → Prop} {X : XL} {l : List V} {b : Bool}
theorem t_in (hm : memV (.str u) l = some b) (h : P b H) : (wp2 Φ (.cmp (.sub (.loc 0) (.lit (.int 0))) .In (.lit (.tup l)))).T (some (.tup (.str u :: rest)) :: Lr) H P X := by
  show oK (memV (.str u) l) _
  rw [hm]; exact h
theorem t_inP {p : Pl} (h : P false H) : (wp2 Φ (.cmp (.sub (.loc 0) (.lit (.int 0))) .In (.lit (.tup outs)))).T (some (pv p) :: Lr) H P X := by
  obtain ⟨r, e⟩ := pv_w p
  rw [e]; exact t_in (mo_pl p) h
theorem iw_ne (he : (u == w) = false) (h : QF .next (some (.tup (.str u :: rest)) :: Lr) H) : wpS Φ (.ite (.cmp (.sub (.loc 0) (.lit (.int 0))) .Eq (.lit (.str w))) a []) (some (.tup (.str u :: rest)) :: Lr) H QF XF := by
  show ifP (u == w) _ _
  rw [he]; exact h
theorem iw_eq (he : (u == w) = true) (h : wpSs Φ a (some (.tup (.str u :: rest)) :: Lr) H QF XF) : wpS Φ (.ite (.cmp (.sub (.loc 0) (.lit (.int 0))) .Eq (.lit (.str w))) a []) (some (.tup (.str u :: rest)) :: Lr) H QF XF := by
  show ifP (u == w) _ _
  rw [he]; exact h
theorem iwa_ne (he : (u == w) = false) (h : QF .next (some (.tup (.str u :: rest)) :: Lr) H) : wpS Φ (.ite (.and (.cmp (.sub (.loc 0) (.lit (.int 0))) .Eq (.lit (.str w))) c) a []) (some (.tup (.str u :: rest)) :: Lr) H QF XF := by
  show ifP (u == w) _ _
  rw [he]; exact h
theorem iwa_eq (he : (u == w) = true) (h : (wp2 Φ c).T (some (.tup (.str u :: rest)) :: Lr) H (fun c H1 => ifP c (wpSs Φ a (some (.tup (.str u :: rest)) :: Lr) H1 QF XF) (QF .next (some (.tup (.str u :: rest)) :: Lr) H1)) (fun x => XF x (some (.tup (.str u :: rest)) :: Lr))) :
    wpS Φ (.ite (.and (.cmp (.sub (.loc 0) (.lit (.int 0))) .Eq (.lit (.str w))) c) a []) (some (.tup (.str u :: rest)) :: Lr) H QF XF := by
  show ifP (u == w) _ _
  rw [he]; exact h
end
theorem P7_ib : Φ7 "is_between" = C_is_between := rfl
theorem P7_it : Φ7 "is_time" = C_is_time := rfl
theorem P7_ar : Φ7 "are_rising" = C_are_rising := rfl
theorem cc_it {x : Int} (h : hourOk x) {H : Hp} {Q : V → Hp → Prop} {X : XL} (q : Q (.bool true) H) : C_is_time [.int x] H Q X := ⟨x, rfl, h.1, h.2, q⟩
noncomputable def C_is_plain : Ctr := fun vs H Q _ => ∃ p : Pl, vs = [pv p] ∧ p.fine ∧ Q (.bool true) H
section
variable {Φ : Orc} {u w : Str} {v0 : Option V} {Lr : Lc} {H : Hp} {a : List IS} {QF : QS} {XF : XS} {l : List V} {n : Int}
theorem w1_ne (he : (u == w) = false) (h : QF .next (v0 :: some (.str u) :: Lr) H) : wpS Φ (.ite (.cmp (.loc 1) .Eq (.lit (.str w))) a []) (v0 :: some (.str u) :: Lr) H QF XF := by
  show ifP (u == w) _ _
  rw [he]; exact h
theorem w1_eq (he : (u == w) = true) (h : wpSs Φ a (v0 :: some (.str u) :: Lr) H QF XF) : wpS Φ (.ite (.cmp (.loc 1) .Eq (.lit (.str w))) a []) (v0 :: some (.str u) :: Lr) H QF XF := by
  show ifP (u == w) _ _
  rw [he]; exact h
theorem len_ne (he : (l.length : Int) = n) (h : QF .next (some (.tup l) :: Lr) H) : wpS Φ (.ite (.cmp (.call (.bi .len) [(.loc 0)]) .NotEq (.lit (.int n))) a []) (some (.tup l) :: Lr) H QF XF := by
  show ifP (!decide ((l.length : Int) = n)) _ _
  rw [decide_eq_true he]; exact h
end
theorem pl_two {x y : Int} {l : List V} {Lr : Lc} {H : Hp} {QF : QS} {XF : XS} {a : List IS} (h2 : idxP l 2 = some (.int x)) (h3 : idxP l 3 = some (.int y)) (hx : 0 ≤ x ∧ x ≤ 23) (hy : sizeOk1 y) (h : QF .next (some (.tup l) :: Lr) H) :
    wpS Φ7 (.ite (.or (.not (.call (.fn "is_between") [(.sub (.loc 0) (.lit (.int 2))), (.lit (.int 0)), (.lit (.int 23))])) (.not (.call (.fn "is_between") [(.sub (.loc 0) (.lit (.int 3))), (.lit (.int 1)), (.lit (.int 48))]))) a []) (some (.tup l) :: Lr) H QF XF := by
  rw [iP_2] at h2
  rw [iP_3] at h3
  simp_arith only [h2, h3, ↓P7_ib, ↓cc_ib, btw hx.1 hx.2, btw hy.1 hy.2]
  exact h
theorem w_is_plain : ∀ vs H Q X, C_is_plain vs H Q X → wpFn Φ7 f_is_plain vs H Q X := by
  rintro vs H Q X ⟨p, rfl, hf, q⟩
  refine fn_of rfl ?_
  cases p with
  | once h s =>
    change wpSs Φ7 (f_is_plain.body.drop 1) [some (.tup [.str "once", .int h, .int s]), some (.str "once"), none, none, none] H _ _
    refine zs_cons (w1_eq sw_once_once ?_)
    generalize hK : sqX Φ7 (_ :: _) = K
    simp_arith only [n3, ↓P7_ib, ↓P7_it, ↓cc_ib]
    refine cc_it hf.1 ?_
    simp_arith only [btw hf.2.1 hf.2.2]
    subst hK
    exact q
  | every h s p =>
    change wpSs Φ7 (f_is_plain.body.drop 1) [some (.tup [.str "every", .int h, .int s, .int p]), some (.str "every"), none, none, none] H _ _
    refine zs_cons (w1_ne sw_every_once (zs_cons (len_ne rfl (zs_cons (w1_eq sw_every_every ?_)))))
    generalize hK : sqX Φ7 (_ :: _) = K
    simp_arith only [↓P7_ib, ↓P7_it, ↓cc_ib]
    refine cc_it hf.1 ?_
    simp_arith only [btw hf.2.1.1 hf.2.1.2, btw hf.2.2.1 hf.2.2.2]
    subst hK
    exact q
  | week ds t s =>
    change wpSs Φ7 (f_is_plain.body.drop 1) [some (.tup [.str "week", intsV ds, .int t, .int s]), some (.str "week"), none, none, none] H _ _
    refine zs_cons (w1_ne sw_week_once (zs_cons (len_ne rfl (zs_cons (w1_ne sw_week_every (zs_cons (pl_two rfl rfl hf.1 hf.2.1 (zs_cons (w1_eq sw_week_week ?_)))))))))
    generalize hK : sqX Φ7 (_ :: _) = K
    simp_arith only [↓P7_ar]
    subst hK
    exact ⟨ds, 7, 6, hf.2.2.1, by have := hf.2.2.2.1; lia, hf.2.2.2.2, q⟩
  | month d t s =>
    change wpSs Φ7 (f_is_plain.body.drop 1) [some (.tup [.str "month", .int d, .int t, .int s]), some (.str "month"), none, none, none] H _ _
    refine zs_cons (w1_ne sw_month_once (zs_cons (len_ne rfl (zs_cons (w1_ne sw_month_every (zs_cons (pl_two rfl rfl hf.1 hf.2.1 (zs_cons (w1_ne sw_month_week ?_)))))))))
    simp_arith only [sw_month_month, ↓P7_ib, ↓cc_ib, btw hf.2.2.1 hf.2.2.2.1]
    have hd := decide_eq_true hf.2.2.2.2
    rw [hd]; exact q
noncomputable def Φ8 : Orc := ext "is_plain" C_is_plain Φ7
theorem P8_ip : Φ8 "is_plain" = C_is_plain := rfl
theorem P8_it : Φ8 "is_time" = C_is_time := rfl
theorem P8_ar : Φ8 "are_rising" = C_are_rising := rfl
theorem isi_str {H : Hp} {x : Str} : isInstH H (.str x) .str = some true := rfl
noncomputable abbrev ruB : List IS := bdy (f_is_rule.body.getD 0 .fail)
section
variable {u : Str} {rest : List V} {x y : V} {Lr : Lc} {H : Hp} {QF : QS} {XF : XS} {a : List IS}
theorem ru_a (h : QF .next (some (.tup (.str u :: rest)) :: Lr) H) : wpS Φ8 (.ite (.or (.not (.call (.bi .isinstance) [(.loc 0), (.lit (.ty .tuple))])) (.or (.cmp (.call (.bi .len) [(.loc 0)]) .Eq (.lit (.int 0))) (.not (.call (.bi .isinstance) [(.sub (.loc 0) (.lit (.int 0))), (.lit (.ty .str))])))) a []) (some (.tup (.str u :: rest)) :: Lr) H QF XF := by
  simp_arith only [isi_tup, isi_str]
  exact ⟨fun h => absurd h (by lia), fun _ => h⟩
theorem ru_b (hm : memV (.str u) outs = some true) (h : QF .next (some (.tup (.str u :: rest)) :: Lr) H) : wpS Φ8 (.ite (.cmp (.sub (.loc 0) (.lit (.int 0))) .NotIn (.lit (.tup outs))) a []) (some (.tup (.str u :: rest)) :: Lr) H QF XF := by
  simp_arith only [hm]
  exact h
theorem ru_d (he : (u == Str.ofString "but") = true) (h : QF .next (some (.tup [.str u, x, y]) :: Lr) H) : wpS Φ8 (.ite (.and (.cmp (.sub (.loc 0) (.lit (.int 0))) .NotEq (.lit (.str "but"))) (.not (.call (.fn "is_time") [(.sub (.loc 0) (.lit (.int 1)))]))) a []) (some (.tup [.str u, x, y]) :: Lr) H QF XF := by
  show ifP (!(u == Str.ofString "but")) _ _
  rw [he]; exact h
theorem ru_t {k : Int} (he : (u == Str.ofString "but") = false) (hk : hourOk k) (h : QF .next (some (.tup [.str u, .int k, y]) :: Lr) H) : wpS Φ8 (.ite (.and (.cmp (.sub (.loc 0) (.lit (.int 0))) .NotEq (.lit (.str "but"))) (.not (.call (.fn "is_time") [(.sub (.loc 0) (.lit (.int 1)))]))) a []) (some (.tup [.str u, .int k, y]) :: Lr) H QF XF := by
  show ifP (!(u == Str.ofString "but")) _ _
  rw [he]
  simp_arith only [↓P8_it]
  refine cc_it hk ?_
  simp_arith only [X_lit]
  exact h
end
theorem ru_pl {p : Pl} {XF : XS} {QF : QS} {Lr : Lc} {H : Hp} (hf : p.fine) (q : ∀ L, QF (.ret (.bool true)) L H) : wpSs Φ8 ruB (some (pv p) :: Lr) H QF XF := by
  have h1 : C_is_plain [pv p] H (fun v H1 => QF (.ret v) (some (pv p) :: Lr) H1) (fun x => XF x (some (pv p) :: Lr)) := ⟨p, rfl, hf, q _⟩
  have hw := mo_pl p
  obtain ⟨r, e⟩ := pv_w p
  rw [e] at h1 ⊢
  refine zs_cons (ru_a (zs_cons ?_))
  generalize hK : sqX Φ8 (_ :: _) = K
  simp_arith only [hw, ↓P8_ip]
  subst hK
  exact h1
noncomputable def C_is_rule : Ctr := fun vs H Q _ => ∃ r : Rl, vs = [rv r] ∧ r.fine ∧ Q (.bool true) H
theorem range8 : rangeL 0 8 = V.int 0 :: V.int 1 :: [2, 3, 4, 5, 6, 7].map V.int := rfl
theorem w_is_rule : ∀ vs H Q X, C_is_rule vs H Q X → wpFn Φ8 f_is_rule vs H Q X := by
  rintro vs H Q X ⟨r, rfl, hf, q⟩
  refine fn_of rfl ?_
  change wpSs Φ8 f_is_rule.body [some (rv r), none, none, none, none] H _ _
  refine zs_cons ?_
  rw [Z_for, X_lit, u_range, range8]
  refine ⟨⟨by decide, by decide⟩, ?_⟩
  rw [foX_cons]
  cases r with
  | pl p => exact ru_pl hf fun _ => q
  | hd k p =>
    have next : ∀ (QF : QS), (∀ L, QF (.ret (.bool true)) L H) → forGo (whBX Φ8 ruB fun x _ H1 => X x H1) (fun _ => True) 1 (V.int 1 :: [2, 3, 4, 5, 6, 7].map V.int) [some (pv p), some (.int 0), none, none, none] H QF := fun QF q => by
      rw [foX_cons]; exact ru_pl hf.2 q
    cases k with
    | frm h => exact zs_cons (ru_a (zs_cons (ru_b mo_frm (zs_cons (len_ne rfl (zs_cons (iwa_ne sw_from_but (zs_cons (ru_t sw_from_but hf.1 ⟨trivial, next _ fun _ => q⟩)))))))))
    | til h => exact zs_cons (ru_a (zs_cons (ru_b mo_til (zs_cons (len_ne rfl (zs_cons (iwa_ne sw_until_but (zs_cons (ru_t sw_until_but hf.1 ⟨trivial, next _ fun _ => q⟩)))))))))
    | als h => exact zs_cons (ru_a (zs_cons (ru_b mo_als (zs_cons (len_ne rfl (zs_cons (iwa_ne sw_also_but (zs_cons (ru_t sw_also_but hf.1 ⟨trivial, next _ fun _ => q⟩)))))))))
    | but ds =>
      refine zs_cons (ru_a (zs_cons (ru_b mo_but (zs_cons (len_ne rfl (zs_cons (iwa_eq sw_but_but ?_)))))))
      generalize hK : sqX Φ8 (_ :: _) = K
      simp_arith only [↓P8_ar]
      refine ⟨ds, 20, 99999999999, hf.1.1, by have := hf.1.2.1; lia, hf.1.2.2, ?_⟩
      simp_arith only [X_lit]
      subst hK
      exact zs_cons (ru_d sw_but_but ⟨trivial, next _ fun _ => q⟩)
noncomputable def Φ9 : Orc := ext "is_rule" C_is_rule Φ8
end Mine
namespace Mine
open PySem
noncomputable def C_innermost : Ctr := fun vs H Q _ => ∃ r : Rl, vs = [rv r] ∧ Q (pv r.inner) H
theorem inn_tail {p : Pl} {H : Hp} {Q : V → Hp → Prop} {X : XL} (q : Q (pv p) H) : whileGo (whTX Φ9 (.cmp (.sub (.loc 0) (.lit (.int 0))) .In (.lit (.tup outs))) noX) (whBX Φ9 [(.assign 0 (.sub (.loc 0) (.lit (.int 2))))] noXS) 1 [some (pv p), none, none, none] H
    (sqX Φ9 [.ret (.loc 0)] (fun fl _ H1 => Q (retV fl) H1) fun x _ H1 => X x H1) := by
  rw [whX_s]
  exact t_inP q
theorem w_innermost : ∀ vs H Q X, C_innermost vs H Q X → wpFn Φ9 f_innermost vs H Q X := by
  rintro vs H Q X ⟨r, rfl, q⟩
  refine fn_of rfl ?_
  change wpSs Φ9 f_innermost.body [some (rv r), none, none, none] H _ _
  refine zs_cons ?_
  rw [Z_while]
  refine ⟨2, ?_⟩
  rw [whX_s]
  cases r with
  | pl p => exact t_inP q
  | hd k p =>
    exact t_in (mo_hd k) (inn_tail q)
noncomputable def Φa : Orc := ext "innermost" C_innermost Φ9
theorem Pa_im : Φa "innermost" = C_innermost := rfl
noncomputable def C_length_of : Ctr := fun vs H Q _ => ∃ r : Rl, vs = [rv r] ∧ Q (.int r.size) H
theorem w_length_of : ∀ vs H Q X, C_length_of vs H Q X → wpFn Φa f_length_of vs H Q X := by
  rintro vs H Q X ⟨r, rfl, q⟩
  refine fn_of rfl ?_
  change wpSs Φa f_length_of.body [some (rv r), none, none, none, none] H _ _
  refine zs_cons ?_
  generalize hK : sqX Φa (_ :: _) = K
  simp_arith only [↓Pa_im]
  refine ⟨r, rfl, ?_⟩
  unfold Rl.size at q
  subst hK
  revert q
  cases r.inner with
  | once h s => intro q; simp_arith! only [pv]; exact q
  | every h s p => intro q; simp_arith! only [pv]; exact q
  | week ds t s => intro q; simp_arith! only [pv]; exact q
  | month d t s => intro q; simp_arith! only [pv]; exact q
noncomputable def Φb : Orc := ext "length_of" C_length_of Φa
theorem Pb_fe : Φb "from_end" = C_from_end := rfl
theorem Pb_do : Φb "date_of" = C_date_of := rfl
noncomputable def bp : Pl → Int → Bool
  | .once h _, x => decide (x = h)
  | .every h _ p, x => decide (h ≤ x) && decide ((x - h) % p = 0)
  | .week ds t _, x => decide (x % 24 = t) && ds.contains (x / 24 % 7)
  | .month d t _, x => decide (x % 24 = t) && (if d < 0 then decide (dDay (x / 24) - mLen (x / 24) - 1 = d) else decide (dDay (x / 24) = d))
noncomputable def C_begins_plain : Ctr := fun vs H Q _ => ∃ (r : Pl) (x : Int), vs = [pv r, .int x] ∧ r.fine ∧ Q (.bool (bp r x)) H
theorem w_begins_plain : ∀ vs H Q X, C_begins_plain vs H Q X → wpFn Φb f_begins_plain vs H Q X := by
  rintro vs H Q X ⟨r, x, rfl, hok, q⟩
  refine fn_of rfl ?_
  cases r with
  | once h s =>
    change wpSs Φb f_begins_plain.body [some (V.tup [.str "once", .int h, .int s]), some (.int x), none, none, none, none] H _ _
    refine zs_cons (iw_eq sw_once_once ?_)
    exact q
  | every h s p =>
    change wpSs Φb f_begins_plain.body [some (V.tup [.str "every", .int h, .int s, .int p]), some (.int x), none, none, none, none] H _ _
    refine zs_cons (iw_ne sw_every_once (zs_cons (iw_eq sw_every_every ?_)))
    generalize hK : sqX Φb (_ :: _) = K
    simp_arith only [← hK]
    have h1 := hok.2.2.1
    have h2 := hok.2.2.2
    refine ⟨fun hx => ⟨⟨by lia, by lia⟩, ?_⟩, fun hx => ?_⟩
    · have e : bp (.every h s p) x = decide ((x - h) % p = 0) := by show (decide (h ≤ x) && _) = _; rw [decide_eq_true hx]; rfl
      rw [e] at q; exact q
    · have e : bp (.every h s p) x = false := by show (decide (h ≤ x) && _) = _; rw [decide_eq_false hx]; rfl
      rw [e] at q; rw [decide_eq_false hx]; exact q
  | week ds t s =>
    change wpSs Φb f_begins_plain.body [some (V.tup [.str "week", intsV ds, .int t, .int s]), some (.int x), none, none, none, none] H _ _
    refine zs_cons (iw_ne sw_week_once (zs_cons (iw_ne sw_week_every ?_)))
    simp_arith! only [intsV, mem_ints]
    refine ⟨fun hx => ?_, fun hx => ?_⟩
    · have e : bp (.week ds t s) x = false := by show (decide (x % 24 = t) && _) = _; rw [decide_eq_false hx]; rfl
      rw [e] at q; exact q
    · have e : bp (.week ds t s) x = ds.contains (x / 24 % 7) := by show (decide (x % 24 = t) && _) = _; rw [decide_eq_true (Classical.not_not.mp hx)]; rfl
      rw [e] at q; exact q
  | month d t s =>
    change wpSs Φb f_begins_plain.body [some (V.tup [.str "month", .int d, .int t, .int s]), some (.int x), none, none, none, none] H _ _
    refine zs_cons (iw_ne sw_month_once (zs_cons (iw_ne sw_month_every ?_)))
    simp_arith! only [↓Pb_fe, ↓Pb_do, C_from_end, C_date_of]
    refine ⟨fun hx => ?_, fun hx => ?_⟩
    · have e : bp (.month d t s) x = false := by show (decide (x % 24 = t) && _) = _; rw [decide_eq_false hx]; rfl
      rw [e] at q; exact q
    · have e : bp (.month d t s) x = if d < 0 then decide (dDay (x / 24) - mLen (x / 24) - 1 = d) else decide (dDay (x / 24) = d) := by show (decide (x % 24 = t) && _) = _; rw [decide_eq_true (Classical.not_not.mp hx)]; rfl
      rw [e] at q
      refine ⟨fun hd => ⟨_, rfl, ?_⟩, fun hd => ⟨_, rfl, ?_⟩⟩
      · rw [if_pos hd] at q; exact q
      · rw [if_neg hd] at q; exact q
noncomputable def Φc : Orc := ext "begins_plain" C_begins_plain Φb
theorem Pc_bp : Φc "begins_plain" = C_begins_plain := rfl
noncomputable def hdB (k : Hd) (x : Int) (b : Bool) : Bool := match k with
  | .frm h => b && decide (h ≤ x)
  | .til h => b && decide (x < h)
  | .als h => b || decide (x = h)
  | .but ds => b && !ds.contains (x / 24)
noncomputable def bgo : Rl → Int → Bool
  | .pl p, x => bp p x
  | .hd k p, x => hdB k x (bp p x)
noncomputable def bg (r : Rl) (x : Int) : Bool := if x < 0 then false else bgo r x
noncomputable def C_begins : Ctr := fun vs H Q _ => ∃ (r : Rl) (x : Int), vs = [rv r, .int x] ∧ r.fine ∧ Q (.bool (bg r x)) H
noncomputable abbrev beT : IE := .cmp (.sub (.loc 0) (.lit (.int 0))) .In (.lit (.tup outs))
noncomputable abbrev beB : List IS := bdy (f_begins.body.getD 1 .fail)
theorem be_tail {p : Pl} {x : Int} {v1 : Option V} {H : Hp} {Q : V → Hp → Prop} {X : XL} (hf : p.fine) (q : Q (.bool (bp p x)) H) :
    whileGo (whTX Φc beT noX) (whBX Φc beB noXS) 1 [some (pv p), some (.int x), v1, none, none] H (sqX Φc [.ret (.call (.fn "begins_plain") [.loc 0, .loc 1])] (fun fl _ H1 => Q (retV fl) H1) fun x _ H1 => X x H1) := by
  rw [whX_s]
  refine t_inP ?_
  simp_arith only [↓Pc_bp]
  exact ⟨p, x, rfl, hf, q⟩
theorem w_begins : ∀ vs H Q X, C_begins vs H Q X → wpFn Φc f_begins vs H Q X := by
  rintro vs H Q X ⟨r, x, rfl, hf, q⟩
  refine fn_of rfl ?_
  change wpSs Φc f_begins.body [some (rv r), some (.int x), none, none, none] H _ _
  refine zs_cons ?_
  generalize hK : sqX Φc (_ :: _) = K
  simp_arith only [X_lit]
  unfold bg at q
  refine ⟨fun hx => ?_, fun hx => ?_⟩
  · rw [if_pos hx] at q; subst hK; exact q
  rw [if_neg hx] at q
  subst hK
  refine zs_cons ?_
  rw [Z_while]
  refine ⟨2, ?_⟩
  cases r with
  | pl p =>
    rw [whX_s]
    refine t_inP ?_
    simp_arith only [↓Pc_bp]
    exact ⟨p, x, rfl, hf, q⟩
  | hd k p =>
    rw [whX_s]
    refine t_in (mo_hd k) ?_
    have q : Q (.bool (hdB k x (bp p x))) H := q
    cases k with
    | frm h =>
      refine zs_cons (iwa_eq sw_from_from ?_)
      show ifP (decide (x < h)) _ _
      refine iX_p (fun hx => ?_) (fun hx => zs_cons (iwa_ne sw_from_until (zs_cons (iwa_ne sw_from_also (zs_cons (iwa_ne sw_from_but ?_))))))
      · rw [show hdB (.frm h) x (bp p x) = false by show (_ && decide (h ≤ x)) = _; rw [decide_eq_false (by lia), Bool.and_false]] at q; exact q
      · rw [show hdB (.frm h) x (bp p x) = bp p x by show (_ && decide (h ≤ x)) = _; rw [decide_eq_true (by lia), Bool.and_true]] at q; exact be_tail hf.2 q
    | til h =>
      refine zs_cons (iwa_ne sw_until_from (zs_cons (iwa_eq sw_until_until ?_)))
      show ifP (decide (h ≤ x)) _ _
      refine iX_p (fun hx => ?_) (fun hx => zs_cons (iwa_ne sw_until_also (zs_cons (iwa_ne sw_until_but ?_))))
      · rw [show hdB (.til h) x (bp p x) = false by show (_ && decide (x < h)) = _; rw [decide_eq_false (by lia), Bool.and_false]] at q; exact q
      · rw [show hdB (.til h) x (bp p x) = bp p x by show (_ && decide (x < h)) = _; rw [decide_eq_true (by lia), Bool.and_true]] at q; exact be_tail hf.2 q
    | als h =>
      refine zs_cons (iwa_ne sw_also_from (zs_cons (iwa_ne sw_also_until (zs_cons (iwa_eq sw_also_also ?_)))))
      show ifP (decide (x = h)) _ _
      refine iX_p (fun hx => ?_) (fun hx => zs_cons (iwa_ne sw_also_but ?_))
      · rw [show hdB (.als h) x (bp p x) = true by show (_ || decide (x = h)) = _; rw [decide_eq_true hx, Bool.or_true]] at q; exact q
      · rw [show hdB (.als h) x (bp p x) = bp p x by show (_ || decide (x = h)) = _; rw [decide_eq_false hx, Bool.or_false]] at q; exact be_tail hf.2 q
    | but ds =>
      refine zs_cons (iwa_ne sw_but_from (zs_cons (iwa_ne sw_but_until (zs_cons (iwa_ne sw_but_also (zs_cons (iwa_eq sw_but_but ?_)))))))
      refine ⟨⟨by decide, by decide⟩, ?_⟩
      show oK (memV (.int (x / 24)) (ds.map V.int)) _
      rw [mem_ints]
      refine iX_b (fun hx => ?_) (fun hx => ?_)
      · rw [show hdB (.but ds) x (bp p x) = false by show (_ && !ds.contains (x / 24)) = _; rw [hx]; exact Bool.and_false _] at q; exact q
      · rw [show hdB (.but ds) x (bp p x) = bp p x by show (_ && !ds.contains (x / 24)) = _; rw [hx]; exact Bool.and_true _] at q; exact be_tail hf.2 q
noncomputable def Φd : Orc := ext "begins" C_begins Φc
theorem Pd_be : Φd "begins" = C_begins := rfl
theorem Pd_lo : Φd "length_of" = C_length_of := rfl
noncomputable def rangeJ (a b : Int) : List Int := (List.range (b - a).toNat).map fun (k : Nat) => a + (k : Int)
theorem rangeL_J (a b : Int) : rangeL a b = (rangeJ a b).map V.int := by
  unfold rangeL rangeJ; rw [List.map_map]; rfl
theorem mem_rangeJ {a b k : Int} : k ∈ rangeJ a b ↔ a ≤ k ∧ k < b := by
  unfold rangeJ
  rw [List.mem_map]
  constructor
  · rintro ⟨n, hn, rfl⟩
    have := List.mem_range.mp hn
    lia
  · intro h
    exact ⟨(k - a).toNat, List.mem_range.mpr (by lia), by lia⟩
theorem rangeJ_len (a b : Int) : (rangeJ a b).length = (b - a).toNat := by unfold rangeJ; rw [List.length_map, List.length_range]
noncomputable def cov (r : Rl) (x : Int) : Bool := (rangeJ 0 r.size).any fun k => bg r (x - k)
noncomputable def C_covers : Ctr := fun vs H Q _ => ∃ (r : Rl) (x : Int), vs = [rv r, .int x] ∧ r.fine ∧ 0 ≤ x ∧ Q (.bool (cov r x)) H
theorem cv_loop {XF : XS} {r : Rl} {x : Int} {t3 t4 t5 : Option V} {H : Hp} {Q : QS} (hf : r.fine) : ∀ (ks : List Int) (t2 : Option V),
    (∀ L', (ks.any fun k => bg r (x - k)) = true → Q (.ret (.bool true)) L' H) → (∀ L', (ks.any fun k => bg r (x - k)) = false → Q .next L' H) →
    forGo (whBX Φd [(.ite (.call (.fn "begins") [(.loc 0), (.bin .Sub (.loc 1) (.loc 2))]) [(.ret (.lit (.bool true)))] [])] XF) (fun _ => True) 2 (ks.map V.int) [some (rv r), some (.int x), t2, t3, t4, t5] H Q := by
  intro ks
  induction ks with
  | nil => intro t2 _ q; exact q _ rfl
  | cons k ks ih =>
    intro t2 q1 q2
    rw [List.map_cons, foX_cons]
    simp_arith only [↓Pd_be]
    refine ⟨r, x - k, rfl, hf, ?_⟩
    simp_arith only [X_lit]
    rw [List.any_cons] at q1 q2
    refine iX_b (fun h => ?_) (fun h => ?_)
    · exact q1 _ (by rw [h]; rfl)
    · rw [h, Bool.false_or] at q1 q2
      exact ih _ q1 q2
theorem w_covers : ∀ vs H Q X, C_covers vs H Q X → wpFn Φd f_covers vs H Q X := by
  rintro vs H Q X ⟨r, x, rfl, hf, h0, q⟩
  refine fn_of rfl ?_
  change wpSs Φd f_covers.body [some (rv r), some (.int x), none, none, none, none] H _ _
  unfold cov at q
  have hs := hf.inner.size
  refine zs_cons ?_
  generalize hK : sqX Φd (_ :: _) = K
  simp_arith only [X_lit]
  refine ⟨fun hx => absurd hx (by lia), fun _ => ?_⟩
  subst hK
  refine zs_cons ?_
  generalize hK : sqX Φd (_ :: _) = K
  simp_arith only [↓Pd_lo]
  refine ⟨r, rfl, ?_⟩
  simp_arith only [X_lit]
  have e1 : 1 ≤ r.size := hs.1
  have e2 : r.size ≤ 48 := hs.2
  refine ⟨⟨by lia, by lia⟩, ?_⟩
  rw [rangeL_J]
  subst hK
  refine cv_loop hf _ _ (fun L' h => ?_) (fun L' h => ?_)
  · rw [h] at q; exact q
  · rw [h] at q; exact q
noncomputable def Φe : Orc := ext "covers" C_covers Φd
theorem Pe_co : Φe "covers" = C_covers := rfl
inductive IC_some_covers (H : Hp) (Q : V → Hp → Prop) : List V → Prop where
  | mk (i : Nat) (rs : List Rl) (x : Int) : (listAt H i = some (rs.map rv)) → ((∀ r ∈ rs, r.fine)) → (0 ≤ x) → (Q (.bool (rs.any fun r => cov r x)) H) → IC_some_covers H Q ([.ref i, .int x])
noncomputable def C_some_covers : Ctr := fun vs H Q _ => IC_some_covers H Q vs
theorem sc_loop {XF : XS} {i : Nat} {x : Int} {t3 t4 t5 : Option V} {H : Hp} {Q : QS} {st : Hp → Prop} (hst : st H) (h0 : 0 ≤ x) : ∀ (rs : List Rl) (t2 : Option V), (∀ r ∈ rs, r.fine) →
    (∀ L', (rs.any fun r => cov r x) = true → Q (.ret (.bool true)) L' H) → (∀ L', (rs.any fun r => cov r x) = false → Q .next L' H) →
    forGo (whBX Φe [(.ite (.call (.fn "covers") [(.loc 2), (.loc 1)]) [(.ret (.lit (.bool true)))] [])] XF) st 2 (rs.map rv) [some (.ref i), some (.int x), t2, t3, t4, t5] H Q := by
  intro rs
  induction rs with
  | nil => intro t2 _ _ q; exact q _ rfl
  | cons r rs ih =>
    intro t2 hf q1 q2
    rw [List.map_cons, foX_cons]
    simp_arith only [↓Pe_co]
    refine ⟨r, x, rfl, hf r List.mem_cons_self, h0, ?_⟩
    simp_arith only [X_lit]
    rw [List.any_cons] at q1 q2
    refine iX_b (fun h => ?_) (fun h => ?_)
    · exact q1 _ (by rw [h]; rfl)
    · rw [h, Bool.false_or] at q1 q2
      exact ⟨hst, ih _ (fun r hr => hf r (List.mem_cons_of_mem _ hr)) q1 q2⟩
theorem w_some_covers : ∀ vs H Q X, C_some_covers vs H Q X → wpFn Φe f_some_covers vs H Q X := by
  rintro vs H Q X ⟨i, rs, x, hl, hf, h0, q⟩
  refine fn_of rfl ?_
  change wpSs Φe f_some_covers.body [some (.ref i), some (.int x), none, none, none, none] H _ _
  refine zs_cons ?_
  generalize hK : sqX Φe (_ :: _) = K
  simp_arith only [hl]
  subst hK
  refine sc_loop hl h0 rs _ hf (fun L' h => ?_) (fun L' h => ?_)
  · rw [h] at q; exact q
  · rw [h] at q; exact q
noncomputable def Φf : Orc := ext "some_covers" C_some_covers Φe
theorem Pf_ib : Φf "is_between" = C_is_between := rfl
theorem Pf_it : Φf "is_time" = C_is_time := rfl
inductive IC_need_stretch (H : Hp) (Q : V → Hp → Prop) : List V → Prop where
  | mk (h : Int) (a : Int) (b : Int) : (sizeOk1 h) → (hourOk a) → (hourOk b) → (a ≤ b) → (b ≤ a + 10000) → (Q .none H) → IC_need_stretch H Q ([.int h, .int a, .int b])
noncomputable def C_need_stretch : Ctr := fun vs H Q _ => IC_need_stretch H Q vs
theorem w_need_stretch : ∀ vs H Q X, C_need_stretch vs H Q X → wpFn Φf f_need_stretch vs H Q X := by
  rintro vs H Q X ⟨h, a, b, hh, ha, hb, h1, h2, q⟩
  refine fn_of rfl ?_
  simp_arith only [f_need_stretch, initL, List.map_cons, List.map_nil, List.replicate, List.cons_append, List.nil_append, ↓Pf_ib, ↓Pf_it, ↓cc_ib, btw hh.1 hh.2]
  refine cc_it ha ?_
  simp_arith only [X_lit]
  refine cc_it hb ?_
  simp_arith only [X_lit]
  refine ⟨fun _ => ?_, fun h => absurd h1 h⟩
  rw [decide_eq_true h2]; exact q
noncomputable def Φg : Orc := ext "need_stretch" C_need_stretch Φf
noncomputable def lowS (x : Str) : Prop := ∀ c ∈ x.cps.toList, 97 ≤ c ∧ c ≤ 122
noncomputable def nameOk (x : Str) : Prop := 1 ≤ x.length ∧ x.length ≤ 12 ∧ lowS x
theorem low_in : ∀ k : Fin 26, Txt.contains "abcdefghijklmnopqrstuvwxyz" ⟨#[97 + k.val]⟩ = true := by decide +kernel
theorem low_at {c : Nat} (h : 97 ≤ c ∧ c ≤ 122) : Txt.contains "abcdefghijklmnopqrstuvwxyz" ⟨#[c]⟩ = true := by
  have := low_in ⟨c - 97, by lia⟩
  rw [show 97 + (c - 97) = c by lia] at this
  exact this
noncomputable def C_is_name : Ctr := fun vs H Q _ => ∃ x : Str, vs = [.str x] ∧ nameOk x ∧ Q (.bool true) H
theorem na_loop {XF : XS} {v0 : V} {t2 t3 t4 : Option V} {H : Hp} {Q : QS} : ∀ (cs : List Nat) (t1 : Option V), (∀ c ∈ cs, 97 ≤ c ∧ c ≤ 122) → (∀ L', Q .next L' H) →
    forGo (whBX Φg [(.ite (.cmp (.loc 1) .NotIn (.lit (.str "abcdefghijklmnopqrstuvwxyz"))) [(.ret (.lit (.bool false)))] [])] XF) (fun _ => True) 1 (cs.map fun c => V.str ⟨#[c]⟩) [some v0, t1, t2, t3, t4] H Q := by
  intro cs
  induction cs with
  | nil => intro t1 _ q; exact q _
  | cons c cs ih =>
    intro t1 hc q
    rw [List.map_cons, foX_cons]
    simp_arith only [↓sV_str, ↓q_lenstr, ↓q_sstr, ↓q_ins, ↓q_nins, ↓u_str, ↓q_adds, low_at (hc c List.mem_cons_self)]
    exact ih _ (fun c h => hc c (List.mem_cons_of_mem _ h)) q
theorem w_is_name : ∀ vs H Q X, C_is_name vs H Q X → wpFn Φg f_is_name vs H Q X := by
  rintro vs H Q X ⟨x, rfl, hn, q⟩
  refine fn_of rfl ?_
  change wpSs Φg f_is_name.body [some (.str x), none, none, none, none] H _ _
  refine zs_cons ?_
  generalize hK : sqX Φg (_ :: _) = K
  have h1 : (1 : Int) ≤ (x.length : Int) := by have := hn.1; lia
  have h2 : (x.length : Int) ≤ 12 := by have := hn.2.1; lia
  simp_arith only [↓sV_str, ↓q_lenstr, ↓q_sstr, ↓q_ins, ↓q_nins, ↓u_str, ↓q_adds, isi_str, decide_eq_true h2]
  refine ⟨fun _ => ?_, fun h => absurd h1 h⟩
  subst hK
  refine zs_cons ?_
  generalize hK : sqX Φg (_ :: _) = K
  simp_arith only [↓sV_str, ↓q_lenstr, ↓q_sstr, ↓q_ins, ↓q_nins, ↓u_str, ↓q_adds]
  refine ⟨?_, ?_⟩
  · rw [← Array.all_toList, List.all_eq_true]
    intro c hc
    exact decide_eq_true (by have := hn.2.2 c hc; lia)
  subst hK
  exact na_loop _ _ hn.2.2 fun L' => q
noncomputable def Φh : Orc := ext "is_name" C_is_name Φg
end Mine
namespace Mine
open PySem
structure Prs where
  nm : Str
  fr : List Rl
  bu : List Rl
noncomputable def Prs.fine (p : Prs) : Prop := (∀ r ∈ p.fr, r.fine) ∧ ∀ r ∈ p.bu, r.fine
noncomputable def freeAt (p : Prs) (x : Int) : Bool := (p.fr.any fun r => cov r x) && !p.bu.any fun r => cov r x
structure Mtg where
  no : Int
  hr : Int
  sz : Int
  who : List Str
noncomputable def mtv (m : Mtg) : V := .tup [.int m.no, .int m.hr, .int m.sz, .tup (m.who.map V.str)]
noncomputable def meets (b : Int) (hs : List Mtg) (nm : Str) (x : Int) : Bool := hs.any fun m => decide (m.no ≠ b) && (m.who.contains nm && (decide (m.hr ≤ x) && decide (x < m.hr + m.sz)))
noncomputable def fre (b : Int) (hs : List Mtg) (p : Prs) (x : Int) : Bool := !decide (x < 0) && (!meets b hs p.nm x && freeAt p x)
structure Fr (F : List Nat) (H H' : Hp) : Prop where
  keep : ∀ i o, i ∉ F → H[i]? = some o → H'[i]? = some o
  len : H.length ≤ H'.length
theorem get_lt {H : Hp} {i : Nat} {o : O} (h : H[i]? = some o) : i < H.length := (List.getElem?_eq_some_iff.mp h).1
theorem get_pre {H H' : Hp} {i : Nat} {o : O} (p : H <+: H') (h : H[i]? = some o) : H'[i]? = some o := by
  obtain ⟨Δ, rfl⟩ := p
  rw [List.getElem?_append_left (get_lt h), h]
theorem Fr.pre {F : List Nat} {H H' : Hp} (p : H <+: H') : Fr F H H' := ⟨fun _ _ _ h => get_pre p h, p.length_le⟩
theorem Fr.refl {F : List Nat} {H : Hp} : Fr F H H := ⟨fun _ _ _ h => h, Nat.le_refl _⟩
theorem Fr.trans {F G : List Nat} {H H1 H2 : Hp} (a : Fr F H H1) (b : Fr G H1 H2) (hs : ∀ i ∈ G, i ∈ F ∨ H.length ≤ i) : Fr F H H2 := ⟨fun i o hi h => by
  refine b.keep i o (fun hg => ?_) (a.keep i o hi h)
  rcases hs i hg with q | q
  · exact hi q
  · have := get_lt h; lia, Nat.le_trans a.len b.len⟩
theorem Fr.mono {F G : List Nat} {H H' : Hp} (a : Fr F H H') (hs : ∀ i ∈ F, i ∈ G ∨ H.length ≤ i) : Fr G H H' := Fr.trans Fr.refl a hs
theorem Fr.set {H : Hp} {n : Nat} {o : O} : Fr [n] H (H.set n o) := ⟨fun i o' hi h => by
  rw [List.getElem?_set_ne (fun q => hi (by rw [q]; exact .head _)), h], by rw [List.length_set]; exact Nat.le_refl _⟩
theorem nin1 {i x : Nat} (h : i ≠ x) : i ∉ [x] := fun q => h (List.mem_singleton.mp q)
theorem Fr.list {F : List Nat} {H H' : Hp} {i : Nat} {l : List V} (f : Fr F H H') (hi : i ∉ F) (h : listAt H i = some l) : listAt H' i = some l := by
  refine e1_2 (Option.bind_eq_some_iff.mp h) fun o e h => ?_
  unfold listAt; rw [f.keep i o hi e]; exact h
theorem Fr.dict {F : List Nat} {H H' : Hp} {i : Nat} {l : List (Str × V)} (f : Fr F H H') (hi : i ∉ F) (h : dictAt H i = some l) : dictAt H' i = some l := by
  refine e1_2 (Option.bind_eq_some_iff.mp h) fun o e h => ?_
  unfold dictAt; rw [f.keep i o hi e]; exact h
theorem Fr.ns {F : List Nat} {H H' : Hp} {i : Nat} {l : Nat × List (Str × V)} (f : Fr F H H') (hi : i ∉ F) (hj : l.1 ∉ F) (h : nsAt H i = some l) : nsAt H' i = some l := by
  refine e1_2 (Option.bind_eq_some_iff.mp h) fun j h1 h => ?_
  refine e1_2 (Option.map_eq_some_iff.mp h) fun fs h2 e_238 => ?_
  obtain rfl := e_238
  refine e1_2 (Option.bind_eq_some_iff.mp h1) fun o e1 h1 => ?_
  refine e1_2 (Option.bind_eq_some_iff.mp h2) fun o2 e2 h2 => ?_
  unfold nsAt
  rw [f.keep _ _ hi e1, Option.bind_some, h1, Option.bind_some, f.keep _ _ hj e2, Option.bind_some, h2]; rfl
theorem listAt_lt {H : Hp} {i : Nat} {l : List V} (h : listAt H i = some l) : i < H.length := by
  refine e1_2 (Option.bind_eq_some_iff.mp h) fun o e _ => ?_
  exact get_lt e
noncomputable def RlAt (H : Hp) (es : List (Str × V)) (f : Prs → List Rl) : List Prs → List Nat → Prop
  | [], is => is = []
  | p :: ps, is => ∃ i js, is = i :: js ∧ es.lookup p.nm = some (.ref i) ∧ listAt H i = some ((f p).map rv) ∧ RlAt H es f ps js
theorem RlAt.fr {F : List Nat} {H H' : Hp} {es : List (Str × V)} {f : Prs → List Rl} (g : Fr F H H') : ∀ {ps : List Prs} {is : List Nat}, (∀ i ∈ is, i ∉ F) → RlAt H es f ps is → RlAt H' es f ps is
  | [], _, _, h => h
  | _ :: _, _, hd, ⟨i, js, e, h1, h2, r⟩ => ⟨i, js, e, h1, g.list (hd i (by rw [e]; exact .head _)) h2, r.fr g fun k hk => hd k (by rw [e]; exact .tail _ hk)⟩
theorem RlAt.get {H : Hp} {es : List (Str × V)} {f : Prs → List Rl} {p : Prs} : ∀ {ps : List Prs} {is : List Nat}, RlAt H es f ps is → p ∈ ps → ∃ i, es.lookup p.nm = some (.ref i) ∧ listAt H i = some ((f p).map rv) ∧ i ∈ is
  | [], _, _, h => nomatch h
  | a :: ps, _, ⟨i, js, e, h1, h2, r⟩, h => by
    rcases List.mem_cons.mp h with q | q
    · rw [q, e]; exact ⟨i, h1, h2, .head _⟩
    · refine e1_3 (r.get q) fun k k1 k2 k3 => ?_
      exact ⟨k, k1, k2, by rw [e]; exact .tail _ k3⟩
structure Bk where
  b : Nat
  j : Nat
  n : Nat
  h : Nat
  d : Nat
  e : Nat
  fs : List (Str × V)
  es : List (Str × V)
  us : List (Str × V)
  fl : List Nat
  ul : List Nat
  g : Int
  c : Nat
noncomputable def Bk.foot (k : Bk) : List Nat := k.b :: k.j :: k.n :: k.h :: k.d :: k.e :: (k.fl ++ k.ul)
structure BkAt (H : Hp) (k : Bk) (ps : List Prs) (hs : List Mtg) : Prop where
  nd : k.foot.Nodup
  ns : nsAt H k.b = some (k.j, k.fs)
  fN : k.fs.lookup (Str.ofString "names") = some (.ref k.n)
  fH : k.fs.lookup (Str.ofString "held") = some (.ref k.h)
  fF : k.fs.lookup (Str.ofString "free_rules") = some (.ref k.d)
  fB : k.fs.lookup (Str.ofString "busy_rules") = some (.ref k.e)
  fG : k.fs.lookup (Str.ofString "given") = some (.int k.g)
  ln : listAt H k.n = some (ps.map fun p => .str p.nm)
  lh : listAt H k.h = some (hs.map mtv)
  dd : dictAt H k.d = some k.es
  de : dictAt H k.e = some k.us
  rf : RlAt H k.es Prs.fr ps k.fl
  ru : RlAt H k.us Prs.bu ps k.ul
  g0 : 0 ≤ k.g
  no : ∀ m ∈ hs, 0 < m.no ∧ m.no ≤ k.g
  nu : (hs.map Mtg.no).Nodup
  z : k.fs.length ≤ k.c
  ze : k.es.length = ps.length
  zu : k.us.length = ps.length
section
variable {k : Bk}
theorem ft_b : k.b ∈ k.foot := .head _
theorem ft_j : k.j ∈ k.foot := .tail _ (.head _)
theorem ft_n : k.n ∈ k.foot := .tail _ (.tail _ (.head _))
theorem ft_h : k.h ∈ k.foot := .tail _ (.tail _ (.tail _ (.head _)))
theorem ft_d : k.d ∈ k.foot := .tail _ (.tail _ (.tail _ (.tail _ (.head _))))
theorem ft_e : k.e ∈ k.foot := .tail _ (.tail _ (.tail _ (.tail _ (.tail _ (.head _)))))
theorem ft_l {i : Nat} (h : i ∈ k.fl ++ k.ul) : i ∈ k.foot := .tail _ (.tail _ (.tail _ (.tail _ (.tail _ (.tail _ h)))))
theorem ft_fl {i : Nat} (h : i ∈ k.fl) : i ∈ k.foot := ft_l (List.mem_append_left _ h)
theorem ft_ul {i : Nat} (h : i ∈ k.ul) : i ∈ k.foot := ft_l (List.mem_append_right _ h)
theorem BkAt.fr {F : List Nat} {H H' : Hp} {ps : List Prs} {hs : List Mtg} (B : BkAt H k ps hs) (f : Fr F H H') (hd : ∀ i ∈ k.foot, i ∉ F) : BkAt H' k ps hs :=
  ⟨B.nd, f.ns (hd _ ft_b) (hd _ ft_j) B.ns, B.fN, B.fH, B.fF, B.fB, B.fG, f.list (hd _ ft_n) B.ln, f.list (hd _ ft_h) B.lh, f.dict (hd _ ft_d) B.dd, f.dict (hd _ ft_e) B.de, B.rf.fr f fun i hi => hd i (ft_fl hi), B.ru.fr f fun i hi => hd i (ft_ul hi), B.g0, B.no, B.nu, B.z, B.ze, B.zu⟩
theorem BkAt.pre {H H' : Hp} {ps : List Prs} {hs : List Mtg} (p : H <+: H') (B : BkAt H k ps hs) : BkAt H' k ps hs := B.fr (F := []) (Fr.pre p) fun _ _ h => nomatch h
end
theorem eqv_str (a b : Str) : PyData.eqv (.str a) (.str b) = (a == b) := rfl
theorem toPys_strs : ∀ xs : List Str, toPys (xs.map V.str) = some (xs.map PyData.str)
  | [] => rfl
  | d :: r => by
    show ((toPys (r.map V.str)).map _) = _
    rw [toPys_strs r]; rfl
theorem any_strs (x : Str) : ∀ xs : List Str, ((xs.map PyData.str).any fun e => PyData.eqv e (.str x)) = xs.contains x
  | [] => rfl
  | d :: r => by
    rw [List.map_cons, List.any_cons, any_strs x r, eqv_str, List.contains_cons]
    congr 1
    rw [Bool.eq_iff_iff, beq_iff_eq, beq_iff_eq]; exact eq_comm
theorem mem_strs {x : Str} {xs : List Str} : memV (.str x) (xs.map V.str) = some (xs.contains x) := by
  unfold memV
  rw [toPys_strs]
  show (if (PyData.str x).depth ≤ 60 then some ((xs.map PyData.str).any fun e => PyData.eqv e (.str x)) else none) = _
  rw [if_pos (Nat.le_of_ble_eq_true rfl), any_strs]
theorem nm_map (ps : List Prs) : (ps.map fun p => V.str p.nm) = (ps.map Prs.nm).map V.str := by rw [List.map_map]; rfl
inductive IC_need_somebody (H : Hp) (Q : V → Hp → Prop) : List V → Prop where
  | mk (k : Bk) (ps : List Prs) (hs : List Mtg) (x : Str) : (BkAt H k ps hs) → (x ∈ ps.map Prs.nm) → (Q .none H) → IC_need_somebody H Q ([.ref k.b, .str x])
noncomputable def C_need_somebody : Ctr := fun vs H Q _ => IC_need_somebody H Q vs
theorem w_need_somebody : ∀ vs H Q X, C_need_somebody vs H Q X → wpFn Φh f_B_need_somebody vs H Q X := by
  rintro vs H Q X ⟨k, ps, hs, x, B, hx, q⟩
  refine fn_of rfl ?_
  have h3 := B.ln
  rw [nm_map] at h3
  have hc : (ps.map Prs.nm).contains x = true := List.contains_iff_mem.mpr hx
  simp_arith only [f_B_need_somebody, initL, List.map_cons, List.map_nil, List.replicate, List.cons_append, List.nil_append, B.ns, B.fN, h3, mem_strs, hc]
  exact q
noncomputable def Ψ1 : Orc := ext (Str.ofString "Book." ++ Str.ofString "need_somebody") C_need_somebody Φh
inductive IC_meets_at (H : Hp) (Q : V → Hp → Prop) : List V → Prop where
  | mk (k : Bk) (ps : List Prs) (hs : List Mtg) (nm : Str) (x : Int) (b : Int) : (BkAt H k ps hs) → (Q (.bool (meets b hs nm x)) H) → IC_meets_at H Q ([.ref k.b, .str nm, .int x, .int b])
noncomputable def C_meets_at : Ctr := fun vs H Q _ => IC_meets_at H Q vs
noncomputable abbrev maB : List IS := bdy (f_B_meets_at.body.getD 0 .fail)
theorem ma_loop {XF : XS} {v0 : V} {nm : Str} {x b : Int} {t5 t6 t7 : Option V} {H : Hp} {Q : QS} {st : Hp → Prop} (hst : st H) : ∀ (hs : List Mtg) (t4 : Option V), (meets b hs nm x = true → ∀ L', Q (.ret (.bool true)) L' H) → (meets b hs nm x = false → ∀ L', Q .next L' H) →
    forGo (whBX Ψ1 maB XF) st 4 (hs.map mtv) [some v0, some (.str nm), some (.int x), some (.int b), t4, t5, t6, t7] H Q := by
  intro hs
  induction hs with
  | nil => intro t4 _ q; exact q rfl _
  | cons m hs ih =>
    intro t4 q1 q2
    rw [List.map_cons, foX_cons]
    have e : meets b (m :: hs) nm x = ((decide (m.no ≠ b) && (m.who.contains nm && (decide (m.hr ≤ x) && decide (x < m.hr + m.sz)))) || meets b hs nm x) := List.any_cons
    rw [e] at q1 q2
    have nx : (decide (m.no ≠ b) && (m.who.contains nm && (decide (m.hr ≤ x) && decide (x < m.hr + m.sz)))) = false → st H ∧ forGo (whBX Ψ1 maB XF) st 4 (hs.map mtv) [some v0, some (.str nm), some (.int x), some (.int b), some (mtv m), t5, t6, t7] H Q := fun h => by
      rw [h, Bool.false_or] at q1 q2
      exact ⟨hst, ih _ q1 q2⟩
    rw [show mtv m = V.tup [.int m.no, .int m.hr, .int m.sz, .tup (m.who.map V.str)] from rfl] at nx ⊢
    refine zs_cons ?_
    simp_arith only [mem_strs]
    refine ⟨fun hm => iX_b (fun hw => ?_) (fun hw => nx (by rw [hw, Bool.false_and, Bool.and_false])), fun h => nx (by rw [decide_eq_false h]; rfl)⟩
    refine ⟨fun h1 => ⟨fun h2 => q1 (by rw [decide_eq_true hm, hw, decide_eq_true h1, decide_eq_true h2]; rfl) _, fun h2 => nx (by rw [hw, decide_eq_true h1, decide_eq_false h2, decide_eq_true hm]; rfl)⟩, fun h1 => ?_⟩
    exact ⟨fun h => absurd h h1, fun _ => nx (by rw [hw, decide_eq_false h1, decide_eq_true hm]; rfl)⟩
theorem w_meets_at : ∀ vs H Q X, C_meets_at vs H Q X → wpFn Ψ1 f_B_meets_at vs H Q X := by
  rintro vs H Q X ⟨k, ps, hs, nm, x, b, B, q⟩
  refine fn_of rfl ?_
  change wpSs Ψ1 f_B_meets_at.body [some (.ref k.b), some (.str nm), some (.int x), some (.int b), none, none, none, none] H _ _
  refine zs_cons ?_
  generalize hK : sqX Ψ1 (_ :: _) = K
  have hl := B.lh
  simp_arith only [B.ns, B.fH, hl]
  subst hK
  refine ma_loop hl hs _ (fun h L' => ?_) (fun h L' => ?_)
  · rw [h] at q; exact q
  · rw [h] at q; exact q
noncomputable def Ψ2 : Orc := ext (Str.ofString "Book." ++ Str.ofString "meets_at") C_meets_at Ψ1
theorem P2_ma : Ψ2 (Str.ofString "Book." ++ Str.ofString "meets_at") = C_meets_at := rfl
theorem P2_sc : Ψ2 "some_covers" = C_some_covers := rfl
inductive IC_free_at (H : Hp) (Q : V → Hp → Prop) : List V → Prop where
  | mk (k : Bk) (ps : List Prs) (hs : List Mtg) (p : Prs) (x : Int) (b : Int) : (BkAt H k ps hs) → (p ∈ ps) → (p.fine) → (Q (.bool (fre b hs p x)) H) → IC_free_at H Q ([.ref k.b, .str p.nm, .int x, .int b])
noncomputable def C_free_at : Ctr := fun vs H Q _ => IC_free_at H Q vs
theorem w_free_at : ∀ vs H Q X, C_free_at vs H Q X → wpFn Ψ2 f_B_free_at vs H Q X := by
  rintro vs H Q X ⟨k, ps, hs, p, x, b, B, hp, hf, q⟩
  refine fn_of rfl ?_
  refine e1_3 (B.rf.get hp) fun i k1 k2 _ => ?_
  refine e1_3 (B.ru.get hp) fun i' k1' k2' _ => ?_
  change wpSs Ψ2 f_B_free_at.body [some (.ref k.b), some (.str p.nm), some (.int x), some (.int b), none, none, none] H _ _
  refine zs_cons ?_
  generalize hK : sqX Ψ2 (_ :: _) = K
  unfold fre at q
  simp_arith only [B.ns, ↓P2_ma]
  refine ⟨fun h => ?_, fun h => ⟨k, ps, hs, p.nm, x, b, B, ?_⟩⟩
  · rw [decide_eq_true h] at q; subst hK; exact q
  rw [decide_eq_false h] at q
  simp_arith only [X_lit]
  refine iX_b (fun hm => ?_) (fun hm => ?_)
  · rw [hm] at q; subst hK; exact q
  rw [hm] at q
  subst hK
  have h0 : 0 ≤ x := by lia
  simp_arith only [B.ns, B.fF, B.dd, k1, B.fB, B.de, k1', ↓P2_sc]
  refine ⟨i, p.fr, x, k2, hf.1, h0, ?_⟩
  simp_arith only [X_lit]
  have q : Q (.bool (freeAt p x)) H := q
  unfold freeAt at q
  refine iX_b (fun h => ?_) (fun h => ?_)
  · simp_arith only [B.ns, B.fB, B.de, k1', ↓P2_sc]
    refine ⟨i', p.bu, x, k2', hf.2, h0, ?_⟩
    rw [h, Bool.true_and] at q; exact q
  · rw [h, Bool.false_and] at q; rw [h]; exact q
noncomputable def Ψ3 : Orc := ext (Str.ofString "Book." ++ Str.ofString "free_at") C_free_at Ψ2
theorem P3_ns : Ψ3 (Str.ofString "Book." ++ Str.ofString "need_somebody") = C_need_somebody := rfl
structure Some' (H : Hp) (k : Bk) (n : Nat) (ps : List Prs) (hs : List Mtg) (qs : List Prs) : Prop where
  book : BkAt H k ps hs
  list : listAt H n = some (qs.map fun p => .str p.nm)
  sub : ∀ q ∈ qs, q ∈ ps ∧ q.fine
theorem Some'.pre {H H' : Hp} {k : Bk} {n : Nat} {ps qs : List Prs} {hs : List Mtg} (q : H <+: H') (S : Some' H k n ps hs qs) : Some' H' k n ps hs qs := ⟨S.book.pre q, listAt_pre q S.list, S.sub⟩
theorem strsOf_strs : ∀ xs : List Str, strsOf (xs.map V.str) = some xs
  | [] => rfl
  | x :: r => by
    show ((strsOf (r.map V.str)).map _) = _
    rw [strsOf_strs r]; rfl
inductive IC_need_all (H : Hp) (Q : V → Hp → Prop) : List V → Prop where
  | mk (k : Bk) (n : Nat) (ps : List Prs) (hs : List Mtg) (qs : List Prs) : (Some' H k n ps hs qs) → (qs ≠ []) → ((qs.map Prs.nm).Nodup) → (Q .none H) → IC_need_all H Q ([.ref k.b, .ref n])
noncomputable def C_need_all : Ctr := fun vs H Q _ => IC_need_all H Q vs
theorem na1_loop {XF : XS} {k : Bk} {n : Nat} {ps : List Prs} {hs : List Mtg} {t3 t4 t5 : Option V} {H : Hp} {Q : QS} {st : Hp → Prop} (hst : st H) (B : BkAt H k ps hs) : ∀ (qs : List Prs) (t2 : Option V), (∀ q ∈ qs, q ∈ ps ∧ q.fine) →
    (∀ t2', Q .next [some (.ref k.b), some (.ref n), t2', t3, t4, t5] H) →
    forGo (whBX Ψ3 [(.expr (.mcall (.loc 0) "need_somebody" [(.loc 2)]))] XF) st 2 (qs.map fun p => V.str p.nm) [some (.ref k.b), some (.ref n), t2, t3, t4, t5] H Q := by
  intro qs
  induction qs with
  | nil => intro t2 _ q; exact q _
  | cons p qs ih =>
    intro t2 hq q
    rw [List.map_cons, foX_cons]
    simp_arith only [B.ns, ↓P3_ns]
    refine ⟨k, ps, hs, p.nm, B, List.mem_map_of_mem (hq p List.mem_cons_self).1, ?_⟩
    exact ⟨hst, ih _ (fun q h => hq q (List.mem_cons_of_mem _ h)) q⟩
theorem na2_loop {XF : XS} {b n : Nat} {ys : List Str} {t3 t4 t5 : Option V} {H : Hp} {Q : QS} {st : Hp → Prop} (hst : st H) (hl : listAt H n = some (ys.map V.str)) (hn : ys.Nodup) : ∀ (xs : List Str) (t2 : Option V), (∀ L', Q .next L' H) →
    forGo (whBX Ψ3 [(.ite (.cmp (.meth (.loc 1) .count [(.loc 2)]) .Gt (.lit (.int 1))) [.fail] [])] XF) st 2 (xs.map V.str) [some (.ref b), some (.ref n), t2, t3, t4, t5] H Q := by
  intro xs
  induction xs with
  | nil => intro t2 q; exact q _
  | cons x xs ih =>
    intro t2 q
    rw [List.map_cons, foX_cons]
    simp_arith only [↓sV_str, ↓q_lenstr, ↓q_sstr, ↓q_ins, ↓q_nins, ↓u_str, ↓q_adds, hl, strsOf_strs]
    refine ⟨⟨_, hl⟩, fun h => absurd h ?_, fun _ => ⟨hst, ih _ q⟩⟩
    have := List.nodup_iff_count.mp hn x
    lia
theorem w_need_all : ∀ vs H Q X, C_need_all vs H Q X → wpFn Ψ3 f_B_need_all vs H Q X := by
  rintro vs H Q X ⟨k, n, ps, hs, qs, S, hne, hn, q⟩
  refine fn_of rfl ?_
  have hl := S.list
  change wpSs Ψ3 f_B_need_all.body [some (.ref k.b), some (.ref n), none, none, none, none] H _ _
  refine zs_cons ?_
  generalize hK : sqX Ψ3 (_ :: _) = K
  simp_arith only [hl]
  refine ⟨fun h => absurd h ?_, fun _ => ?_⟩
  · have := List.length_pos_iff.mpr hne
    rw [List.length_map]; lia
  subst hK
  refine zs_cons ?_
  generalize hK : sqX Ψ3 (_ :: _) = K
  simp_arith only [hl]
  subst hK
  refine na1_loop hl S.book qs _ S.sub fun t2' => ?_
  refine zs_cons ?_
  generalize hK : sqX Ψ3 [] = K
  rw [nm_map] at hl
  simp_arith only [hl]
  subst hK
  exact na2_loop hl hl hn _ _ fun L' => q
noncomputable def Ψ4 : Orc := ext (Str.ofString "Book." ++ Str.ofString "need_all") C_need_all Ψ3
theorem P4_fa : Ψ4 (Str.ofString "Book." ++ Str.ofString "free_at") = C_free_at := rfl
end Mine
namespace Mine
open PySem
noncomputable abbrev nmL (qs : List Prs) : List V := qs.map fun p => .str p.nm
noncomputable def NmAt (H : Hp) (v : V) (qs : List Prs) : Prop := (∃ n, v = .ref n ∧ listAt H n = some (nmL qs)) ∨ v = .tup (nmL qs)
theorem NmAt.pre {H H' : Hp} {v : V} {qs : List Prs} (p : H <+: H') (h : NmAt H v qs) : NmAt H' v qs := by
  rcases h with ⟨n, e, h⟩ | e
  · exact .inl ⟨n, e, listAt_pre p h⟩
  · exact .inr e
structure Som (H : Hp) (k : Bk) (v : V) (ps : List Prs) (hs : List Mtg) (qs : List Prs) : Prop where
  book : BkAt H k ps hs
  list : NmAt H v qs
  sub : ∀ q ∈ qs, q ∈ ps ∧ q.fine
theorem Som.pre {H H' : Hp} {k : Bk} {v : V} {ps qs : List Prs} {hs : List Mtg} (q : H <+: H') (S : Som H k v ps hs qs) : Som H' k v ps hs qs := ⟨S.book.pre q, S.list.pre q, S.sub⟩
theorem Some'.som {H : Hp} {k : Bk} {n : Nat} {ps qs : List Prs} {hs : List Mtg} (S : Some' H k n ps hs qs) : Som H k (.ref n) ps hs qs := ⟨S.book, .inl ⟨n, rfl, S.list⟩, S.sub⟩
noncomputable def bar1 (b : Int) (hs : List Mtg) (x : Int) : List Prs → Option (Str × Int)
  | [] => none
  | p :: qs => if fre b hs p x then bar1 b hs x qs else some (p.nm, x)
noncomputable def barG (b : Int) (hs : List Mtg) (qs : List Prs) (hours a : Int) : List Int → Option (Str × Int)
  | [] => none
  | j :: ks => match bar1 b hs (a + hours - j) qs with
    | none => barG b hs qs hours a ks
    | some r => some r
noncomputable def barF (b : Int) (hs : List Mtg) (qs : List Prs) (hours a : Int) : Option (Str × Int) := barG b hs qs hours a (rangeJ 1 (hours + 1))
noncomputable def barV : Option (Str × Int) → V
  | none => .none
  | some r => .tup [.str r.1, .int r.2]
theorem bar1_none {b x : Int} {hs : List Mtg} : ∀ {qs : List Prs}, bar1 b hs x qs = none → ∀ q ∈ qs, fre b hs q x = true
  | p :: qs, h, q, hq => by
    unfold bar1 at h
    by_cases e : fre b hs p x = true
    · rw [if_pos e] at h
      rcases List.mem_cons.mp hq with r | r
      · rw [r]; exact e
      · exact bar1_none h q r
    · rw [if_neg e] at h; cases h
theorem bar1_some {b x : Int} {hs : List Mtg} {r : Str × Int} : ∀ {qs : List Prs}, bar1 b hs x qs = some r → r.2 = x ∧ ∃ q ∈ qs, q.nm = r.1 ∧ fre b hs q x = false
  | p :: qs, h => by
    unfold bar1 at h
    by_cases e : fre b hs p x = true
    · rw [if_pos e] at h
      obtain ⟨h1, q, hq, h2⟩ := bar1_some h
      exact ⟨h1, q, List.mem_cons_of_mem _ hq, h2⟩
    · rw [if_neg e] at h
      obtain rfl := Option.some.inj h
      exact ⟨rfl, p, List.mem_cons_self, rfl, by cases h : fre b hs p x with | false => rfl | true => exact absurd h e⟩
theorem barG_none {b hours a : Int} {hs : List Mtg} {qs : List Prs} : ∀ {ks : List Int}, barG b hs qs hours a ks = none → ∀ j ∈ ks, ∀ q ∈ qs, fre b hs q (a + hours - j) = true
  | k :: ks, h, j, hj => by
    unfold barG at h
    cases e : bar1 b hs (a + hours - k) qs with
    | some r => rw [e] at h; cases h
    | none =>
      rw [e] at h
      rcases List.mem_cons.mp hj with r | r
      · rw [r]; exact bar1_none e
      · exact barG_none h j r
theorem barG_some {b hours a : Int} {hs : List Mtg} {qs : List Prs} {r : Str × Int} : ∀ {ks : List Int}, barG b hs qs hours a ks = some r → ∃ j ∈ ks, r.2 = a + hours - j ∧ ∃ q ∈ qs, q.nm = r.1 ∧ fre b hs q r.2 = false
  | k :: ks, h => by
    unfold barG at h
    cases e : bar1 b hs (a + hours - k) qs with
    | some r' =>
      rw [e] at h
      obtain rfl := Option.some.inj h
      obtain ⟨h1, q⟩ := bar1_some e
      exact ⟨k, List.mem_cons_self, h1, by rw [h1]; exact q⟩
    | none =>
      rw [e] at h
      refine e1_2 (barG_some (ks := ks) h) fun j hj q => ?_
      exact ⟨j, List.mem_cons_of_mem _ hj, q⟩
theorem barF_none {b hours a : Int} {hs : List Mtg} {qs : List Prs} (h : barF b hs qs hours a = none) : ∀ q ∈ qs, ∀ x, a ≤ x → x < a + hours → fre b hs q x = true := fun q hq x h1 h2 => by
  have := barG_none h (a + hours - x) (mem_rangeJ.mpr ⟨by lia, by lia⟩) q hq
  rwa [show a + hours - (a + hours - x) = x by lia] at this
theorem barF_some {b hours a : Int} {hs : List Mtg} {qs : List Prs} {r : Str × Int} (h : barF b hs qs hours a = some r) : a ≤ r.2 ∧ r.2 < a + hours ∧ ∃ q ∈ qs, q.nm = r.1 ∧ fre b hs q r.2 = false := by
  refine e1_3 (barG_some h) fun j hj e q => ?_
  have := mem_rangeJ.mp hj
  exact ⟨by lia, by lia, q⟩
inductive IC_bar (H : Hp) (Q : V → Hp → Prop) : List V → Prop where
  | mk (k : Bk) (v : V) (ps : List Prs) (hs : List Mtg) (qs : List Prs) (hours : Int) (a : Int) (b : Int) : (Som H k v ps hs qs) → (sizeOk1 hours) → (Q (barV (barF b hs qs hours a)) H) → IC_bar H Q ([.ref k.b, v, .int hours, .int a, .int b])
noncomputable def C_bar : Ctr := fun vs H Q _ => IC_bar H Q vs
noncomputable abbrev baB : List IS := [(.ite (.not (.mcall (.loc 0) "free_at" [(.loc 7), (.loc 6), (.loc 4)])) [(.ret (.tup [(.loc 7), (.loc 6)]))] [])]
theorem ba_in {XF : XS} {k : Bk} {v : V} {ps : List Prs} {hs : List Mtg} {x b : Int} {v2 v3 : V} {t5 t8 t9 t10 : Option V} {H : Hp} {Q : QS} {st : Hp → Prop} (hst : st H) (B : BkAt H k ps hs) : ∀ (qs : List Prs) (t7 : Option V), (∀ q ∈ qs, q ∈ ps ∧ q.fine) →
    (∀ r, bar1 b hs x qs = some r → ∀ L', Q (.ret (barV (some r))) L' H) → (bar1 b hs x qs = none → ∀ t7', Q .next [some (.ref k.b), some v, some v2, some v3, some (.int b), t5, some (.int x), t7', t8, t9, t10] H) →
    forGo (whBX Ψ4 baB XF) st 7 (nmL qs) [some (.ref k.b), some v, some v2, some v3, some (.int b), t5, some (.int x), t7, t8, t9, t10] H Q := by
  intro qs
  induction qs with
  | nil => intro t7 _ _ q; exact q rfl _
  | cons p qs ih =>
    intro t7 hq q1 q2
    rw [nmL, List.map_cons, foX_cons]
    simp_arith only [B.ns, ↓P4_fa]
    refine ⟨k, ps, hs, p, x, b, B, (hq p List.mem_cons_self).1, (hq p List.mem_cons_self).2, ?_⟩
    simp_arith only [X_lit]
    unfold bar1 at q1 q2
    cases e : fre b hs p x with
    | true => rw [if_pos e] at q1 q2; exact ⟨hst, ih _ (fun q h => hq q (List.mem_cons_of_mem _ h)) q1 q2⟩
    | false => rw [if_neg (by rw [e]; exact Bool.false_ne_true)] at q1 q2; exact q1 _ rfl _
noncomputable abbrev boB : List IS := [(.assign 6 (.bin .Sub (.bin .Add (.loc 3) (.loc 2)) (.loc 5))), (.for 7 .val (.loc 1) baB)]
theorem ba_out {XF : XS} {k : Bk} {v : V} {ps qs : List Prs} {hs : List Mtg} {hours a b : Int} {t8 t9 t10 : Option V} {H : Hp} {Q : QS} (S : Som H k v ps hs qs) : ∀ (ks : List Int) (t5 t6 t7 : Option V), (∀ r, barG b hs qs hours a ks = some r → ∀ L', Q (.ret (barV (some r))) L' H) → (barG b hs qs hours a ks = none → ∀ L', Q .next L' H) →
    forGo (whBX Ψ4 boB XF) (fun _ => True) 5 (ks.map V.int) [some (.ref k.b), some v, some (.int hours), some (.int a), some (.int b), t5, t6, t7, t8, t9, t10] H Q := by
  intro ks
  induction ks with
  | nil => intro t5 t6 t7 _ q; exact q rfl _
  | cons j ks ih =>
    intro t5 t6 t7 q1 q2
    rw [List.map_cons, foX_cons]
    refine zs_cons ?_
    generalize hK : sqX Ψ4 (_ :: _) = K
    simp_arith only [X_lit]
    subst hK
    unfold barG at q1 q2
    have go : ∀ (st : Hp → Prop), st H → forGo (whBX Ψ4 baB XF) st 7 (nmL qs) [some (.ref k.b), some v, some (.int hours), some (.int a), some (.int b), some (.int j), some (.int (a + hours - j)), t7, t8, t9, t10] H (sqX Ψ4 [] (fkX (whBX Ψ4 boB XF) (fun _ => True) 5 (ks.map V.int) Q) XF) := fun st hst => by
      refine ba_in hst S.book qs _ S.sub (fun r hr L' => ?_) (fun hr t7' => ?_)
      · rw [hr] at q1; exact q1 r rfl L'
      · rw [hr] at q1 q2; exact ⟨trivial, ih _ _ _ q1 q2⟩
    refine zs_cons ?_
    generalize hK : sqX Ψ4 [] = K at go ⊢
    rcases S.list with ⟨n, rfl, hl⟩ | rfl
    · simp_arith only [hl]
      exact go _ hl
    · simp_arith only [X_lit]
      exact go _ trivial
theorem w_bar : ∀ vs H Q X, C_bar vs H Q X → wpFn Ψ4 f_B_bar vs H Q X := by
  rintro vs H Q X ⟨k, v, ps, hs, qs, hours, a, b, S, hh, q⟩
  refine fn_of rfl ?_
  have e1 := hh.1
  have e2 := hh.2
  change wpSs Ψ4 f_B_bar.body [some (.ref k.b), some v, some (.int hours), some (.int a), some (.int b), none, none, none, none, none, none] H _ _
  refine zs_cons ?_
  generalize hK : sqX Ψ4 (_ :: _) = K
  simp_arith only [X_lit]
  refine ⟨⟨by lia, by lia⟩, ?_⟩
  rw [rangeL_J]
  subst hK
  unfold barF at q
  refine ba_out S _ _ _ _ (fun r hr L' => ?_) (fun hr L' => ?_)
  · rw [hr] at q; exact q
  · rw [hr] at q; exact q
noncomputable def Ψ5 : Orc := ext (Str.ofString "Book." ++ Str.ofString "bar") C_bar Ψ4
theorem P5_ba : Ψ5 (Str.ofString "Book." ++ Str.ofString "bar") = C_bar := rfl
structure Row where
  a : Int
  m : Int
  nm : Str
  x : Int
noncomputable def rowV (r : Row) : V := .tup [.int r.a, .int r.m, .str r.nm, .int r.x]
noncomputable def intO : Option Int → V
  | none => .none
  | some a => .int a
noncomputable def lookG (b : Int) (hs : List Mtg) (qs : List Prs) (hours last : Int) : Nat → Int → Option Int × List Row
  | 0, _ => (none, [])
  | c + 1, a => if a ≤ last then (match barF b hs qs hours a with
      | none => (some a, [])
      | some r => ((lookG b hs qs hours last c (r.2 + 1)).1, ⟨a, min last r.2, r.1, r.2⟩ :: (lookG b hs qs hours last c (r.2 + 1)).2))
    else (none, [])
noncomputable def lookF (b : Int) (hs : List Mtg) (qs : List Prs) (hours lo last : Int) : Option Int × List Row := lookG b hs qs hours last (last + 1 - lo).toNat lo
inductive IC_look (H : Hp) (Q : V → Hp → Prop) : List V → Prop where
  | mk (k : Bk) (v : V) (ps : List Prs) (hs : List Mtg) (qs : List Prs) (hours : Int) (lo : Int) (last : Int) (b : Int) : (Som H k v ps hs qs) → (sizeOk1 hours) → (last ≤ lo + 100000) → (Q (.tup [intO (lookF b hs qs hours lo last).1, .ref H.length]) (H ++ [.list ((lookF b hs qs hours lo last).2.map rowV)])) → IC_look H Q ([.ref k.b, v, .int hours, .int lo, .int last, .int b])
noncomputable def C_look : Ctr := fun vs H Q _ => IC_look H Q vs
noncomputable abbrev loT : IE := .cmp (.loc 3) .LtE (.loc 4)
noncomputable abbrev loB : List IS := bdy (f_B_look.body.getD 1 .fail)
theorem lo_loop {k : Bk} {v : V} {ps qs : List Prs} {hs : List Mtg} {hours last b : Int} {t8 t9 t10 : Option V} {H : Hp} {Q : QS} (S : Som H k v ps hs qs) (hh : sizeOk1 hours) : ∀ (c : Nat) (a : Int) (rows : List V) (t7 : Option V),
    last + 1 - a ≤ (c : Int) → rows.length + c ≤ 1000000 →
    (∀ a', (lookG b hs qs hours last c a).1 = some a' → ∀ L', Q (.ret (.tup [.int a', .ref H.length])) L' (H ++ [.list (rows ++ (lookG b hs qs hours last c a).2.map rowV)])) →
    ((lookG b hs qs hours last c a).1 = none → ∀ t3 t7, Q .next [some (.ref k.b), some v, some (.int hours), t3, some (.int last), some (.int b), some (.ref H.length), t7, t8, t9, t10] (H ++ [.list (rows ++ (lookG b hs qs hours last c a).2.map rowV)])) →
    whileGo (whTX Ψ5 loT noX) (whBX Ψ5 loB noXS) (c + 1) [some (.ref k.b), some v, some (.int hours), some (.int a), some (.int last), some (.int b), some (.ref H.length), t7, t8, t9, t10] (H ++ [.list rows]) Q := by
  intro c
  have e1 := hh.1
  induction c with
  | zero =>
    intro a rows t7 hk hz q1 q2
    rw [whX_s]
    show ifP (decide (a ≤ last)) _ _
    refine iX_p (fun hle => by lia) (fun hle => ?_)
    have := q2 rfl (some (.int a)) t7
    rw [show (lookG b hs qs hours last 0 a).2.map rowV = [] from rfl, List.append_nil] at this
    exact this
  | succ c ih =>
    intro a rows t7 hk hz q1 q2
    have S' := S.pre (pre_new (o := .list rows))
    unfold lookG at q1 q2
    rw [whX_s]
    show ifP (decide (a ≤ last)) _ _
    refine iX_p (fun hle => ?_) (fun hle => ?_)
    · rw [if_pos hle] at q1 q2
      refine zs_cons ?_
      generalize hK : sqX Ψ5 (_ :: _) = K
      simp_arith only [S'.book.ns, ↓P5_ba]
      refine ⟨k, v, ps, hs, qs, hours, a, b, S', hh, ?_⟩
      cases hb : barF b hs qs hours a with
      | none =>
        rw [hb] at q1 q2
        subst hK
        refine zs_cons ?_
        generalize hK : sqX Ψ5 (_ :: _) = K
        simp_arith only [isNoneV, barV]
        subst hK
        have := q1 a rfl
        rw [show ([] : List Row).map rowV = [] from rfl, List.append_nil] at this
        exact this _
      | some r =>
        rw [hb] at q1 q2
        have k1 := (barF_some hb).1
        subst hK
        refine zs_cons ?_
        generalize hK : sqX Ψ5 (_ :: _) = K
        simp_arith only [isNoneV, barV]
        subst hK
        refine zs_cons ?_
        generalize hK : sqX Ψ5 (_ :: _) = K
        simp_arith only [listAt_new, set_new]
        refine ⟨⟨_, listAt_new⟩, by lia, ?_⟩
        subst hK
        simp_arith only [X_lit]
        have e : ∀ l : List Row, rows ++ (⟨a, min last r.2, r.1, r.2⟩ :: l).map rowV = rows ++ [.tup [.int a, .int (min last r.2), .str r.1, .int r.2]] ++ l.map rowV := fun l => by rw [List.append_assoc]; rfl
        rw [e] at q1 q2
        exact ih _ _ _ (by lia) (by rw [List.length_append, List.length_singleton]; lia) q1 q2
    · rw [if_neg hle] at q1 q2
      have := q2 rfl (some (.int a)) t7
      rw [show ([] : List Row).map rowV = [] from rfl, List.append_nil] at this
      exact this
theorem w_look : ∀ vs H Q X, C_look vs H Q X → wpFn Ψ5 f_B_look vs H Q X := by
  rintro vs H Q X ⟨k, v, ps, hs, qs, hours, lo, last, b, S, hh, h2, q⟩
  refine fn_of rfl ?_
  change wpSs Ψ5 f_B_look.body [some (.ref k.b), some v, some (.int hours), some (.int lo), some (.int last), some (.int b), none, none, none, none, none] H _ _
  refine zs_cons ?_
  generalize hK : sqX Ψ5 (_ :: _) = K
  simp_arith only [X_lit]
  subst hK
  refine zs_cons ?_
  rw [Z_while]
  unfold lookF at q
  refine ⟨(last + 1 - lo).toNat + 1, lo_loop S hh _ lo [] _ (by lia) (by show 0 + _ ≤ _; lia) (fun a' h L' => ?_) (fun h t3 t7 => ?_)⟩
  · rw [h] at q; exact q
  · rw [h] at q
    simp_arith only [X_lit]
    exact q
noncomputable def Ψ6 : Orc := ext (Str.ofString "Book." ++ Str.ofString "look") C_look Ψ5
theorem P6_na : Ψ6 (Str.ofString "Book." ++ Str.ofString "need_all") = C_need_all := rfl
theorem P6_ns : Ψ6 "need_stretch" = C_need_stretch := rfl
theorem P6_lo : Ψ6 (Str.ofString "Book." ++ Str.ofString "look") = C_look := rfl
structure Ask (H : Hp) (k : Bk) (n : Nat) (ps : List Prs) (hs : List Mtg) (qs : List Prs) (hours lo hi : Int) : Prop where
  some : Some' H k n ps hs qs
  ne : qs ≠ []
  nd : (qs.map Prs.nm).Nodup
  hh : sizeOk1 hours
  h1 : hourOk lo
  h2 : hourOk hi
  h3 : lo ≤ hi
  h4 : hi ≤ lo + 10000
inductive IC_first (H : Hp) (Q : V → Hp → Prop) : List V → Prop where
  | mk (k : Bk) (n : Nat) (ps : List Prs) (hs : List Mtg) (qs : List Prs) (hours : Int) (lo : Int) (hi : Int) : (Ask H k n ps hs qs hours lo hi) → (Q (.tup [intO (lookF 0 hs qs hours lo (hi - hours)).1, .ref H.length]) (H ++ [.list ((lookF 0 hs qs hours lo (hi - hours)).2.map rowV)])) → IC_first H Q ([.ref k.b, .ref n, .int hours, .int lo, .int hi])
noncomputable def C_first : Ctr := fun vs H Q _ => IC_first H Q vs
theorem w_first : ∀ vs H Q X, C_first vs H Q X → wpFn Ψ6 f_B_first vs H Q X := by
  rintro vs H Q X ⟨k, n, ps, hs, qs, hours, lo, hi, ⟨S, hne, hn, hh, h1, h2, h3, h4⟩, q⟩
  refine fn_of rfl ?_
  have e1 := hh.1
  have hns := S.book.ns
  simp_arith only [f_B_first, initL, List.map_cons, List.map_nil, List.replicate, List.cons_append, List.nil_append, hns, ↓P6_na]
  refine ⟨k, n, ps, hs, qs, S, hne, hn, ?_⟩
  simp_arith only [↓P6_ns]
  refine ⟨hours, lo, hi, hh, h1, h2, h3, h4, ?_⟩
  simp_arith only [hns, ↓P6_lo]
  exact ⟨k, .ref n, ps, hs, qs, hours, lo, hi - hours, 0, S.som, hh, by lia, q⟩
noncomputable def Ψ7 : Orc := ext (Str.ofString "Book." ++ Str.ofString "first") C_first Ψ6
theorem P7_fi : Ψ7 (Str.ofString "Book." ++ Str.ofString "first") = C_first := rfl
structure BkNe (k : Bk) : Prop where
  bj : k.b ≠ k.j
  bn : k.b ≠ k.n
  bh : k.b ≠ k.h
  bd : k.b ≠ k.d
  be : k.b ≠ k.e
  jn : k.j ≠ k.n
  jh : k.j ≠ k.h
  jd : k.j ≠ k.d
  je : k.j ≠ k.e
  nh : k.n ≠ k.h
  nd : k.n ≠ k.d
  ne : k.n ≠ k.e
  hd : k.h ≠ k.d
  he : k.h ≠ k.e
  de : k.d ≠ k.e
  ls : ∀ i ∈ k.fl ++ k.ul, i ≠ k.b ∧ i ≠ k.j ∧ i ≠ k.n ∧ i ≠ k.h ∧ i ≠ k.d ∧ i ≠ k.e
  ll : (k.fl ++ k.ul).Nodup
theorem bkNe {k : Bk} (h : k.foot.Nodup) : BkNe k := by
  obtain ⟨h1, h⟩ := List.nodup_cons.mp h
  obtain ⟨h2, h⟩ := List.nodup_cons.mp h
  obtain ⟨h3, h⟩ := List.nodup_cons.mp h
  obtain ⟨h4, h⟩ := List.nodup_cons.mp h
  obtain ⟨h5, h⟩ := List.nodup_cons.mp h
  obtain ⟨h6, h⟩ := List.nodup_cons.mp h
  rw [List.mem_cons, List.mem_cons, List.mem_cons, List.mem_cons, List.mem_cons, not_or, not_or, not_or, not_or, not_or] at h1
  rw [List.mem_cons, List.mem_cons, List.mem_cons, List.mem_cons, not_or, not_or, not_or, not_or] at h2
  rw [List.mem_cons, List.mem_cons, List.mem_cons, not_or, not_or, not_or] at h3
  rw [List.mem_cons, List.mem_cons, not_or, not_or] at h4
  rw [List.mem_cons, not_or] at h5
  exact ⟨h1.1, h1.2.1, h1.2.2.1, h1.2.2.2.1, h1.2.2.2.2.1, h2.1, h2.2.1, h2.2.2.1, h2.2.2.2.1, h3.1, h3.2.1, h3.2.2.1, h4.1, h4.2.1, h5.1, fun i hi => ⟨fun q => h1.2.2.2.2.2 (q ▸ hi), fun q => h2.2.2.2.2 (q ▸ hi), fun q => h3.2.2.2 (q ▸ hi), fun q => h4.2.2 (q ▸ hi), fun q => h5.2 (q ▸ hi), fun q => h6 (q ▸ hi)⟩, h⟩
theorem nsAt_set {H : Hp} {b j : Nat} {fs gs : List (Str × V)} (h : nsAt H b = some (j, fs)) (hb : b ≠ j) : nsAt (H.set j (.ns gs)) b = some (j, gs) := by
  obtain ⟨h1, h2⟩ := nsAt_some h
  unfold nsAt
  rw [List.getElem?_set_ne (Ne.symm hb), h1]
  show (((H.set j (.ns gs))[j]?).bind nsO).map _ = _
  rw [List.getElem?_set_self (get_lt h2)]; rfl
theorem listAt_set {H : Hp} {n : Nat} {l m : List V} (h : listAt H n = some l) : listAt (H.set n (.list m)) n = some m := by
  refine e1_2 (Option.bind_eq_some_iff.mp h) fun o e _ => ?_
  unfold listAt
  rw [List.getElem?_set_self (get_lt e)]; rfl
theorem listAt_set_ne {H : Hp} {n m : Nat} {o : O} (h : n ≠ m) : listAt (H.set n o) m = listAt H m := by
  unfold listAt; rw [List.getElem?_set_ne h]
noncomputable def gN : Str := Str.ofString "given"
theorem lk_g {v : V} {fs : List (Str × V)} : List.lookup (Str.ofString "given") ((Str.ofString "given", v) :: fs) = some v := by rw [List.lookup_cons, beq_self_eq_true]
theorem lk_n {x : Str} {v : V} {fs : List (Str × V)} (h : (x == Str.ofString "given") = false) : List.lookup x ((Str.ofString "given", v) :: fs) = fs.lookup x := by rw [List.lookup_cons, h]
theorem g_n : (Str.ofString "names" == Str.ofString "given") = false := by decide
theorem g_h : (Str.ofString "held" == Str.ofString "given") = false := by decide
theorem g_f : (Str.ofString "free_rules" == Str.ofString "given") = false := by decide
theorem g_b : (Str.ofString "busy_rules" == Str.ofString "given") = false := by decide
inductive IC_meet (H : Hp) (Q : V → Hp → Prop) : List V → Prop where
  | mk (k : Bk) (n : Nat) (ps : List Prs) (hs : List Mtg) (qs : List Prs) (hours : Int) (lo : Int) (hi : Int) : (Ask H k n ps hs qs hours lo hi) → (n ∉ k.foot) → (hs.length ≤ 1000) → (k.c ≤ 1000) → (((lookF 0 hs qs hours lo (hi - hours)).1 = none → ∀ H', H <+: H' → Q .none H')) → (∀ (k' : Bk) (a : Int) (H' : Hp), (lookF 0 hs qs hours lo (hi - hours)).1 = some a → Fr k.foot H H' → k'.foot = k.foot → k'.b = k.b → k'.g = k.g + 1 → k'.c = k.c + 1 → BkAt H' k' ps (hs ++ [⟨k.g + 1, a, hours, qs.map Prs.nm⟩]) → Q (.tup [.int (k.g + 1), .int a]) H') → IC_meet H Q ([.ref k.b, .ref n, .int hours, .int lo, .int hi])
noncomputable def C_meet : Ctr := fun vs H Q _ => IC_meet H Q vs
theorem w_meet : ∀ vs H Q X, C_meet vs H Q X → wpFn Ψ7 f_B_meet vs H Q X := by
  rintro vs H Q X ⟨k, n, ps, hs, qs, hours, lo, hi, A, hn, hz, hc, q1, q2⟩
  refine fn_of rfl ?_
  change wpSs Ψ7 f_B_meet.body [some (.ref k.b), some (.ref n), some (.int hours), some (.int lo), some (.int hi), none, none, none, none] H _ _
  refine zs_cons ?_
  generalize hK : sqX Ψ7 (_ :: _) = K
  simp_arith only [A.some.book.ns, ↓P7_fi]
  refine ⟨k, n, ps, hs, qs, hours, lo, hi, A, ?_⟩
  generalize (lookF 0 hs qs hours lo (hi - hours)).2.map rowV = rows
  generalize (lookF 0 hs qs hours lo (hi - hours)).1 = o at q1 q2 ⊢
  simp_arith only [X_lit]
  subst hK
  have B := A.some.book.pre (pre_new (o := .list rows))
  have hl := listAt_pre (pre_new (o := .list rows)) A.some.list
  have fr1 : Fr k.foot H (H ++ [.list rows]) := Fr.pre pre_new
  have p1 : H <+: H ++ [.list rows] := pre_new
  generalize H ++ [O.list rows] = H1 at *
  refine zs_cons ?_
  generalize hK : sqX Ψ7 (_ :: _) = K
  cases o with
  | none =>
    simp_arith only [isNoneV, intO]
    subst hK
    exact q1 rfl _ p1
  | some a =>
  simp_arith only [isNoneV, intO]
  subst hK
  have N := bkNe B.nd
  have hb := B.z
  refine zs_cons ?_
  generalize hK : sqX Ψ7 (_ :: _) = K
  simp_arith only [B.ns, B.fG]
  refine ⟨by lia, ?_⟩
  subst hK
  have ns2 := nsAt_set (gs := (Str.ofString "given", .int (k.g + 1)) :: k.fs) B.ns N.bj
  have f2 : Fr [k.j] H1 (H1.set k.j (.ns ((Str.ofString "given", .int (k.g + 1)) :: k.fs))) := Fr.set
  generalize hH2 : H1.set k.j (.ns ((Str.ofString "given", .int (k.g + 1)) :: k.fs)) = H2 at *
  have lh2 := f2.list (nin1 (Ne.symm N.jh)) B.lh
  have ln2 := f2.list (nin1 (fun q => hn (by rw [q]; exact ft_j))) hl
  refine zs_cons ?_
  generalize hK : sqX Ψ7 (_ :: _) = K
  simp_arith only [ns2, lk_n g_h, lk_g, B.fH, lh2, ln2]
  refine ⟨⟨_, lh2⟩, by rw [List.length_map]; lia, ?_⟩
  subst hK
  have f3 : Fr [k.h] H2 (H2.set k.h (.list (hs.map mtv ++ [.tup [.int (k.g + 1), .int a, .int hours, .tup (qs.map fun p => .str p.nm)]]))) := Fr.set
  have ns3 := f3.ns (nin1 N.bh) (nin1 N.jh) ns2
  have lh3 : listAt (H2.set k.h (.list (hs.map mtv ++ [.tup [.int (k.g + 1), .int a, .int hours, .tup (qs.map fun p => .str p.nm)]]))) k.h = some _ := listAt_set lh2
  generalize H2.set k.h (.list (hs.map mtv ++ [.tup [.int (k.g + 1), .int a, .int hours, .tup (qs.map fun p => .str p.nm)]])) = H3 at *
  simp_arith only [ns3, lk_g]
  refine q2 { k with fs := (Str.ofString "given", .int (k.g + 1)) :: k.fs, g := k.g + 1, c := k.c + 1 } a H3 rfl ((fr1.trans f2 fun i hi => .inl (by rw [List.mem_singleton.mp hi]; exact ft_j)).trans f3 fun i hi => .inl (by rw [List.mem_singleton.mp hi]; exact ft_h)) rfl rfl rfl rfl ?_
  have tl : ∀ {i l}, i ≠ k.j → i ≠ k.h → listAt H1 i = some l → listAt H3 i = some l := fun h1 h2 h => f3.list (nin1 h2) (f2.list (nin1 h1) h)
  have td : ∀ {i l}, i ≠ k.j → i ≠ k.h → dictAt H1 i = some l → dictAt H3 i = some l := fun h1 h2 h => f3.dict (nin1 h2) (f2.dict (nin1 h1) h)
  have g0 := B.g0
  refine ⟨B.nd, ns3, (lk_n g_n).trans B.fN, (lk_n g_h).trans B.fH, (lk_n g_f).trans B.fF, (lk_n g_b).trans B.fB, lk_g, tl (Ne.symm N.jn) N.nh B.ln, ?_, td (Ne.symm N.jd) (Ne.symm N.hd) B.dd, td (Ne.symm N.je) (Ne.symm N.he) B.de, (B.rf.fr f2 fun i hi => nin1 (N.ls i (List.mem_append_left _ hi)).2.1).fr f3 fun i hi => nin1 (N.ls i (List.mem_append_left _ hi)).2.2.2.1,
    (B.ru.fr f2 fun i hi => nin1 (N.ls i (List.mem_append_right _ hi)).2.1).fr f3 fun i hi => nin1 (N.ls i (List.mem_append_right _ hi)).2.2.2.1, by show 0 ≤ k.g + 1; lia, fun m hm => ?_, ?_, Nat.succ_le_succ B.z, B.ze, B.zu⟩
  · rw [lh3, List.map_append, nm_map]; rfl
  · rcases List.mem_append.mp hm with h | h
    · have := B.no m h; exact ⟨this.1, by show m.no ≤ k.g + 1; lia⟩
    · rw [List.mem_singleton.mp h]; show 0 < k.g + 1 ∧ k.g + 1 ≤ k.g + 1; lia
  · rw [List.map_append]
    refine List.nodup_append.mpr ⟨B.nu, List.nodup_cons.mpr ⟨List.not_mem_nil, List.nodup_nil⟩, fun x hx y hy => ?_⟩
    refine e1_2 (List.mem_map.mp hx) fun m hm e_239 => ?_
    obtain rfl := e_239
    rw [List.mem_singleton.mp hy]
    have := B.no m hm
    show m.no ≠ k.g + 1; lia
noncomputable def Ψ8 : Orc := ext (Str.ofString "Book." ++ Str.ofString "meet") C_meet Ψ7
end Mine
namespace Mine
open PySem
theorem get_off {H X : Hp} {k : Nat} : (H ++ X)[H.length + k]? = X[k]? := by
  rw [List.getElem?_append_right (Nat.le_add_right _ _), Nat.add_sub_cancel_left]
theorem get_off0 {H X : Hp} : (H ++ X)[H.length]? = X[0]? := get_off (k := 0)
theorem set_off {H X : Hp} {k : Nat} {o : O} : (H ++ X).set (H.length + k) o = H ++ X.set k o := by
  rw [List.set_append_right _ _ (Nat.le_add_right _ _), Nat.add_sub_cancel_left]
theorem set_off0 {H X : Hp} {o : O} : (H ++ X).set H.length o = H ++ X.set 0 o := set_off (k := 0)
theorem list_off {H X : Hp} {k : Nat} : listAt (H ++ X) (H.length + k) = listAt X k := by unfold listAt; rw [get_off]
theorem dict_off {H X : Hp} {k : Nat} : dictAt (H ++ X) (H.length + k) = dictAt X k := by unfold dictAt; rw [get_off]
theorem ns_off {H X : Hp} {fs : List (Str × V)} : nsAt (H ++ (.ns fs :: .inst H.length :: X)) (H.length + 1) = some (H.length, fs) := by
  unfold nsAt
  rw [get_off]
  show (((H ++ _)[H.length]?).bind nsO).map _ = _
  rw [get_off0]; rfl
noncomputable def bkF (n : Nat) : List (Str × V) := [(Str.ofString "given", .int 0), (Str.ofString "held", .ref (n + 5)), (Str.ofString "busy_rules", .ref (n + 4)), (Str.ofString "free_rules", .ref (n + 3)), (Str.ofString "names", .ref (n + 2))]
noncomputable def bk0 (n : Nat) : Bk := ⟨n + 1, n, n + 2, n + 5, n + 3, n + 4, bkF n, [], [], [], [], 0, 5⟩
theorem foot0 (n : Nat) : (bk0 n).foot = [1, 0, 2, 5, 3, 4].map (n + ·) := rfl
theorem bk0_at {H : Hp} : BkAt (H ++ [.ns (bkF H.length), .inst H.length, .list [], .dict [], .dict [], .list []]) (bk0 H.length) [] [] := by
  refine ⟨?_, ns_off, by rfl, by rfl, by rfl, by rfl, by rfl, list_off, list_off, dict_off, dict_off, rfl, rfl, Int.le_refl _, fun _ h => (nomatch h), List.nodup_nil, Nat.le_refl _, rfl, rfl⟩
  rw [foot0]
  exact List.Pairwise.map (H.length + ·) (fun a b h q => h (Nat.add_left_cancel q)) (show [1, 0, 2, 5, 3, 4].Nodup by decide)
noncomputable def C_init : Ctr := fun vs H Q _ => ∃ H0 : Hp, vs = [.ref (H0.length + 1)] ∧ H = H0 ++ [.ns []] ++ [.inst H0.length] ∧ ∀ (H' : Hp) (k : Bk), H0 <+: H' → k.b = H0.length + 1 → k.g = 0 → k.c = 5 → (∀ i ∈ k.foot, H0.length ≤ i) → BkAt H' k [] [] → Q .none H'
theorem w_init : ∀ vs H Q X, C_init vs H Q X → wpFn Ψ8 f_B___init__ vs H Q X := by
  rintro vs H Q X ⟨H0, rfl, rfl, q⟩
  refine fn_of rfl ?_
  simp_arith only [f_B___init__, initL, List.map_cons, List.map_nil, List.replicate, List.cons_append, List.nil_append, List.append_assoc, List.length_append, ns_off, set_off0]
  exact q _ (bk0 H0.length) (List.prefix_append _ _) rfl rfl rfl (fun i hi => by rw [foot0] at hi; obtain ⟨j, _, rfl⟩ := List.mem_map.mp hi; exact Nat.le_add_right _ _) bk0_at
noncomputable def Ψ9 : Orc := ext "Book.__init__" C_init Ψ8
theorem P9_in : Ψ9 "is_name" = C_is_name := rfl
theorem P9_ir : Ψ9 "is_rule" = C_is_rule := rfl
theorem dictAt_lt {H : Hp} {i : Nat} {l : List (Str × V)} (h : dictAt H i = some l) : i < H.length := by
  refine e1_2 (Option.bind_eq_some_iff.mp h) fun o e _ => ?_
  exact get_lt e
theorem dictAt_set {H : Hp} {n : Nat} {l m : List (Str × V)} (h : dictAt H n = some l) : dictAt (H.set n (.dict m)) n = some m := by
  unfold dictAt
  rw [List.getElem?_set_self (dictAt_lt h)]; rfl
theorem RlAt.lt {H : Hp} {es : List (Str × V)} {f : Prs → List Rl} : ∀ {ps : List Prs} {is : List Nat}, RlAt H es f ps is → ∀ i ∈ is, i < H.length
  | [], _, h, i, hi => by rw [show _ = [] from h] at hi; exact nomatch hi
  | _ :: _, _, ⟨i, js, e, h1, h2, r⟩, j, hj => by
    rw [e] at hj
    rcases List.mem_cons.mp hj with q | q
    · rw [q]; exact listAt_lt h2
    · exact r.lt j q
theorem BkAt.lt {H : Hp} {k : Bk} {ps : List Prs} {hs : List Mtg} (B : BkAt H k ps hs) : ∀ i ∈ k.foot, i < H.length := fun i hi => by
  obtain ⟨h1, h2⟩ := nsAt_some B.ns
  rcases List.mem_cons.mp hi with q | hi
  · rw [q]; exact get_lt h1
  rcases List.mem_cons.mp hi with q | hi
  · rw [q]; exact get_lt h2
  rcases List.mem_cons.mp hi with q | hi
  · rw [q]; exact listAt_lt B.ln
  rcases List.mem_cons.mp hi with q | hi
  · rw [q]; exact listAt_lt B.lh
  rcases List.mem_cons.mp hi with q | hi
  · rw [q]; exact dictAt_lt B.dd
  rcases List.mem_cons.mp hi with q | hi
  · rw [q]; exact dictAt_lt B.de
  rcases List.mem_append.mp hi with q | q
  · exact B.rf.lt i q
  · exact B.ru.lt i q
theorem RlAt.app {H : Hp} {es : List (Str × V)} {f : Prs → List Rl} {p : Prs} {i : Nat} (h1 : es.lookup p.nm = some (.ref i)) (h2 : listAt H i = some ((f p).map rv)) : ∀ {ps : List Prs} {is : List Nat}, RlAt H es f ps is → RlAt H es f (ps ++ [p]) (is ++ [i])
  | [], is, h => by obtain rfl := h; exact ⟨i, [], rfl, h1, h2, rfl⟩
  | _ :: _, _, ⟨j, js, e, k1, k2, r⟩ => ⟨j, js ++ [i], by rw [e]; rfl, k1, k2, r.app h1 h2⟩
theorem RlAt.new {H : Hp} {es : List (Str × V)} {f : Prs → List Rl} {x : Str} {v : V} : ∀ {ps : List Prs} {is : List Nat}, x ∉ ps.map Prs.nm → RlAt H es f ps is → RlAt H ((x, v) :: es) f ps is
  | [], _, _, h => h
  | a :: ps, _, hx, ⟨j, js, e, k1, k2, r⟩ => by
    rw [List.map_cons, List.mem_cons, not_or] at hx
    exact ⟨j, js, e, by rw [List.lookup_cons, beq_eq_false_iff_ne.mpr (Ne.symm hx.1)]; exact k1, k2, r.new hx.2⟩
inductive IC_come (H : Hp) (Q : V → Hp → Prop) : List V → Prop where
  | mk (k : Bk) (ps : List Prs) (hs : List Mtg) (nm : Str) (i : Nat) (rs : List Rl) : (BkAt H k ps hs) → (listAt H i = some (rs.map rv)) → (i ∉ k.foot) → (nameOk nm) → (nm ∉ ps.map Prs.nm) → (rs.length ≤ 20) → ((∀ r ∈ rs, r.fine)) → (ps.length ≤ 1000) → (∀ (H' : Hp) (k' : Bk), Fr k.foot H H' → k'.b = k.b → k'.g = k.g → k'.c = k.c → (∀ i ∈ k'.foot, i ∈ k.foot ∨ H.length ≤ i) → BkAt H' k' (ps ++ [⟨nm, rs, []⟩]) hs → Q .none H') → IC_come H Q ([.ref k.b, .str nm, .ref i])
noncomputable def C_come : Ctr := fun vs H Q _ => IC_come H Q vs
theorem ru_loop {XF : XS} {v0 v1 v2 : V} {t4 t5 t6 : Option V} {H : Hp} {Q : QS} {st : Hp → Prop} (hst : st H) : ∀ (rs : List Rl) (t3 : Option V), (∀ r ∈ rs, r.fine) → (∀ t3', Q .next [some v0, some v1, some v2, t3', t4, t5, t6] H) →
    forGo (whBX Ψ9 [(.ite (.not (.call (.fn "is_rule") [(.loc 3)])) [.fail] [])] XF) st 3 (rs.map rv) [some v0, some v1, some v2, t3, t4, t5, t6] H Q := by
  intro rs
  induction rs with
  | nil => intro t3 _ q; exact q _
  | cons r rs ih =>
    intro t3 hf q
    rw [List.map_cons, foX_cons]
    simp_arith only [↓P9_ir]
    refine ⟨r, rfl, hf r List.mem_cons_self, ?_⟩
    simp_arith only [X_lit]
    exact ⟨hst, ih _ (fun r h => hf r (List.mem_cons_of_mem _ h)) q⟩
theorem nin3 {i x y z : Nat} (h1 : i ≠ x) (h2 : i ≠ y) (h3 : i ≠ z) : i ∉ [x, y, z] := fun q => by
  rcases List.mem_cons.mp q with q | q
  · exact h1 q
  rcases List.mem_cons.mp q with q | q
  · exact h2 q
  exact h3 (List.mem_singleton.mp q)
theorem nodup_mid {A B C : List Nat} {m x : Nat} (hx : x = m) (h : (A ++ (B ++ C)).Nodup) (hl : ∀ i ∈ A ++ (B ++ C), i < m) : (A ++ ((B ++ [x]) ++ (C ++ [x + 1]))).Nodup := by
  have p : (A ++ ((B ++ [x]) ++ (C ++ [x + 1]))).Perm ((A ++ (B ++ C)) ++ [x, x + 1]) := by
    rw [List.append_assoc A]
    refine List.Perm.append_left A ?_
    rw [List.append_assoc, List.append_assoc]
    refine List.Perm.append_left B ?_
    rw [← List.append_assoc [x] C [x + 1], show [x, x + 1] = [x] ++ [x + 1] from rfl, ← List.append_assoc C [x] [x + 1]]
    exact List.Perm.append_right _ List.perm_append_comm
  refine p.symm.nodup ?_
  refine List.nodup_append.mpr ⟨h, ?_, fun a ha b hb q => ?_⟩
  · exact List.nodup_cons.mpr ⟨fun q => by have := List.mem_singleton.mp q; lia, List.nodup_cons.mpr ⟨List.not_mem_nil, List.nodup_nil⟩⟩
  · have := hl a ha
    rcases List.mem_cons.mp hb with q' | q'
    · lia
    · have := List.mem_singleton.mp q'; lia
theorem w_come : ∀ vs H Q X, C_come vs H Q X → wpFn Ψ9 f_B_come vs H Q X := by
  rintro vs H Q X ⟨k, ps, hs, nm, i, rs, B, hl, hi, hnm, hni, hz, hf, hps, q⟩
  refine fn_of rfl ?_
  have N := bkNe B.nd
  have hc : (ps.map Prs.nm).contains nm = false := by
    cases h : (ps.map Prs.nm).contains nm with
    | false => rfl
    | true => exact absurd (List.contains_iff_mem.mp h) hni
  have h3 := B.ln
  rw [nm_map] at h3
  change wpSs Ψ9 f_B_come.body [some (.ref k.b), some (.str nm), some (.ref i), none, none, none, none] _ _ _
  refine zs_cons ?_
  generalize hK : sqX Ψ9 (_ :: _) = K
  simp_arith only [↓P9_in]
  refine ⟨nm, rfl, hnm, ?_⟩
  simp_arith only [X_lit]
  subst hK
  refine zs_cons ?_
  generalize hK : sqX Ψ9 (_ :: _) = K
  simp_arith only [B.ns, B.fN, h3, mem_strs, hc]
  subst hK
  refine zs_cons ?_
  generalize hK : sqX Ψ9 (_ :: _) = K
  simp_arith only [hl, List.length_map]
  refine ⟨fun h => absurd h (by lia), fun _ => ?_⟩
  subst hK
  refine zs_cons ?_
  generalize hK : sqX Ψ9 (_ :: _) = K
  simp_arith only [hl]
  subst hK
  refine ru_loop hl rs _ hf fun t3' => ?_
  refine zs_cons ?_
  generalize hK : sqX Ψ9 (_ :: _) = K
  simp_arith only [B.ns, B.fN, B.ln]
  refine ⟨⟨_, B.ln⟩, by rw [List.length_map]; lia, ?_⟩
  subst hK
  have f1 : Fr [k.n] H (H.set k.n (.list ((ps.map fun p => V.str p.nm) ++ [.str nm]))) := Fr.set
  have ln1 : listAt (H.set k.n (.list ((ps.map fun p => V.str p.nm) ++ [.str nm]))) k.n = some ((ps.map fun p => V.str p.nm) ++ [.str nm]) := listAt_set B.ln
  have e1 : (H.set k.n (.list ((ps.map fun p => V.str p.nm) ++ [.str nm]))).length = H.length := List.length_set
  generalize H.set k.n (.list ((ps.map fun p => V.str p.nm) ++ [.str nm])) = H1 at *
  have hl1 := f1.list (nin1 (i := i) fun q => hi (by rw [q]; exact ft_n)) hl
  have f2 : Fr [k.n] H (H1 ++ [.list (rs.map rv)]) := f1.trans (Fr.pre (F := []) pre_new) fun _ h => nomatch h
  have ln2 := listAt_pre (pre_new (o := .list (rs.map rv))) ln1
  have lx2 := listAt_new (H := H1) (l := rs.map rv)
  have e2 : (H1 ++ [O.list (rs.map rv)]).length = H.length + 1 := by rw [List.length_append, e1]; rfl
  have ns2 := f2.ns (nin1 N.bn) (nin1 N.jn) B.ns
  have dd2 := f2.dict (nin1 (Ne.symm N.nd)) B.dd
  refine zs_cons ?_
  generalize hK : sqX Ψ9 (_ :: _) = K
  have ze := B.ze
  have zu := B.zu
  simp_arith only [hl1, ns2, B.fF, dd2]
  refine ⟨by lia, ?_⟩
  subst hK
  rw [e1] at lx2 ⊢
  generalize H1 ++ [O.list (rs.map rv)] = H2 at *
  have f3 : Fr [k.d] H2 (H2.set k.d (.dict ((nm, .ref H.length) :: k.es))) := Fr.set
  have dd3 : dictAt (H2.set k.d (.dict ((nm, .ref H.length) :: k.es))) k.d = some ((nm, .ref H.length) :: k.es) := dictAt_set dd2
  have e3 : (H2.set k.d (.dict ((nm, .ref H.length) :: k.es))).length = H.length + 1 := List.length_set.trans e2
  generalize H2.set k.d (.dict ((nm, .ref H.length) :: k.es)) = H3 at *
  have f4 : Fr [k.d] H2 (H3 ++ [.list []]) := f3.trans (Fr.pre (F := []) pre_new) fun _ h => nomatch h
  have dd4 : dictAt (H3 ++ [.list []]) k.d = some ((nm, .ref H.length) :: k.es) := (Fr.pre (F := []) pre_new).dict (fun h => nomatch h) dd3
  have ns4 := f4.ns (nin1 N.bd) (nin1 N.jd) ns2
  have de4 := f4.dict (nin1 (Ne.symm N.de)) (f2.dict (nin1 (Ne.symm N.ne)) B.de)
  have ly4 := listAt_new (H := H3) (l := [])
  have lt := B.lt
  have ld := lt _ ft_d
  have le := lt _ ft_e
  have lx4 := f4.list (nin1 (show H.length ≠ k.d by lia)) lx2
  have ln4 := f4.list (nin1 N.nd) ln2
  refine zs_cons ?_
  generalize hK : sqX Ψ9 [] = K
  simp_arith only [ns4, B.fB, de4]
  refine ⟨by lia, ?_⟩
  subst hK
  rw [e3] at ly4 ⊢
  have e4 : (H3 ++ [O.list []]).length = H.length + 2 := by rw [List.length_append, e3]; rfl
  generalize H3 ++ [O.list []] = H4 at *
  have f5 : Fr [k.e] H4 (H4.set k.e (.dict ((nm, .ref (H.length + 1)) :: k.us))) := Fr.set
  have de5 : dictAt (H4.set k.e (.dict ((nm, .ref (H.length + 1)) :: k.us))) k.e = some ((nm, .ref (H.length + 1)) :: k.us) := dictAt_set de4
  generalize H4.set k.e (.dict ((nm, .ref (H.length + 1)) :: k.us)) = H5 at *
  have FF : Fr [k.n, k.d, k.e] H H5 := ((f2.mono (G := [k.n, k.d, k.e]) fun i hi => .inl (by rw [List.mem_singleton.mp hi]; exact .head _)).trans f4 fun i hi => .inl (by rw [List.mem_singleton.mp hi]; exact .tail _ (.head _))).trans f5 fun i hi => .inl (by rw [List.mem_singleton.mp hi]; exact .tail _ (.tail _ (.head _)))
  have ls : ∀ j ∈ k.fl ++ k.ul, j ∉ [k.n, k.d, k.e] := fun j hj => let ⟨_, _, a, _, b, c⟩ := N.ls j hj; nin3 a b c
  refine q H5 { k with es := (nm, .ref H.length) :: k.es, us := (nm, .ref (H.length + 1)) :: k.us, fl := k.fl ++ [H.length], ul := k.ul ++ [H.length + 1] } (FF.mono fun j hj => .inl ?_) rfl rfl rfl (fun j hj => ?_) ?_
  · rcases List.mem_cons.mp hj with h | hj
    · rw [h]; exact ft_n
    rcases List.mem_cons.mp hj with h | hj
    · rw [h]; exact ft_d
    rw [List.mem_singleton.mp hj]; exact ft_e
  · have hj : j ∈ [k.b, k.j, k.n, k.h, k.d, k.e] ++ ((k.fl ++ [H.length]) ++ (k.ul ++ [H.length + 1])) := hj
    rcases List.mem_append.mp hj with h | h
    · exact .inl (show j ∈ [k.b, k.j, k.n, k.h, k.d, k.e] ++ (k.fl ++ k.ul) from List.mem_append_left _ h)
    rcases List.mem_append.mp h with h | h
    · rcases List.mem_append.mp h with h | h
      · exact .inl (ft_fl h)
      · rw [List.mem_singleton.mp h]; exact .inr (Nat.le_refl _)
    · rcases List.mem_append.mp h with h | h
      · exact .inl (ft_ul h)
      · rw [List.mem_singleton.mp h]; exact .inr (Nat.le_succ _)
  · refine ⟨nodup_mid (A := [k.b, k.j, k.n, k.h, k.d, k.e]) rfl B.nd lt, FF.ns (nin3 N.bn N.bd N.be) (nin3 N.jn N.jd N.je) B.ns, B.fN, B.fH, B.fF, B.fB, B.fG, ?_, FF.list (nin3 (Ne.symm N.nh) N.hd N.he) B.lh, f5.dict (nin1 N.de) dd4, de5, ?_, ?_, B.g0, B.no, B.nu, B.z, congrArg (· + 1) ze |>.trans ?_, congrArg (· + 1) zu |>.trans ?_⟩
    · rw [f5.list (nin1 N.ne) ln4, List.map_append]; rfl
    · exact ((B.rf.fr FF fun j hj => ls j (List.mem_append_left _ hj)).new hni).app (p := ⟨nm, rs, []⟩) (by rw [List.lookup_cons, beq_self_eq_true]) (f5.list (nin1 (by lia)) lx4)
    · exact ((B.ru.fr FF fun j hj => ls j (List.mem_append_right _ hj)).new hni).app (p := ⟨nm, rs, []⟩) (by rw [List.lookup_cons, beq_self_eq_true]) (f5.list (nin1 (by lia)) ly4)
    · rw [List.length_append]; rfl
    · rw [List.length_append]; rfl
noncomputable def Ψa : Orc := ext (Str.ofString "Book." ++ Str.ofString "come") C_come Ψ9
theorem Pa_ns : Ψa (Str.ofString "Book." ++ Str.ofString "need_somebody") = C_need_somebody := rfl
theorem Pa_ir : Ψa "is_rule" = C_is_rule := rfl
theorem Pa_co : Ψa "covers" = C_covers := rfl
theorem RlAt.mid {H : Hp} {es : List (Str × V)} {f : Prs → List Rl} {p : Prs} {qs : List Prs} : ∀ {ps : List Prs} {is : List Nat}, RlAt H es f (ps ++ p :: qs) is → ∃ js i ks, is = js ++ i :: ks ∧ RlAt H es f ps js ∧ es.lookup p.nm = some (.ref i) ∧ listAt H i = some ((f p).map rv) ∧ RlAt H es f qs ks
  | [], _, ⟨j, js, e, k1, k2, r⟩ => ⟨[], j, js, e, rfl, k1, k2, r⟩
  | a :: ps, _, ⟨j, js, e, k1, k2, r⟩ => by
    obtain ⟨js', i, ks, e', r', h1, h2, h3⟩ := RlAt.mid (ps := ps) r
    exact ⟨j :: js', i, ks, by rw [e, e']; rfl, ⟨j, js', rfl, k1, k2, r'⟩, h1, h2, h3⟩
theorem RlAt.join {H : Hp} {es : List (Str × V)} {f : Prs → List Rl} {qs : List Prs} {ks : List Nat} (h : RlAt H es f qs ks) : ∀ {ps : List Prs} {is : List Nat}, RlAt H es f ps is → RlAt H es f (ps ++ qs) (is ++ ks)
  | [], is, h' => by obtain rfl := h'; exact h
  | _ :: _, _, ⟨j, js, e, k1, k2, r⟩ => ⟨j, js ++ ks, by rw [e]; rfl, k1, k2, RlAt.join h r⟩
noncomputable def noClash (hs : List Mtg) (nm : Str) (r : Rl) : Prop := ∀ m ∈ hs, m.who.contains nm = true → 0 ≤ m.hr ∧ (0 ≤ m.sz ∧ m.sz ≤ 48) ∧ ∀ j, 0 ≤ j → j < m.sz → cov r (m.hr + j) = false
inductive IC_busy (H : Hp) (Q : V → Hp → Prop) : List V → Prop where
  | mk (k : Bk) (ps : List Prs) (qs : List Prs) (p : Prs) (hs : List Mtg) (r : Rl) : (BkAt H k (ps ++ p :: qs) hs) → (r.fine) → (p.bu.length < 20) → (noClash hs p.nm r) → (∀ H', Fr k.ul H H' → BkAt H' k (ps ++ ⟨p.nm, p.fr, p.bu ++ [r]⟩ :: qs) hs → Q .none H') → IC_busy H Q ([.ref k.b, .str p.nm, rv r])
noncomputable def C_busy : Ctr := fun vs H Q _ => IC_busy H Q vs
noncomputable abbrev b2B : List IS := [(.ite (.call (.fn "covers") [(.loc 2), (.bin .Add (.sub (.loc 3) (.lit (.int 1))) (.loc 4))]) [.fail] [])]
noncomputable abbrev b1B : List IS := [(.ite (.cmp (.loc 1) .In (.sub (.loc 3) (.lit (.int 3)))) [(.for 4 .range (.sub (.loc 3) (.lit (.int 2))) b2B)] [])]
theorem b2_loop {XF : XS} {v0 v1 : V} {r : Rl} {m : Mtg} {t5 t6 t7 : Option V} {H : Hp} {Q : QS} (hf : r.fine) (h0 : 0 ≤ m.hr) : ∀ (ks : List Int) (t4 : Option V), (∀ j ∈ ks, 0 ≤ j ∧ cov r (m.hr + j) = false) → (∀ t4', Q .next [some v0, some v1, some (rv r), some (mtv m), t4', t5, t6, t7] H) →
    forGo (whBX Ψa b2B XF) (fun _ => True) 4 (ks.map V.int) [some v0, some v1, some (rv r), some (mtv m), t4, t5, t6, t7] H Q := by
  intro ks
  induction ks with
  | nil => intro t4 _ q; exact q _
  | cons j ks ih =>
    intro t4 hk q
    obtain ⟨j0, hj⟩ := hk j List.mem_cons_self
    rw [List.map_cons, foX_cons]
    rw [show mtv m = V.tup [.int m.no, .int m.hr, .int m.sz, .tup (m.who.map V.str)] from rfl]
    simp_arith only [↓Pa_co]
    refine ⟨r, m.hr + j, rfl, hf, by lia, ?_⟩
    rw [hj]
    simp_arith only [X_lit]
    exact ih _ (fun j h => hk j (List.mem_cons_of_mem _ h)) q
theorem b1_loop {XF : XS} {v0 : V} {nm : Str} {r : Rl} {t5 t6 t7 : Option V} {H : Hp} {Q : QS} {st : Hp → Prop} (hst : st H) (hf : r.fine) : ∀ (hs : List Mtg) (t3 t4 : Option V), noClash hs nm r → (∀ t3' t4', Q .next [some v0, some (.str nm), some (rv r), t3', t4', t5, t6, t7] H) →
    forGo (whBX Ψa b1B XF) st 3 (hs.map mtv) [some v0, some (.str nm), some (rv r), t3, t4, t5, t6, t7] H Q := by
  intro hs
  induction hs with
  | nil => intro t3 t4 _ q; exact q _ _
  | cons m hs ih =>
    intro t3 t4 hc q
    have hm := hc m List.mem_cons_self
    have nx : ∀ t4', st H ∧ forGo (whBX Ψa b1B XF) st 3 (hs.map mtv) [some v0, some (.str nm), some (rv r), some (mtv m), t4', t5, t6, t7] H Q := fun t4' => ⟨hst, ih _ _ (fun m h => hc m (List.mem_cons_of_mem _ h)) q⟩
    rw [List.map_cons, foX_cons]
    refine zs_cons ?_
    rw [show mtv m = V.tup [.int m.no, .int m.hr, .int m.sz, .tup (m.who.map V.str)] from rfl] at nx ⊢
    simp_arith only [mem_strs]
    refine iX_b (fun hw => ?_) (fun _ => nx _)
    refine e0_3 (hm hw) fun h0 h1 h2 => ?_
    refine ⟨by lia, ?_⟩
    rw [rangeL_J]
    exact b2_loop (m := m) hf h0 _ _ (fun j hj => ⟨(mem_rangeJ.mp hj).1, h2 j (mem_rangeJ.mp hj).1 (mem_rangeJ.mp hj).2⟩) fun t4' => nx _
theorem w_busy : ∀ vs H Q X, C_busy vs H Q X → wpFn Ψa f_B_busy vs H Q X := by
  rintro vs H Q X ⟨k, ps, qs, p, hs, r, B, hf, hz, hc, q⟩
  refine fn_of rfl ?_
  have N := bkNe B.nd
  obtain ⟨js, i, ks, e, r1, h1, h2, r2⟩ := B.ru.mid
  obtain ⟨js', i', ks', e', r1', h1', h2', r2'⟩ := B.rf.mid
  change wpSs Ψa f_B_busy.body [some (.ref k.b), some (.str p.nm), some (rv r), none, none, none, none, none] _ _ _
  refine zs_cons ?_
  generalize hK : sqX Ψa (_ :: _) = K
  simp_arith only [B.ns, ↓Pa_ns]
  refine ⟨k, ps ++ p :: qs, hs, p.nm, B, by rw [List.map_append]; exact List.mem_append_right _ (.head _), ?_⟩
  subst hK
  refine zs_cons ?_
  generalize hK : sqX Ψa (_ :: _) = K
  simp_arith only [↓Pa_ir]
  refine ⟨r, rfl, hf, ?_⟩
  simp_arith only [B.ns, B.fB, B.de, h1, h2, List.length_map]
  refine ⟨fun h => absurd h (by lia), fun _ => ?_⟩
  subst hK
  refine zs_cons ?_
  generalize hK : sqX Ψa (_ :: _) = K
  simp_arith only [B.ns, B.fH, B.lh]
  subst hK
  refine b1_loop B.lh hf hs _ _ hc fun t3' t4' => ?_
  simp_arith only [B.ns, B.fB, B.de, h1, h2]
  refine ⟨⟨_, h2⟩, by rw [List.length_map]; lia, ?_⟩
  have f : Fr [i] H (H.set i (.list (p.bu.map rv ++ [rv r]))) := Fr.set
  have l3 : listAt (H.set i (.list (p.bu.map rv ++ [rv r]))) i = some (p.bu.map rv ++ [rv r]) := listAt_set h2
  generalize H.set i (.list (p.bu.map rv ++ [rv r])) = H1 at *
  have hu : i ∈ k.ul := by rw [e]; exact List.mem_append_right _ (.head _)
  obtain ⟨nb, nj, nn, nh, nd', ne⟩ := N.ls i (List.mem_append_right _ hu)
  have nl := N.ll
  refine e0_3 (List.nodup_append.mp nl) fun _ nu ndis => ?_
  rw [e] at nu
  refine e0_3 (List.nodup_append.mp nu) fun _ nu2 nlast => ?_
  have nu3 := (List.nodup_cons.mp nu2).1
  have hfr : ∀ j ∈ k.fl, j ∉ [i] := fun j hj => nin1 (ndis j hj i hu)
  refine q H1 (f.mono fun j hj => .inl (by rw [List.mem_singleton.mp hj]; exact hu)) ⟨B.nd, f.ns (nin1 (Ne.symm nb)) (nin1 (Ne.symm nj)) B.ns, B.fN, B.fH, B.fF, B.fB, B.fG, ?_, f.list (nin1 (Ne.symm nh)) B.lh, f.dict (nin1 (Ne.symm nd')) B.dd, f.dict (nin1 (Ne.symm ne)) B.de, ?_, ?_, B.g0, B.no, B.nu, B.z, ?_, ?_⟩
  · rw [f.list (nin1 (Ne.symm nn)) B.ln, List.map_append, List.map_append]; rfl
  · rw [e'] at hfr ⊢
    exact RlAt.join (qs := ⟨p.nm, p.fr, p.bu ++ [r]⟩ :: qs) ⟨i', ks', rfl, h1', f.list (hfr i' (List.mem_append_right _ (.head _))) h2', r2'.fr f fun j hj => hfr j (List.mem_append_right _ (.tail _ hj))⟩ (r1'.fr f fun j hj => hfr j (List.mem_append_left _ hj))
  · rw [e]
    exact RlAt.join (qs := ⟨p.nm, p.fr, p.bu ++ [r]⟩ :: qs) ⟨i, ks, rfl, h1, by rw [l3, List.map_append]; rfl, r2.fr f fun j hj => nin1 fun q => nu3 (q ▸ hj)⟩ (r1.fr f fun j hj => nin1 (nlast j hj i (.head _)))
  · rw [B.ze, List.length_append, List.length_append]; rfl
  · rw [B.zu, List.length_append, List.length_append]; rfl
noncomputable def Ψb : Orc := ext (Str.ofString "Book." ++ Str.ofString "busy") C_busy Ψa
end Mine
namespace Mine
open PySem
theorem Pb_iw : Ψb "is_whole" = C_is_whole := rfl
theorem rangeJ_cons {a b : Int} (h : a < b) : rangeJ a b = a :: rangeJ (a + 1) b := by
  unfold rangeJ
  obtain ⟨n, hn⟩ : ∃ n : Nat, (b - a).toNat = n + 1 := ⟨(b - a).toNat - 1, by lia⟩
  rw [hn, show (b - (a + 1)).toNat = n by lia, List.range_succ_eq_map, List.map_cons, List.map_map]
  refine congr (congrArg _ (by lia)) (List.map_congr_left fun k _ => ?_)
  show a + ((k + 1 : Nat) : Int) = a + 1 + (k : Int); lia
theorem idx_mid {l r : List V} {x : V} : idx (l ++ x :: r) (l.length : Int) = some x := by
  unfold idx
  rw [if_pos (Int.natCast_nonneg _), Int.toNat_natCast, List.getElem?_append_right (Nat.le_refl _), Nat.sub_self]; rfl
inductive IC_place_of (H : Hp) (Q : V → Hp → Prop) : List V → Prop where
  | mk (k : Bk) (ps : List Prs) (hs : List Mtg) (m : Mtg) : (BkAt H k ps (hs ++ [m])) → (hs.length ≤ 1000) → (Q (.int (hs.length : Int)) H) → IC_place_of H Q ([.ref k.b, .int m.no])
noncomputable def C_place_of : Ctr := fun vs H Q _ => IC_place_of H Q vs
noncomputable abbrev poB : List IS := [(.ite (.cmp (.sub (.sub (.attr (.loc 0) "held") (.loc 2)) (.lit (.int 0))) .Eq (.loc 1)) [(.ret (.loc 2))] [])]
theorem po_loop {XF : XS} {k : Bk} {ps : List Prs} {hs : List Mtg} {m : Mtg} {t3 t4 t5 : Option V} {H : Hp} {Q : QS} (B : BkAt H k ps (hs ++ [m])) (q : ∀ L', Q (.ret (.int (hs.length : Int))) L' H) : ∀ (h2 h1 : List Mtg) (t2 : Option V), h1 ++ h2 = hs →
    forGo (whBX Ψb poB XF) (fun _ => True) 2 ((rangeJ (h1.length : Int) ((hs.length : Int) + 1)).map V.int) [some (.ref k.b), some (.int m.no), t2, t3, t4, t5] H Q := by
  intro h2
  have nu := B.nu
  rw [List.map_append] at nu
  have nd := (List.nodup_append.mp nu).2.2
  have hl := B.lh
  induction h2 with
  | nil =>
    intro h1 t2 e
    rw [List.append_nil] at e
    subst e
    rw [rangeJ_cons (by lia), List.map_cons, foX_cons]
    have hi : idx ((h1 ++ [m]).map mtv) (h1.length : Int) = some (.tup [.int m.no, .int m.hr, .int m.sz, .tup (m.who.map V.str)]) := by
      have := idx_mid (l := h1.map mtv) (x := mtv m) (r := [])
      rw [List.length_map] at this
      rw [List.map_append]; exact this
    simp_arith only [B.ns, B.fH, hl, hi]
    exact q _
  | cons x h2 ih =>
    intro h1 t2 e
    have hlen := congrArg List.length e
    rw [List.length_append, List.length_cons] at hlen
    rw [rangeJ_cons (by lia), List.map_cons, foX_cons]
    have hi : idx ((hs ++ [m]).map mtv) (h1.length : Int) = some (.tup [.int x.no, .int x.hr, .int x.sz, .tup (x.who.map V.str)]) := by
      have := idx_mid (l := h1.map mtv) (x := mtv x) (r := (h2 ++ [m]).map mtv)
      rw [List.length_map] at this
      rw [← e, List.append_assoc, List.map_append]; exact this
    have hne : x.no ≠ m.no := nd x.no (List.mem_map_of_mem (by rw [← e]; exact List.mem_append_right _ (.head _))) m.no (.head _)
    simp_arith only [B.ns, B.fH, hl, hi]
    refine ⟨fun h => absurd h hne, fun _ => ?_⟩
    have := ih (h1 ++ [x]) (some (.int (h1.length : Int))) (by rw [List.append_assoc]; exact e)
    rw [List.length_append] at this
    exact this
theorem w_place_of : ∀ vs H Q X, C_place_of vs H Q X → wpFn Ψb f_B_place_of vs H Q X := by
  rintro vs H Q X ⟨k, ps, hs, m, B, hz, q⟩
  refine fn_of rfl ?_
  change wpSs Ψb f_B_place_of.body [some (.ref k.b), some (.int m.no), none, none, none, none] H _ _
  refine zs_cons ?_
  generalize hK : sqX Ψb (_ :: _) = K
  simp_arith only [↓Pb_iw]
  refine ⟨m.no, rfl, ?_⟩
  have hl := B.lh
  simp_arith only [B.ns, B.fH, hl, List.length_map, List.length_append, List.length_cons, List.length_nil]
  refine ⟨by lia, ?_⟩
  subst hK
  rw [rangeL_J]
  exact po_loop B (fun L' => q) hs [] _ rfl
noncomputable def Ψc : Orc := ext (Str.ofString "Book." ++ Str.ofString "place_of") C_place_of Ψb
theorem Pc_po : Ψc (Str.ofString "Book." ++ Str.ofString "place_of") = C_place_of := rfl
theorem cutHi_nn {n : Nat} {k : Int} (h : 0 ≤ k) : cutHi n (.int k) = some k.toNat := if_pos h
theorem cutLo_nn {k : Int} (h : 0 ≤ k) : cutLo (.int k) = some k.toNat := if_pos h
theorem cut_upto {l r : List V} : cutL .none (.int (l.length : Int)) (l ++ r) = some l := by
  have e1 : cutLo .none = some 0 := rfl
  have e2 : cutHi (l ++ r).length (.int (l.length : Int)) = some l.length := cutHi_nn (Int.natCast_nonneg l.length)
  unfold cutL
  rw [e1, Option.bind_some, e2, Option.bind_some, if_pos ⟨Nat.zero_le _, by rw [List.length_append]; exact Nat.le_add_right _ _⟩, List.drop_zero, Nat.sub_zero, List.take_left' rfl]
theorem cut_end {l : List V} {k : Int} (h : k = (l.length : Int)) : cutL (.int k) .none l = some [] := by
  subst h
  have e1 : cutLo (.int (l.length : Int)) = some l.length := cutLo_nn (Int.natCast_nonneg l.length)
  have e2 : cutHi l.length .none = some l.length := rfl
  unfold cutL
  rw [e1, Option.bind_some, e2, Option.bind_some, if_pos ⟨Nat.le_refl _, Nat.le_refl _⟩, Nat.sub_self, List.take_zero]
noncomputable def hN : Str := Str.ofString "held"
theorem hk_n {x : Str} {v : V} {fs : List (Str × V)} (h : (x == Str.ofString "held") = false) : List.lookup x ((Str.ofString "held", v) :: fs) = fs.lookup x := by rw [List.lookup_cons, h]
theorem h_n : (Str.ofString "names" == Str.ofString "held") = false := by decide
theorem h_g : (Str.ofString "given" == Str.ofString "held") = false := by decide
theorem h_f : (Str.ofString "free_rules" == Str.ofString "held") = false := by decide
theorem h_b : (Str.ofString "busy_rules" == Str.ofString "held") = false := by decide
inductive IC_drop (H : Hp) (Q : V → Hp → Prop) : List V → Prop where
  | mk (k : Bk) (ps : List Prs) (hs : List Mtg) (m : Mtg) : (BkAt H k ps (hs ++ [m])) → (hs.length ≤ 1000) → (k.c ≤ 1000) → (∀ (H' : Hp) (k' : Bk), Fr k.foot H H' → k'.b = k.b → k'.g = k.g → k'.c = k.c + 1 → (∀ i ∈ k'.foot, i ∈ k.foot ∨ H.length ≤ i) → BkAt H' k' ps hs → Q .none H') → IC_drop H Q ([.ref k.b, .int m.no])
noncomputable def C_drop : Ctr := fun vs H Q _ => IC_drop H Q vs
theorem w_drop : ∀ vs H Q X, C_drop vs H Q X → wpFn Ψc f_B_drop vs H Q X := by
  rintro vs H Q X ⟨k, ps, hs, m, B, hz, hc, q⟩
  refine fn_of rfl ?_
  change wpSs Ψc f_B_drop.body [some (.ref k.b), some (.int m.no), none, none, none, none] H _ _
  refine zs_cons ?_
  generalize hK : sqX Ψc (_ :: _) = K
  simp_arith only [B.ns, ↓Pc_po]
  refine ⟨k, ps, hs, m, B, hz, ?_⟩
  subst hK
  refine zs_cons ?_
  generalize hK : sqX Ψc [] = K
  have c1 : cutL .none (.int (hs.length : Int)) ((hs ++ [m]).map mtv) = some (hs.map mtv) := by
    have := cut_upto (l := hs.map mtv) (r := [mtv m])
    rw [List.length_map] at this
    rw [List.map_append]; exact this
  have c2 : cutL (.int ((hs.length : Int) + 1)) .none ((hs ++ [m]).map mtv) = some [] := cut_end (by rw [List.length_map, List.length_append]; rfl)
  have p1 : H <+: H ++ [.list (hs.map mtv)] := pre_new
  have l1 := listAt_new (H := H) (l := hs.map mtv)
  have e1 : (H ++ [O.list (hs.map mtv)]).length = H.length + 1 := List.length_append
  simp_arith only [B.ns, B.fH, B.lh, c1]
  generalize H ++ [O.list (hs.map mtv)] = H1 at *
  have B1 := B.pre p1
  simp_arith only [B1.ns, B1.fH, B1.lh, c2]
  have p2 : H1 <+: H1 ++ [.list []] := pre_new
  have l2 := listAt_new (H := H1) (l := [])
  have l1' := listAt_pre p2 l1
  have e2 : (H1 ++ [O.list []]).length = H.length + 2 := by rw [List.length_append, e1]; rfl
  rw [e1] at l2 ⊢
  generalize H1 ++ [O.list []] = H2 at *
  simp_arith only [l1', l2, List.append_nil, List.length_map, List.length_nil]
  refine ⟨by lia, ?_⟩
  have p3 : H2 <+: H2 ++ [.list (hs.map mtv)] := pre_new
  have l3 := listAt_new (H := H2) (l := hs.map mtv)
  have e3 : (H2 ++ [O.list (hs.map mtv)]).length = H.length + 3 := by rw [List.length_append, e2]; rfl
  rw [e2] at l3 ⊢
  generalize H2 ++ [O.list (hs.map mtv)] = H3 at *
  have B3 := B.pre ((p1.trans p2).trans p3)
  have hb := B.z
  simp_arith only [B3.ns]
  refine ⟨by lia, ?_⟩
  subst hK
  have N := bkNe B.nd
  have lt := B.lt
  have f : Fr [k.j] H3 (H3.set k.j (.ns ((Str.ofString "held", .ref (H.length + 2)) :: k.fs))) := Fr.set
  have ns4 := nsAt_set (gs := (Str.ofString "held", .ref (H.length + 2)) :: k.fs) B3.ns N.bj
  generalize H3.set k.j (.ns ((Str.ofString "held", .ref (H.length + 2)) :: k.fs)) = H4 at *
  have lj := lt _ ft_j
  refine q H4 { k with fs := (Str.ofString "held", .ref (H.length + 2)) :: k.fs, h := H.length + 2, c := k.c + 1 } ((Fr.pre ((p1.trans p2).trans p3)).trans f fun i hi => .inl (by rw [List.mem_singleton.mp hi]; exact ft_j)) rfl rfl rfl (fun i hi => ?_) ?_
  · have hi : i ∈ [k.b, k.j, k.n] ++ ((H.length + 2) :: ([k.d, k.e] ++ (k.fl ++ k.ul))) := hi
    rcases List.mem_append.mp hi with h | h
    · exact .inl (show i ∈ [k.b, k.j, k.n] ++ (k.h :: ([k.d, k.e] ++ (k.fl ++ k.ul))) from List.mem_append_left _ h)
    rcases List.mem_cons.mp h with h | h
    · rw [h]; exact .inr (Nat.le_add_right _ _)
    · exact .inl (show i ∈ [k.b, k.j, k.n] ++ (k.h :: ([k.d, k.e] ++ (k.fl ++ k.ul))) from List.mem_append_right _ (List.mem_cons_of_mem _ h))
  · refine ⟨?_, ns4, (hk_n h_n).trans B.fN, by rw [List.lookup_cons, beq_self_eq_true], (hk_n h_f).trans B.fF, (hk_n h_b).trans B.fB, (hk_n h_g).trans B.fG, f.list (nin1 (Ne.symm N.jn)) B3.ln, f.list (nin1 (show H.length + 2 ≠ k.j by lia)) l3, f.dict (nin1 (Ne.symm N.jd)) B3.dd, f.dict (nin1 (Ne.symm N.je)) B3.de, B3.rf.fr f fun i hi => nin1 (N.ls i (List.mem_append_left _ hi)).2.1, B3.ru.fr f fun i hi => nin1 (N.ls i (List.mem_append_right _ hi)).2.1, B.g0, fun x hx => B.no x (List.mem_append_left _ hx), ?_, Nat.succ_le_succ hb, B.ze, B.zu⟩
    · have p : (k.h :: (k.b :: k.j :: k.n :: k.d :: k.e :: (k.fl ++ k.ul))).Perm k.foot := (List.perm_middle (a := k.h) (l₁ := [k.b, k.j, k.n]) (l₂ := k.d :: k.e :: (k.fl ++ k.ul))).symm
      have p' : ((H.length + 2) :: (k.b :: k.j :: k.n :: k.d :: k.e :: (k.fl ++ k.ul))).Perm (k.b :: k.j :: k.n :: (H.length + 2) :: k.d :: k.e :: (k.fl ++ k.ul)) := (List.perm_middle (a := H.length + 2) (l₁ := [k.b, k.j, k.n]) (l₂ := k.d :: k.e :: (k.fl ++ k.ul))).symm
      refine p'.nodup (List.nodup_cons.mpr ⟨fun h => ?_, (List.nodup_cons.mp (p.symm.nodup B.nd)).2⟩)
      have := lt _ (p.subset (List.mem_cons_of_mem _ h)); lia
    · have nu := B.nu
      rw [List.map_append] at nu
      exact (List.nodup_append.mp nu).1
noncomputable def Ψd : Orc := ext (Str.ofString "Book." ++ Str.ofString "drop") C_drop Ψc
theorem Pd_po : Ψd (Str.ofString "Book." ++ Str.ofString "place_of") = C_place_of := rfl
theorem Pd_ns : Ψd "need_stretch" = C_need_stretch := rfl
theorem Pd_lo' : Ψd (Str.ofString "Book." ++ Str.ofString "look") = C_look := rfl
structure Mv (H : Hp) (k : Bk) (ps : List Prs) (hs : List Mtg) (m : Mtg) (qs : List Prs) (lo hi : Int) : Prop where
  book : BkAt H k ps (hs ++ [m])
  who : m.who = qs.map Prs.nm
  sub : ∀ q ∈ qs, q ∈ ps ∧ q.fine
  hh : sizeOk1 m.sz
  h1 : hourOk lo
  h2 : hourOk hi
  h3 : lo ≤ hi
  h4 : hi ≤ lo + 10000
  z : hs.length ≤ 1000
inductive IC_move (H : Hp) (Q : V → Hp → Prop) : List V → Prop where
  | mk (k : Bk) (ps : List Prs) (hs : List Mtg) (m : Mtg) (qs : List Prs) (lo : Int) (hi : Int) : (Mv H k ps hs m qs lo hi) → (((lookF m.no (hs ++ [m]) qs m.sz lo (hi - m.sz)).1 = none → ∀ H', H <+: H' → Q .none H')) → (∀ a H', (lookF m.no (hs ++ [m]) qs m.sz lo (hi - m.sz)).1 = some a → Fr k.foot H H' → BkAt H' k ps (hs ++ [⟨m.no, a, m.sz, m.who⟩]) → Q (.int a) H') → IC_move H Q ([.ref k.b, .int m.no, .int lo, .int hi])
noncomputable def C_move : Ctr := fun vs H Q _ => IC_move H Q vs
theorem w_move : ∀ vs H Q X, C_move vs H Q X → wpFn Ψd f_B_move vs H Q X := by
  rintro vs H Q X ⟨k, ps, hs, m, qs, lo, hi, M, q1, q2⟩
  refine fn_of rfl ?_
  have B := M.book
  change wpSs Ψd f_B_move.body [some (.ref k.b), some (.int m.no), some (.int lo), some (.int hi), none, none, none, none, none, none] H _ _
  refine zs_cons ?_
  generalize hK : sqX Ψd (_ :: _) = K
  simp_arith only [B.ns, ↓Pd_po]
  refine ⟨k, ps, hs, m, B, M.z, ?_⟩
  subst hK
  have ix : idx ((hs ++ [m]).map mtv) (hs.length : Int) = some (.tup [.int m.no, .int m.hr, .int m.sz, .tup (nmL qs)]) := by
    have := idx_mid (l := hs.map mtv) (x := mtv m) (r := [])
    rw [List.length_map] at this
    rw [List.map_append, nmL, nm_map, ← M.who]; exact this
  refine zs_cons ?_
  generalize hK : sqX Ψd (_ :: _) = K
  simp_arith only [B.ns, B.fH, B.lh, ix]
  subst hK
  refine zs_cons ?_
  generalize hK : sqX Ψd (_ :: _) = K
  simp_arith only [↓Pd_ns]
  refine ⟨m.sz, lo, hi, M.hh, M.h1, M.h2, M.h3, M.h4, ?_⟩
  subst hK
  have hh1 := M.hh.1
  have h4 := M.h4
  refine zs_cons ?_
  generalize hK : sqX Ψd (_ :: _) = K
  simp_arith only [B.ns, ↓Pd_lo']
  refine ⟨k, .tup (nmL qs), ps, hs ++ [m], qs, m.sz, lo, hi - m.sz, m.no, ⟨B, .inr rfl, M.sub⟩, M.hh, by lia, ?_⟩
  generalize (lookF m.no (hs ++ [m]) qs m.sz lo (hi - m.sz)).2.map rowV = rows
  generalize (lookF m.no (hs ++ [m]) qs m.sz lo (hi - m.sz)).1 = o at q1 q2 ⊢
  have p1 : H <+: H ++ [.list rows] := pre_new
  have B1 := B.pre p1
  simp_arith only [X_lit]
  generalize H ++ [O.list rows] = H1 at *
  subst hK
  refine zs_cons ?_
  generalize hK : sqX Ψd (_ :: _) = K
  cases o with
  | none =>
    simp_arith only [isNoneV, intO]
    subst hK
    simp_arith only [X_lit]
    exact q1 rfl _ p1
  | some a =>
    simp_arith only [isNoneV, intO, B1.ns, B1.fH, B1.lh]
    refine ⟨⟨by lia, by rw [List.length_map, List.length_append, List.length_singleton]; lia⟩, ?_⟩
    subst hK
    have N := bkNe B.nd
    have es : ((hs ++ [m]).map mtv).set (hs.length : Int).toNat (.tup [.int m.no, .int a, .int m.sz, .tup (nmL qs)]) = (hs ++ [Mtg.mk m.no a m.sz m.who]).map mtv := by
      rw [Int.toNat_natCast, List.map_append, List.map_append, List.set_append_right _ _ (by rw [List.length_map]; exact Nat.le_refl _), List.length_map, Nat.sub_self, nmL, nm_map, ← M.who]; rfl
    rw [es]
    have f : Fr [k.h] H1 (H1.set k.h (.list ((hs ++ [Mtg.mk m.no a m.sz m.who]).map mtv))) := Fr.set
    have l2 : listAt (H1.set k.h (.list ((hs ++ [Mtg.mk m.no a m.sz m.who]).map mtv))) k.h = some _ := listAt_set B1.lh
    generalize H1.set k.h (.list ((hs ++ [Mtg.mk m.no a m.sz m.who]).map mtv)) = H2 at *
    simp_arith only [X_lit]
    refine q2 a H2 rfl ((Fr.pre p1).trans f fun i hi => .inl (by rw [List.mem_singleton.mp hi]; exact ft_h)) ⟨B.nd, f.ns (nin1 N.bh) (nin1 N.jh) B1.ns, B.fN, B.fH, B.fF, B.fB, B.fG, f.list (nin1 N.nh) B1.ln, l2, f.dict (nin1 (Ne.symm N.hd)) B1.dd, f.dict (nin1 (Ne.symm N.he)) B1.de, B1.rf.fr f fun i hi => nin1 (N.ls i (List.mem_append_left _ hi)).2.2.2.1, B1.ru.fr f fun i hi => nin1 (N.ls i (List.mem_append_right _ hi)).2.2.2.1, B.g0, fun x hx => ?_, ?_, B.z, B.ze, B.zu⟩
    · rcases List.mem_append.mp hx with h | h
      · exact B.no x (List.mem_append_left _ h)
      · rw [List.mem_singleton.mp h]; exact B.no m (List.mem_append_right _ (.head _))
    · have nu := B.nu
      rw [List.map_append] at nu ⊢
      exact nu
noncomputable def Ψe : Orc := ext (Str.ofString "Book." ++ Str.ofString "move") C_move Ψd
end Mine
namespace Mine
open PySem
noncomputable def cell (ns : List Int) (k : Int) : Int := if ns.length = 0 then 0 else ns.getD (k % (ns.length : Int)).toNat 0 + k / (ns.length : Int) * 31
noncomputable def C_cell_at : Ctr := fun vs H Q _ => ∃ ns k, vs = [.scr ns, .int k] ∧ ns.length ≤ 1000 ∧ Q (.int (cell ns k)) H
theorem cc_cell {ns : List Int} {k : Int} {H : Hp} {Q : V → Hp → Prop} {X : XL} : C_cell_at [.scr ns, .int k] H Q X = (ns.length ≤ 1000 ∧ Q (.int (cell ns k)) H) := by
  refine propext ⟨?_, fun ⟨a, b⟩ => ⟨ns, k, rfl, a, b⟩⟩
  rintro ⟨ns', k', e, a, b⟩
  cases e
  exact ⟨a, b⟩
theorem w_cell_at : ∀ vs H Q X, C_cell_at vs H Q X → wpFn Ψe f_l_cell_at vs H Q X := by
  rintro vs H Q X ⟨ns, k, rfl, hz, q⟩
  refine fn_of rfl ?_
  simp_arith only [f_l_cell_at, initL, List.map_cons, List.map_nil, List.replicate, List.cons_append, List.nil_append]
  unfold cell at q
  refine ⟨fun h => ?_, fun h => ?_⟩
  · rw [if_pos (by lia)] at q; exact q
  · have hp : 0 < (ns.length : Int) := by lia
    have h1 := Int.emod_nonneg k (show (ns.length : Int) ≠ 0 by lia)
    have h2 := Int.emod_lt_of_pos k hp
    have h3 : (k % (ns.length : Int)).toNat < ns.length := by lia
    rw [if_neg (by lia)] at q
    have e : idxP ns (k % (ns.length : Int)) = some (ns.getD (k % (ns.length : Int)).toNat 0) := by
      unfold idxP
      rw [if_pos h1, List.getElem?_eq_getElem h3]
      simp [h3]
    rw [e]
    refine ⟨⟨hp, by lia⟩, ?_⟩
    simp_arith only [X_lit]
    exact ⟨⟨hp, by lia⟩, q⟩
noncomputable def Θ1 : Orc := ext "_law_cell_at" C_cell_at Ψe
noncomputable def C_whole : Ctr := fun vs H Q _ => ∃ x : Int, vs = [.int x] ∧ Q (.bool true) H
theorem w_whole : ∀ vs H Q X, C_whole vs H Q X → wpFn Θ1 f_l_whole vs H Q X := by
  rintro vs H Q X ⟨x, rfl, q⟩
  refine fn_of rfl ?_
  simp_arith only [f_l_whole, initL, List.map_cons, List.map_nil, List.replicate, List.cons_append, List.nil_append, isi_int_int, isi_int_bool]
  exact q
noncomputable def Θ2 : Orc := ext "_law_whole" C_whole Θ1
theorem months_atL {m : Int} (h1 : 1 ≤ m) (h2 : m ≤ 12) : idx [V.int 31, .int 28, .int 31, .int 30, .int 31, .int 30, .int 31, .int 31, .int 30, .int 31, .int 30, .int 31] (m - 1) = some (.int (mlen false m)) := (idx_P (by lia)).trans (months_at h1 h2)
noncomputable def C_days : Ctr := fun vs H Q _ => ∃ y m : Int, vs = [.int y, .int m] ∧ 1 ≤ m ∧ m ≤ 12 ∧ ∀ H', H <+: H' → Q (.int (mlen (decide (y % 4 = 0)) m)) H'
theorem w_days : ∀ vs H Q X, C_days vs H Q X → wpFn Θ2 f_l_days vs H Q X := by
  rintro vs H Q X ⟨y, m, rfl, h1, h2, q⟩
  refine fn_of rfl ?_
  simp_arith only [f_l_days, initL, List.map_cons, List.map_nil, List.replicate, List.cons_append, List.nil_append, listAt_new, months_atL h1 h2]
  have q := q (H ++ [.list [.int 31, .int 28, .int 31, .int 30, .int 31, .int 30, .int 31, .int 31, .int 30, .int 31, .int 30, .int 31]]) pre_new
  refine ⟨fun h => ?_, fun h => ?_⟩
  · subst h
    by_cases hy : y % 4 = 0
    · simpa [mlen, hy] using q
    · simpa [mlen, hy] using q
  · simpa [mlen, h] using q
noncomputable def Θ3 : Orc := ext "_law_days" C_days Θ2
theorem T3_ds : Θ3 "_law_days" = C_days := rfl
noncomputable def C_in_month : Ctr := fun vs H Q _ => ∃ d : Int, vs = [.int d] ∧ ∀ H', H <+: H' → Q (.ref H'.length) (H' ++ [.list [.int (dDay d), .int (dDay d - mLen d - 1)]])
theorem im_loop {d : Int} {t4 t5 t6 : Option V} {Q : QS} : ∀ (n : Nat) (r y m : Int) (H : Hp), 1 ≤ m → m ≤ 12 →
    (imGo n r y m).1 < mlen (decide ((imGo n r y m).2.1 % 4 = 0)) (imGo n r y m).2.2 →
    (∀ H', H <+: H' → Q .next [some (V.int d), some (.int (imGo n r y m).1), some (.int (imGo n r y m).2.1), some (.int (imGo n r y m).2.2), t4, t5, t6] H') →
    whileGo (whTX Θ3 (.cmp (.loc 1) .GtE (.call (.fn "_law_days") [(.loc 2), (.loc 3)])) noX)
      (whBX Θ3 [(.assign 1 (.bin .Sub (.loc 1) (.call (.fn "_law_days") [(.loc 2), (.loc 3)]))), (.assign 2 (.bin .Add (.loc 2) (.bin .FloorDiv (.loc 3) (.lit (.int 12))))), (.assign 3 (.bin .Add (.bin .Mod (.loc 3) (.lit (.int 12))) (.lit (.int 1))))] noXS)
      (n + 1) [some (V.int d), some (.int r), some (.int y), some (.int m), t4, t5, t6] H Q := by
  intro n
  induction n with
  | zero =>
    intro r y m H h1 h2 h3 q
    simp_arith only [↓whX_s, ↓T3_ds, C_days]
    refine ⟨y, m, rfl, h1, h2, fun H' hp => ?_⟩
    exact ⟨fun h => absurd h (Int.not_le.mpr h3), fun _ => q _ hp⟩
  | succ n ih =>
    intro r y m H h1 h2 h3 q
    rw [whX_s]
    simp_arith only [↓T3_ds, C_days]
    refine ⟨y, m, rfl, h1, h2, fun H' hp => ⟨fun h => ⟨y, m, rfl, h1, h2, fun H2 hp2 => ?_⟩, fun h => ?_⟩⟩
    · have e : imGo (n + 1) r y m = imGo n (r - mlen (decide (y % 4 = 0)) m) (y + m / 12) (m % 12 + 1) := by simp only [imGo]; rw [if_pos h]
      rw [e] at h3 q
      exact ih _ _ _ _ (by lia) (by lia) h3 (fun H3 hp3 => q _ (hp.trans (hp2.trans hp3)))
    · have e : imGo (n + 1) r y m = (r, y, m) := by simp only [imGo]; rw [if_neg h]
      rw [e] at q
      exact q _ hp
theorem w_in_month : ∀ vs H Q X, C_in_month vs H Q X → wpFn Θ3 f_l_in_month vs H Q X := by
  rintro vs H Q X ⟨d, rfl, q⟩
  refine fn_of rfl ?_
  simp_arith only [f_l_in_month, initL, List.map_cons, List.map_nil, List.replicate, List.cons_append, List.nil_append]
  rw [Z_while]
  obtain ⟨a, b, c, e, f⟩ := dMon_at d
  have hl : decide (yearAt (d % 1461) % 4 = 0) = decide (yearAt (d % 1461) = 0) := by
    unfold yearAt; rw [Bool.eq_iff_iff]; simp only [decide_eq_true_eq]
    split
    · lia
    · split
      · lia
      · split <;> lia
  refine ⟨48, im_loop 47 _ 0 1 H (by lia) (by lia) ?_ ?_⟩
  · rw [f]; simp only; rw [hl]; exact b
  · rw [f]
    intro H' hp
    simp_arith only [↓T3_ds, C_days]
    refine ⟨_, _, rfl, c, e, fun H2 hp2 => ?_⟩
    have := q H2 (hp.trans hp2)
    rw [hl]
    have e1 : dDay d - mLen d - 1 = (dMon (d % 1461)).1 - mlen (decide (yearAt (d % 1461) = 0)) (dMon (d % 1461)).2 := by
      unfold dDay mLen dMonth; lia
    rw [e1] at this
    exact this
noncomputable def Θ4 : Orc := ext "_law_in_month" C_in_month Θ3
theorem T4_im : Θ4 "_law_in_month" = C_in_month := rfl
noncomputable def lpb : Pl → Int → Bool
  | .once h _, x => decide (x = h)
  | .every h _ p, x => decide (h ≤ x) && decide ((x - h) % p = 0)
  | .week ds t _, x => decide (x % 24 = t) && ds.contains (x / 24 % 7)
  | .month d t _, x => decide (x % 24 = t) && [dDay (x / 24), dDay (x / 24) - mLen (x / 24) - 1].contains d
noncomputable def C_plain_begins : Ctr := fun vs H Q _ => ∃ (r : Pl) (x : Int), vs = [pv r, .int x] ∧ r.fine ∧ 0 ≤ x ∧ ∀ H', H <+: H' → Q (.bool (lpb r x)) H'
theorem w_plain_begins : ∀ vs H Q X, C_plain_begins vs H Q X → wpFn Θ4 f_l_plain_begins vs H Q X := by
  rintro vs H Q X ⟨r, x, rfl, hok, h0, q⟩
  refine fn_of rfl ?_
  have q0 := q H (List.prefix_refl _)
  cases r with
  | once h s =>
    change wpSs Θ4 f_l_plain_begins.body [some (V.tup [.str "once", .int h, .int s]), some (.int x), none, none, none] H _ _
    refine zs_cons (iw_eq sw_once_once ?_)
    exact q0
  | every h s p =>
    change wpSs Θ4 f_l_plain_begins.body [some (V.tup [.str "every", .int h, .int s, .int p]), some (.int x), none, none, none] H _ _
    refine zs_cons (iw_ne sw_every_once (zs_cons (iw_eq sw_every_every ?_)))
    generalize hK : sqX Θ4 (_ :: _) = K
    simp_arith only [← hK]
    have h1 := hok.2.2.1
    have h2 := hok.2.2.2
    refine ⟨fun hx => ⟨⟨by lia, by lia⟩, ?_⟩, fun hx => ?_⟩
    · have e : lpb (.every h s p) x = decide ((x - h) % p = 0) := by show (decide (h ≤ x) && _) = _; rw [decide_eq_true hx]; rfl
      rw [e] at q0; exact q0
    · have e : lpb (.every h s p) x = false := by show (decide (h ≤ x) && _) = _; rw [decide_eq_false hx]; rfl
      rw [e] at q0; rw [decide_eq_false hx]; exact q0
  | week ds t s =>
    change wpSs Θ4 f_l_plain_begins.body [some (V.tup [.str "week", intsV ds, .int t, .int s]), some (.int x), none, none, none] H _ _
    refine zs_cons (iw_ne sw_week_once (zs_cons (iw_ne sw_week_every ?_)))
    simp_arith! only [intsV, mem_ints]
    refine ⟨fun hx => absurd hx (by lia), fun _ => ⟨fun hx => ?_, fun hx => ?_⟩⟩
    · have e : lpb (.week ds t s) x = false := by show (decide (x % 24 = t) && _) = _; rw [decide_eq_false hx]; rfl
      rw [e] at q0; exact q0
    · have e : lpb (.week ds t s) x = ds.contains (x / 24 % 7) := by show (decide (x % 24 = t) && _) = _; rw [decide_eq_true (Classical.not_not.mp hx)]; rfl
      rw [e] at q0; exact q0
  | month d t s =>
    change wpSs Θ4 f_l_plain_begins.body [some (V.tup [.str "month", .int d, .int t, .int s]), some (.int x), none, none, none] H _ _
    refine zs_cons (iw_ne sw_month_once (zs_cons (iw_ne sw_month_every ?_)))
    have em := mem_ints (x := d) (ds := [dDay (x / 24), dDay (x / 24) - mLen (x / 24) - 1])
    simp only [List.map_cons, List.map_nil] at em
    simp_arith! only [↓T4_im, C_in_month, listAt_new]
    refine ⟨fun hx => absurd hx (by lia), fun _ => ⟨fun hx => ?_, fun hx => ⟨_, rfl, fun H' hp' => ?_⟩⟩⟩
    · have e : lpb (.month d t s) x = false := by show (decide (x % 24 = t) && _) = _; rw [decide_eq_false hx]; rfl
      rw [e] at q0; exact q0
    · have e : lpb (.month d t s) x = [dDay (x / 24), dDay (x / 24) - mLen (x / 24) - 1].contains d := by show (decide (x % 24 = t) && _) = _; rw [decide_eq_true (Classical.not_not.mp hx)]; rfl
      have := q (H' ++ [.list [.int (dDay (x / 24)), .int (dDay (x / 24) - mLen (x / 24) - 1)]]) (hp'.trans pre_new)
      rw [e] at this
      rw [em]
      exact this
noncomputable def Θ5 : Orc := ext "_law_plain_begins" C_plain_begins Θ4
theorem same_plain (r : Pl) (x : Int) (hok : r.fine) : bp r x = lpb r x := by
  cases r with
  | once h s => rfl
  | every h s p => rfl
  | week ds t s => rfl
  | month d t s =>
    show (decide (x % 24 = t) && _) = (decide (x % 24 = t) && _)
    congr 1
    have hd : d ≠ 0 := hok.2.2.2.2
    have m := dMon_at (x / 24)
    have e1 : dDay (x / 24) ≥ 1 := by unfold dDay; lia
    have e2 : dDay (x / 24) - mLen (x / 24) - 1 < 0 := by unfold dDay mLen dMonth; lia
    rw [List.contains_cons, List.contains_cons, List.contains_nil, Bool.or_false]
    by_cases hd2 : d < 0
    · rw [if_pos hd2, beq_eq_false_iff_ne.mpr (show d ≠ dDay (x / 24) by lia), Bool.false_or, Bool.eq_iff_iff, decide_eq_true_eq, beq_iff_eq]
      exact eq_comm
    · rw [if_neg hd2, beq_eq_false_iff_ne.mpr (show d ≠ dDay (x / 24) - mLen (x / 24) - 1 by lia), Bool.or_false, Bool.eq_iff_iff, decide_eq_true_eq, beq_iff_eq]
      exact eq_comm
noncomputable abbrev outL : O := .list outs
noncomputable def C_bearing : Ctr := fun vs H Q _ => vs = [] ∧ Q (.ref H.length) (H ++ [outL])
theorem w_bearing : ∀ vs H Q X, C_bearing vs H Q X → wpFn Θ5 f_l_bearing vs H Q X := by
  rintro vs H Q X ⟨rfl, q⟩
  refine fn_of rfl ?_
  simp_arith only [f_l_bearing, initL, List.map_nil, List.replicate, List.nil_append]
  exact q
noncomputable def Θ6 : Orc := ext "_law_bearing" C_bearing Θ5
theorem T6_be : Θ6 "_law_bearing" = C_bearing := rfl
noncomputable def hds : Rl → List V
  | .pl p => [pv p]
  | .hd k p => [rv (.hd k p), pv p]
noncomputable abbrev hdT : IE := .cmp (.sub (.loc 0) (.lit (.int 0))) .In (.call (.fn "_law_bearing") [])
theorem h_in {u : Str} {rest : List V} {Lr : Lc} {H : Hp} {P : Bool → Hp → Prop} {X : XL} {b : Bool} (hm : memV (.str u) outs = some b) (h : P b (H ++ [outL])) : (wp2 Θ6 hdT).T (some (.tup (.str u :: rest)) :: Lr) H P X := by
  simp_arith only [↓T6_be]
  refine ⟨rfl, ?_⟩
  simp_arith only [listAt_new, hm]
  exact h
theorem h_inP {p : Pl} {Lr : Lc} {H : Hp} {P : Bool → Hp → Prop} {X : XL} (h : P false (H ++ [outL])) : (wp2 Θ6 hdT).T (some (pv p) :: Lr) H P X := by
  obtain ⟨r, e⟩ := pv_w p
  rw [e]; exact h_in (mo_pl p) h
theorem pre_set {H H' : Hp} {n : Nat} {o : O} (p : H <+: H') (hn : H.length ≤ n) : H <+: H'.set n o := by
  obtain ⟨Δ, rfl⟩ := p
  rw [List.set_append_right _ _ hn]
  exact List.prefix_append _ _
noncomputable def C_heads : Ctr := fun vs H Q _ => ∃ r : Rl, vs = [rv r] ∧ ∀ H', H <+: H' → Q (.ref H'.length) (H' ++ [.list (hds r)])
theorem he_end {p : Pl} {l : List V} {n : Nat} {H H' : Hp} {Q : V → Hp → Prop} {X : XL} (hz : l.length ≤ 1) (hp : H <+: H') (hl : listAt H' n = some l) (q : ∀ H2, H <+: H2 → Q (.ref H2.length) (H2 ++ [.list (l ++ [pv p])])) :
    whileGo (whTX Θ6 hdT noX) (whBX Θ6 [(.expr (.meth (.loc 1) .append [(.loc 0)])), (.assign 0 (.sub (.loc 0) (.lit (.int 2))))] noXS) 1 [some (pv p), some (.ref n), none, none, none] H'
      (sqX Θ6 [.ret (.bin .Add (.loc 1) (.lst [.loc 0]))] (fun fl _ H1 => Q (retV fl) H1) fun x _ H1 => X x H1) := by
  rw [whX_s]
  refine h_inP ?_
  have hl1 := listAt_pre (pre_new (o := .list [pv p])) (listAt_pre (pre_new (o := outL)) hl)
  simp_arith only [hl1, listAt_new]
  exact ⟨by lia, q _ (hp.trans (pre_new.trans pre_new))⟩
theorem w_heads : ∀ vs H Q X, C_heads vs H Q X → wpFn Θ6 f_l_heads vs H Q X := by
  rintro vs H Q X ⟨r, rfl, q⟩
  refine fn_of rfl ?_
  change wpSs Θ6 f_l_heads.body [some (rv r), none, none, none, none] H _ _
  refine zs_cons ?_
  generalize hK : sqX Θ6 (_ :: _) = K
  simp_arith only [X_lit]
  subst hK
  refine zs_cons ?_
  rw [Z_while]
  cases r with
  | pl p => exact ⟨1, he_end (l := []) (by decide) pre_new listAt_new q⟩
  | hd k p =>
    refine ⟨2, ?_⟩
    rw [whX_s]
    refine h_in (mo_hd k) ?_
    have hl := listAt_pre (pre_new (o := outL)) (listAt_new (H := H) (l := []))
    simp_arith only [rv, hl]
    refine ⟨⟨_, hl⟩, he_end (l := [rv (.hd k p)]) (by show 1 ≤ 1; decide) (pre_set (pre_new.trans pre_new) (Nat.le_refl _)) (listAt_set hl) q⟩
noncomputable def Θ7 : Orc := ext "_law_heads" C_heads Θ6
theorem T7_he : Θ7 "_law_heads" = C_heads := rfl
theorem T7_pb : Θ7 "_law_plain_begins" = C_plain_begins := rfl
noncomputable def lbg : Rl → Int → Bool
  | .pl p, x => lpb p x
  | .hd k p, x => hdB k x (lpb p x)
theorem same_begun {r : Rl} {x : Int} (hf : r.fine) (h0 : 0 ≤ x) : bg r x = lbg r x := by
  unfold bg
  rw [if_neg (by lia)]
  cases r with
  | pl p => exact same_plain p x hf
  | hd k p => exact congrArg (hdB k x) (same_plain p x hf.2)
theorem i1 {a : V} : idx [a] (-1) = some a := rfl
theorem i2 {a b : V} : idx [a, b] (-1) = some b := rfl
theorem c1 {a : V} : cutL .none (.int (-1)) [a] = some [] := rfl
theorem c2 {a b : V} : cutL .none (.int (-1)) [a, b] = some [a] := rfl
noncomputable def C_begun : Ctr := fun vs H Q _ => ∃ (r : Rl) (x : Int), vs = [rv r, .int x] ∧ r.fine ∧ 0 ≤ x ∧ ∀ H', H <+: H' → Q (.bool (lbg r x)) H'
theorem w_begun : ∀ vs H Q X, C_begun vs H Q X → wpFn Θ7 f_l_begun vs H Q X := by
  rintro vs H Q X ⟨r, x, rfl, hf, h0, q⟩
  refine fn_of rfl ?_
  change wpSs Θ7 f_l_begun.body [some (rv r), some (.int x), none, none, none, none, none, none] H _ _
  refine zs_cons ?_
  generalize hK : sqX Θ7 (_ :: _) = K
  simp_arith only [↓T7_he]
  refine ⟨r, rfl, fun H1 hp1 => ?_⟩
  subst hK
  refine zs_cons ?_
  generalize hK : sqX Θ7 (_ :: _) = K
  cases r with
  | pl p =>
    simp_arith only [hds, listAt_new, i1, ↓T7_pb]
    refine ⟨p, x, rfl, hf, h0, fun H2 hp2 => ?_⟩
    subst hK
    have hl2 := listAt_pre hp2 (listAt_new (H := H1) (l := [pv p]))
    simp_arith only [↓foX_nil, ↓foX_cons, hl2, c1, listAt_new, List.reverse_nil]
    exact q _ (hp1.trans (pre_new.trans (hp2.trans pre_new)))
  | hd k p =>
    simp_arith only [hds, listAt_new, i2, ↓T7_pb]
    refine ⟨p, x, rfl, hf.2, h0, fun H2 hp2 => ?_⟩
    subst hK
    have hl2 := listAt_pre hp2 (listAt_new (H := H1) (l := [rv (.hd k p), pv p]))
    have q : ∀ o, Q (.bool (hdB k x (lpb p x))) (H2 ++ [o]) := fun o => q _ (hp1.trans (pre_new.trans (hp2.trans pre_new)))
    revert q
    generalize lpb p x = d
    intro q
    refine zs_cons ?_
    generalize hK : sqX Θ7 (_ :: _) = K
    cases k with
    | frm h =>
      simp_arith! only [↓foX_nil, ↓foX_cons, hl2, c2, listAt_new, List.reverse_cons, List.reverse_nil, List.nil_append, rv, Hd.w, Hd.v]
      subst hK
      cases d with
      | true => simp_arith only [X_lit]; exact q _
      | false => simp_arith only [X_lit]; exact q _
    | til h =>
      simp_arith! only [↓foX_nil, ↓foX_cons, hl2, c2, listAt_new, List.reverse_cons, List.reverse_nil, List.nil_append, rv, Hd.w, Hd.v]
      subst hK
      cases d with
      | true => simp_arith only [X_lit]; exact q _
      | false => simp_arith only [X_lit]; exact q _
    | als h =>
      simp_arith! only [↓foX_nil, ↓foX_cons, hl2, c2, listAt_new, List.reverse_cons, List.reverse_nil, List.nil_append, rv, Hd.w, Hd.v]
      subst hK
      cases d with
      | true => simp_arith only [X_lit]; exact q _
      | false => simp_arith only [X_lit]; exact q _
    | but ds =>
      simp_arith! only [↓foX_nil, ↓foX_cons, hl2, c2, listAt_new, List.reverse_cons, List.reverse_nil, List.nil_append, rv, Hd.w, Hd.v, intsV, mem_ints]
      subst hK
      cases d with
      | true => simp_arith only [X_lit]; exact q _
      | false => simp_arith only [X_lit]; exact q _
noncomputable def Θ8 : Orc := ext "_law_begun" C_begun Θ7
theorem T8_he : Θ8 "_law_heads" = C_heads := rfl
theorem me_once : memV (.str "once") [V.str "once", .str "every"] = some true := by decide
theorem me_every : memV (.str "every") [V.str "once", .str "every"] = some true := by decide
theorem me_week : memV (.str "week") [V.str "once", .str "every"] = some false := by decide
theorem me_month : memV (.str "month") [V.str "once", .str "every"] = some false := by decide
theorem hds_last (r : Rl) : idx (hds r) (-1) = some (pv r.inner) := by cases r <;> rfl
noncomputable def C_size : Ctr := fun vs H Q _ => ∃ r : Rl, vs = [rv r] ∧ ∀ H', H <+: H' → Q (.int r.size) H'
theorem w_size : ∀ vs H Q X, C_size vs H Q X → wpFn Θ8 f_l_size vs H Q X := by
  rintro vs H Q X ⟨r, rfl, q⟩
  refine fn_of rfl ?_
  change wpSs Θ8 f_l_size.body [some (rv r), none, none, none, none] H _ _
  refine zs_cons ?_
  generalize hK : sqX Θ8 (_ :: _) = K
  simp_arith only [↓T8_he]
  refine ⟨r, rfl, fun H1 hp1 => ?_⟩
  simp_arith only [listAt_new, hds_last]
  have q' : ∀ o, Q (.int r.inner.size) ((H1 ++ [.list (hds r)]) ++ [o]) := fun o => q _ (hp1.trans (pre_new.trans pre_new))
  generalize H1 ++ [O.list (hds r)] = H3 at *
  subst hK
  revert q'
  cases r.inner with
  | once h s => intro q'; simp_arith only [pv, listAt_new, me_once]; exact q' _
  | every h s p => intro q'; simp_arith only [pv, listAt_new, me_every]; exact q' _
  | week ds t s => intro q'; simp_arith only [pv, listAt_new, me_week]; exact q' _
  | month d t s => intro q'; simp_arith only [pv, listAt_new, me_month]; exact q' _
noncomputable def Θ9 : Orc := ext "_law_size" C_size Θ8
end Mine
namespace Mine
open PySem
noncomputable def riseB (most : Int) : Int → List Int → Bool
  | _, [] => true
  | a, d :: r => decide (a < d) && decide (d ≤ most) && riseB most d r
theorem rise_of {most : Int} : ∀ {ds : List Int} {a : Int}, riseB most a ds = true → rise most a ds
  | [], _, _ => trivial
  | d :: r, a, h => by
    have h : (decide (a < d) && decide (d ≤ most) && riseB most d r) = true := h
    rw [Bool.and_eq_true, Bool.and_eq_true, decide_eq_true_eq, decide_eq_true_eq] at h
    exact ⟨h.1.1, h.1.2, rise_of h.2⟩
noncomputable def wdGo : List Int → Int → List Int
  | [], _ => []
  | k :: r, b => if b % 2 = 1 then k :: wdGo r (b / 2) else wdGo r (b / 2)
noncomputable def wd (b : Int) : List Int := wdGo [0, 1, 2, 3, 4, 5, 6] b
theorem wd_all : ∀ k : Fin 127, (decide (1 ≤ (wd (1 + (k.val : Int))).length) && decide ((wd (1 + (k.val : Int))).length ≤ 7) && riseB 6 (-1) (wd (1 + (k.val : Int)))) = true := by decide +kernel
theorem wd_fine (c : Int) : 1 ≤ (wd (1 + c % 127)).length ∧ (wd (1 + c % 127)).length ≤ 7 ∧ rise 6 (-1) (wd (1 + c % 127)) := by
  have h1 : 0 ≤ c % 127 := Int.emod_nonneg _ (by decide)
  have h2 : c % 127 < 127 := Int.emod_lt_of_pos _ (by decide)
  have := wd_all ⟨(c % 127).toNat, by lia⟩
  simp only [Int.toNat_of_nonneg h1] at this
  rw [Bool.and_eq_true, Bool.and_eq_true, decide_eq_true_eq, decide_eq_true_eq] at this
  exact ⟨this.1.1, this.1.2, rise_of this.2⟩
noncomputable def C_weekdays : Ctr := fun vs H Q _ => ∃ b : Int, vs = [.int b] ∧ ∀ H', H <+: H' → Q (intsV (wd b)) H'
theorem wd_loop {XF : XS} {t3 t4 t5 : Option V} {H : Hp} {Q : QS} : ∀ (ks : List Int) (b : Int) (t2 : Option V) (acc : List Int), acc.length + ks.length ≤ 1000000 →
    (∀ b' t', Q .next [some (V.int b'), some (.ref H.length), t', t3, t4, t5] (H ++ [.list ((acc ++ wdGo ks b).map .int)])) →
    forGo (whBX Θ9 [(.ite (.cmp (.bin .Mod (.loc 0) (.lit (.int 2))) .Eq (.lit (.int 1))) [(.expr (.meth (.loc 1) .append [(.loc 2)]))] []), (.assign 0 (.bin .FloorDiv (.loc 0) (.lit (.int 2))))] XF) (fun _ => True) 2 (ks.map V.int)
      [some (V.int b), some (.ref H.length), t2, t3, t4, t5] (H ++ [.list (acc.map .int)]) Q := by
  intro ks
  induction ks with
  | nil =>
    intro b t2 acc _ q
    have := q b t2
    rw [show wdGo [] b = [] from rfl, List.append_nil] at this
    exact this
  | cons k r ih =>
    intro b t2 acc hl q
    rw [List.map_cons, foX_cons]
    simp_arith only [listAt_new, set_new]
    rw [List.length_cons] at hl
    have e : wdGo (k :: r) b = if b % 2 = 1 then k :: wdGo r (b / 2) else wdGo r (b / 2) := rfl
    rw [e] at q
    refine ⟨fun h => ⟨⟨_, listAt_new⟩, ?_⟩, fun h => ?_⟩
    · rw [if_pos h] at q
      have := ih (b / 2) (some (.int k)) (acc ++ [k]) (by rw [List.length_append, List.length_singleton]; lia) (by
        intro b' t'
        have := q b' t'
        rw [List.append_cons acc] at this
        exact this)
      rw [List.map_append] at this
      exact ⟨by rw [List.length_map]; lia, this⟩
    · rw [if_neg h] at q
      exact ih (b / 2) (some (.int k)) acc (by lia) q
theorem range7 : rangeL 0 7 = [0, 1, 2, 3, 4, 5, 6].map V.int := rfl
theorem w_weekdays : ∀ vs H Q X, C_weekdays vs H Q X → wpFn Θ9 f_l_weekdays vs H Q X := by
  rintro vs H Q X ⟨b, rfl, q⟩
  refine fn_of rfl ?_
  simp_arith only [f_l_weekdays, initL, List.map_cons, List.map_nil, List.replicate, List.cons_append, List.nil_append]
  rw [range7]
  refine wd_loop (acc := []) [0, 1, 2, 3, 4, 5, 6] b _ (by decide) ?_
  intro b' t'
  simp_arith only [listAt_new, List.nil_append]
  exact q _ pre_new
noncomputable def Θa : Orc := ext "_law_weekdays" C_weekdays Θ9
theorem Ta_wd : Θa "_law_weekdays" = C_weekdays := rfl
noncomputable def farOk (f : Int) : Prop := 0 ≤ f ∧ f ≤ 999999999800
theorem tbl_all : ∀ k : Fin 10, (-31 : Int) ≤ [-1, 0, 30, 29, 28, -31, -30, -29, -28, 27].getD k.val 0 ∧ [-1, 0, 30, 29, 28, -31, -30, -29, -28, 27].getD k.val (0 : Int) ≤ 30 := by decide
theorem tbl_at {k : Int} (h1 : 0 ≤ k) (h2 : k < 10) : ∃ d : Int, idx [V.int (-1), .int 0, .int 30, .int 29, .int 28, .int (-31), .int (-30), .int (-29), .int (-28), .int 27] k = some (.int d) ∧ -31 ≤ d ∧ d ≤ 30 :=
  ⟨_, idx_ints (l := [-1, 0, 30, 29, 28, -31, -30, -29, -28, 27]) h1 h2 0, tbl_all ⟨k.toNat, by lia⟩⟩
noncomputable def C_plain_by : Ctr := fun vs H Q _ => ∃ i a b c far most, vs = [.ref i, .int far, .int most] ∧ listAt H i = some [.int a, .int b, .int c] ∧ farOk far ∧ sizeOk1 most ∧ ∀ (p : Pl) (H' : Hp), H <+: H' → p.fine → Q (pv p) H'
theorem mo_fine {d t s : Int} (h1 : -31 ≤ d) (h2 : d ≤ 30) (h3 : 0 ≤ t) (h4 : t ≤ 23) (h5 : sizeOk1 s) : (Pl.month (d + (if decide (0 ≤ d) = true then 1 else 0)) t s).fine := by
  refine ⟨⟨h3, h4⟩, h5, ?_⟩
  by_cases hd : 0 ≤ d
  · rw [decide_eq_true hd, if_pos rfl]; lia
  · rw [decide_eq_false hd, if_neg Bool.false_ne_true]; lia
theorem w_plain_by : ∀ vs H Q X, C_plain_by vs H Q X → wpFn Θa f_l_plain_by vs H Q X := by
  rintro vs H Q X ⟨i, a, b, c, far, most, rfl, hl, hfar, hm, q⟩
  refine fn_of rfl ?_
  have hm1 := hm.1
  have hm2 := hm.2
  have hf1 := hfar.1
  have hf2 := hfar.2
  have hl' : ∀ o, listAt (H ++ [o]) i = some [.int a, .int b, .int c] := fun o => listAt_pre pre_new hl
  refine e1_3 (tbl_at (k := c / 124 % 10) (Int.emod_nonneg _ (by decide)) (Int.emod_lt_of_pos _ (by decide))) fun d hd hd1 hd2 => ?_
  have hs : sizeOk1 (1 + a / 4 % most) := by
    have h1 := Int.emod_nonneg (a / 4) (show most ≠ 0 by lia)
    have h2 := Int.emod_lt_of_pos (a / 4) (show 0 < most by lia)
    exact ⟨by lia, by lia⟩
  have hh : hourOk (far + b % 60) := ⟨by lia, by lia⟩
  change wpSs Θa f_l_plain_by.body [some (.ref i), some (.int far), some (.int most), none, none, none, none, none, none, none] H _ _
  refine zs_cons ?_
  generalize hK : sqX Θa (_ :: _) = K
  simp_arith only [hl]
  subst hK
  refine zs_cons ?_
  generalize hK : sqX Θa (_ :: _) = K
  simp_arith only [hl]
  refine ⟨⟨by lia, by lia⟩, ?_⟩
  subst hK
  generalize 1 + a / 4 % most = sz at *
  refine zs_cons ?_
  generalize hK : sqX Θa (_ :: _) = K
  simp_arith only [hl]
  subst hK
  generalize far + b % 60 = hr at *
  refine zs_cons ?_
  generalize hK : sqX Θa (_ :: _) = K
  simp_arith only [X_lit]
  subst hK
  refine ⟨fun _ => q (.once _ _) H (List.prefix_refl _) ⟨hh, hs⟩, fun _ => ?_⟩
  refine zs_cons ?_
  generalize hK : sqX Θa (_ :: _) = K
  simp_arith only [hl]
  subst hK
  refine ⟨fun _ => q (.every _ _ _) H (List.prefix_refl _) ⟨hh, hs, by lia, by lia⟩, fun _ => ?_⟩
  have hb : 0 ≤ b % 24 ∧ b % 24 ≤ 23 := ⟨by lia, by lia⟩
  refine zs_cons ?_
  generalize hK : sqX Θa (_ :: _) = K
  simp_arith only [hl, ↓Ta_wd, C_weekdays]
  refine ⟨fun _ => ⟨_, rfl, fun H' hp => ?_⟩, fun _ => ?_⟩
  · simp_arith only [listAt_pre hp hl]
    subst hK
    exact q (.week _ _ _) H' hp ⟨hb, hs, wd_fine c⟩
  subst hK
  have fin : ∀ (d : Int) (H' : Hp), -31 ≤ d → d ≤ 30 → H <+: H' → wpSs Θa (f_l_plain_by.body.drop 8) [some (.ref i), some (.int far), some (.int most), some (.int (a % 4)), some (.int sz), some (.int hr), some (.int d), none, none, none] H' (fun fl _ H1 => Q (retV fl) H1) (fun x _ H1 => X x H1) := fun d H' h1 h2 hp => by
    refine zs_cons ?_
    generalize hK : sqX Θa [] = K
    simp_arith only [listAt_pre hp hl]
    subst hK
    exact q (.month _ _ _) H' hp (mo_fine h1 h2 hb.1 hb.2 hs)
  refine zs_cons ?_
  generalize hK : sqX Θa (_ :: _) = K
  simp_arith only [hl]
  subst hK
  refine zs_cons ?_
  generalize hK : sqX Θa (_ :: _) = K
  simp_arith only [hl, hl', listAt_new, hd]
  subst hK
  exact ⟨fun _ => fin d _ hd1 hd2 pre_new, fun _ => fin _ H (by lia) (by lia) (List.prefix_refl _)⟩
noncomputable def Θb : Orc := ext "_law_plain_by" C_plain_by Θa
theorem rise_ar {most a s : Int} (hs : 1 ≤ s) : ∀ (n j : Nat) (b : Int), b < a + (j : Int) * s → a + ((j + n : Nat) : Int) * s ≤ most → rise most b ((List.range' j n).map fun (k : Nat) => a + (k : Int) * s)
  | 0, _, _, _, _ => trivial
  | n + 1, j, b, h1, h2 => by
    have e1 : (((j + (n + 1) : Nat) : Int)) * s = (j : Int) * s + ((n : Int) + 1) * s := by rw [← Int.add_mul]; rfl
    have e2 : (((j + 1 + n : Nat) : Int)) * s = (j : Int) * s + ((n : Int) + 1) * s := by rw [← Int.add_mul]; congr 1; lia
    have e3 : (((j + 1 : Nat) : Int)) * s = (j : Int) * s + s := by rw [show ((j + 1 : Nat) : Int) = (j : Int) + 1 by lia, Int.add_mul, Int.one_mul]
    have e4 : 0 ≤ ((n : Int) + 1) * s := Int.mul_nonneg (by lia) (by lia)
    exact ⟨h1, show a + (j : Int) * s ≤ most by lia, rise_ar hs n (j + 1) _ (show a + (j : Int) * s < _ by lia) (by lia)⟩
theorem rise_range {most a s n : Int} (hs : 1 ≤ s) (h0 : 0 ≤ a) (hn : 0 ≤ n) (h : a + n * s ≤ most) : rise most (-1) ((rangeJ 0 n).map fun k => a + k * s) := by
  have := rise_ar (most := most) (a := a) hs n.toNat 0 (-1) (by lia) (by rw [show ((0 + n.toNat : Nat) : Int) = n by lia]; exact h)
  rw [← List.range_eq_range'] at this
  unfold rangeJ
  rw [List.map_map, show (n - 0).toNat = n.toNat by lia]
  have e : (fun (k : Nat) => a + (k : Int) * s) = ((fun k => a + k * s) ∘ fun (k : Nat) => 0 + (k : Int)) := funext fun k => by show _ = a + (0 + (k : Int)) * s; rw [Int.zero_add]
  rw [← e]; exact this
theorem many_all : ∀ k : Fin 4, (1 : Int) ≤ [1, 2, 5, 20].getD k.val 1 ∧ [1, 2, 5, 20].getD k.val (1 : Int) ≤ 20 := by decide
theorem many_at {k : Int} (h1 : 0 ≤ k) (h2 : k < 4) : ∃ m : Int, idx [V.int 1, .int 2, .int 5, .int 20] k = some (.int m) ∧ 1 ≤ m ∧ m ≤ 20 := ⟨_, idx_ints (l := [1, 2, 5, 20]) h1 h2 1, many_all ⟨k.toNat, by lia⟩⟩
inductive IC_head_by (H : Hp) (Q : V → Hp → Prop) : List V → Prop where
  | mk (c : Int) (far : Int) (p : Pl) : (farOk far) → (p.fine) → (∀ (r : Rl) (H' : Hp), H <+: H' → r.fine → Q (rv r) H') → IC_head_by H Q ([.int c, .int far, pv p])
noncomputable def C_head_by : Ctr := fun vs H Q _ => IC_head_by H Q vs
theorem hb_comp {c far h5 : Int} {v2 v3 : V} {t5 t7 t8 : Option V} {H : Hp} {X : XL} {Q : List V → Hp → Prop} {t6 : Option V} : ∀ (ks : List Int) (acc : List V), Q (acc ++ ks.map fun k => V.int (h5 / 24 + k * (1 + c / 1120 % 3))) H →
    compGo (coEX Θb (.bin .Add (.bin .FloorDiv (.loc 4) (.lit (.int 24))) (.bin .Mult (.loc 6) (.bin .Add (.lit (.int 1)) (.bin .Mod (.bin .FloorDiv (.loc 0) (.lit (.int 1120))) (.lit (.int 3)))))) X) (fun _ => True) 6
      [some (.int c), some (.int far), some v2, some v3, some (.int h5), t5, t6, t7, t8] (ks.map V.int) acc H Q := by
  intro ks
  induction ks with
  | nil => intro acc q; rw [List.map_nil, List.append_nil] at q; exact q
  | cons k ks ih =>
    intro acc q
    rw [List.map_cons, coX_cons]
    simp_arith only [X_lit]
    refine ⟨.inr ⟨by lia, by lia⟩, ih _ ?_⟩
    rw [List.map_cons, List.append_cons] at q
    exact q
theorem w_head_by : ∀ vs H Q X, C_head_by vs H Q X → wpFn Θb f_l_head_by vs H Q X := by
  rintro vs H Q X ⟨c, far, p, hfar, hp, q⟩
  refine fn_of rfl ?_
  change wpSs Θb f_l_head_by.body [some (.int c), some (.int far), some (pv p), none, none, none, none, none, none] H _ _
  have hf1 := hfar.1
  have hf2 := hfar.2
  refine e1_3 (many_at (k := c / 280 % 4) (Int.emod_nonneg _ (by decide)) (Int.emod_lt_of_pos _ (by decide))) fun m hm hm1 hm2 => ?_
  have hw : c % 4 = 0 ∨ c % 4 = 1 ∨ c % 4 = 2 ∨ c % 4 = 3 := by lia
  have hh : hourOk (far + c / 4 % 70) := ⟨by lia, by lia⟩
  refine zs_cons ?_
  generalize hK : sqX Θb (_ :: _) = K
  simp_arith only [listAt_new]
  subst hK
  generalize hH : H ++ [O.list [V.str "from", .str "until", .str "also", .str "but"]] = H1
  have q : ∀ (r : Rl) (H' : Hp), H1 <+: H' → r.fine → Q (rv r) H' := fun r H' hp => q r H' (by subst hH; exact pre_new.trans hp)
  rcases hw with e | e | e | e
  · rw [e]; simp_arith! only [X_lit]
    exact q (.hd (.frm _) p) H1 (List.prefix_refl _) ⟨hh, hp⟩
  · rw [e]; simp_arith! only [X_lit]
    exact q (.hd (.til _) p) H1 (List.prefix_refl _) ⟨hh, hp⟩
  · rw [e]; simp_arith! only [X_lit]
    exact q (.hd (.als _) p) H1 (List.prefix_refl _) ⟨hh, hp⟩
  · rw [e]; simp_arith! only [listAt_new, hm]
    refine ⟨⟨by lia, by lia⟩, ?_⟩
    rw [rangeL_J]
    refine hb_comp _ [] ?_
    rw [List.nil_append]
    have hlen := rangeJ_len 0 m
    refine ⟨by rw [List.length_map]; lia, ?_⟩
    have e2 : ((rangeJ 0 m).map fun k => V.int ((far + c / 4 % 70) / 24 + k * (1 + c / 1120 % 3))) = ((rangeJ 0 m).map fun k => (far + c / 4 % 70) / 24 + k * (1 + c / 1120 % 3)).map V.int := by rw [List.map_map]; rfl
    rw [e2]
    refine q (.hd (.but _) p) _ (pre_new.trans pre_new) ⟨⟨by rw [List.length_map]; lia, by rw [List.length_map]; lia, rise_range (by lia) (by lia) (by lia) ?_⟩, hp⟩
    have : m * (1 + c / 1120 % 3) ≤ 20 * 3 := Int.mul_le_mul hm2 (by lia) (by lia) (by decide)
    lia
noncomputable def Θc : Orc := ext "_law_head_by" C_head_by Θb
noncomputable def C_far : Ctr := fun vs H Q _ => ∃ c : Int, vs = [.int c] ∧ ∀ (f : Int) (H' : Hp), H <+: H' → farOk f → Q (.int f) H'
theorem w_far : ∀ vs H Q X, C_far vs H Q X → wpFn Θc f_l_far vs H Q X := by
  rintro vs H Q X ⟨c, rfl, q⟩
  refine fn_of rfl ?_
  have hw : c % 4 = 0 ∨ c % 4 = 1 ∨ c % 4 = 2 ∨ c % 4 = 3 := by lia
  simp_arith only [f_l_far, initL, List.map_cons, List.map_nil, List.replicate, List.cons_append, List.nil_append, listAt_new]
  rcases hw with e | e | e | e
  · rw [e]; exact q _ _ pre_new ⟨by decide, by decide⟩
  · rw [e]; exact q _ _ pre_new ⟨by lia, by lia⟩
  · rw [e]; exact q _ _ pre_new ⟨by lia, by lia⟩
  · rw [e]; exact q _ _ pre_new ⟨by decide, by decide⟩
noncomputable def Θd : Orc := ext "_law_far" C_far Θc
noncomputable def C_in_time : Ctr := fun vs H Q _ => ∃ x : Int, vs = [.int x] ∧ Q (.int (min x 999999999999)) H
theorem w_in_time : ∀ vs H Q X, C_in_time vs H Q X → wpFn Θd f_l_in_time vs H Q X := by
  rintro vs H Q X ⟨x, rfl, q⟩
  refine fn_of rfl ?_
  simp_arith only [f_l_in_time, initL, List.map_cons, List.map_nil, List.replicate, List.cons_append, List.nil_append]
  exact q
noncomputable def Θe : Orc := ext "_law_in_time" C_in_time Θd
theorem Te_wd : Θe "_law_weekdays" = C_weekdays := rfl
theorem Te_pb : Θe "_law_plain_by" = C_plain_by := rfl
noncomputable def C_free_by : Ctr := fun vs H Q _ => ∃ i a b c far, vs = [.ref i, .int far] ∧ listAt H i = some [.int a, .int b, .int c] ∧ farOk far ∧ ∀ (p : Pl) (H' : Hp), H <+: H' → p.fine → Q (pv p) H'
theorem w_free_by : ∀ vs H Q X, C_free_by vs H Q X → wpFn Θe f_l_free_by vs H Q X := by
  rintro vs H Q X ⟨i, a, b, c, far, rfl, hl, hfar, q⟩
  refine fn_of rfl ?_
  have hf1 := hfar.1
  have hf2 := hfar.2
  change wpSs Θe f_l_free_by.body [some (.ref i), some (.int far), none, none, none, none, none] H _ _
  refine zs_cons ?_
  generalize hK : sqX Θe (_ :: _) = K
  simp_arith only [hl]
  subst hK
  refine zs_cons ?_
  generalize hK : sqX Θe (_ :: _) = K
  simp_arith only [hl]
  subst hK
  have hs : 1 ≤ 1 + a / 4 % 5 ∧ 1 + a / 4 % 5 ≤ 5 := ⟨by lia, by lia⟩
  generalize 1 + a / 4 % 5 = sz at *
  have hh : hourOk (far + b % 6) := ⟨by lia, by lia⟩
  refine zs_cons ?_
  generalize hK : sqX Θe (_ :: _) = K
  simp_arith only [hl]
  subst hK
  refine ⟨fun _ => q (.every _ _ _) H (List.prefix_refl _) ⟨hh, ⟨by lia, by lia⟩, by lia, by lia⟩, fun _ => ?_⟩
  refine zs_cons ?_
  generalize hK : sqX Θe (_ :: _) = K
  simp_arith only [hl]
  subst hK
  refine ⟨fun _ => q (.every _ _ _) H (List.prefix_refl _) ⟨hh, ⟨hs.1, by lia⟩, by lia, by lia⟩, fun _ => ?_⟩
  refine zs_cons ?_
  generalize hK : sqX Θe (_ :: _) = K
  simp_arith only [hl, ↓Te_wd, C_weekdays]
  refine ⟨fun _ => ⟨_, rfl, fun H' hp => ?_⟩, fun _ => ?_⟩
  · simp_arith only [listAt_pre hp hl]
    subst hK
    exact q (.week _ _ _) H' hp ⟨⟨by lia, by lia⟩, ⟨by lia, by lia⟩, wd_fine c⟩
  subst hK
  simp_arith only [↓Te_pb]
  exact ⟨i, a, b, c, far, 5, rfl, hl, hfar, ⟨by decide, by decide⟩, q⟩
noncomputable def Θf : Orc := ext "_law_free_by" C_free_by Θe
end Mine
namespace Mine
open PySem
noncomputable abbrev ABC : Str := "abcdefghijklmnopqrstuvwxyz"
theorem abc_all : ∀ k : Fin 26, idxP ABC.cps.toList (k.val : Int) = some (97 + k.val) := by decide +kernel
theorem abc_at {i : Int} (h1 : 0 ≤ i) (h2 : i < 26) : idxP ABC.cps.toList i = some (97 + i.toNat) := by
  have := abc_all ⟨i.toNat, by lia⟩
  simp only [Int.toNat_of_nonneg h1] at this
  exact this
theorem app_list {x : Str} {c : Nat} : (x ++ (⟨#[c]⟩ : Str)).cps.toList = x.cps.toList ++ [c] := Array.toList_append
theorem app_len {x : Str} {c : Nat} : (x ++ (⟨#[c]⟩ : Str)).length = x.length + 1 := by
  show (x ++ (⟨#[c]⟩ : Str)).cps.size = x.cps.size + 1
  rw [← Array.length_toList, app_list, List.length_append, Array.length_toList]; rfl
theorem app_low {x : Str} {c : Nat} (h : lowS x) (hc : 97 ≤ c ∧ c ≤ 122) : lowS (x ++ (⟨#[c]⟩ : Str)) := by
  intro d hd
  rw [app_list] at hd
  rcases List.mem_append.mp hd with q | q
  · exact h d q
  · rw [List.mem_singleton.mp q]; exact hc
noncomputable def plc (sh : Int) : Nat := (sh / 2 % 12).toNat
noncomputable def tagc (sh k : Int) : Nat := 97 + (sh / 24 % 2 * 13 + k).toNat
noncomputable def lowY (x : Str) : Prop := ∀ c ∈ x.cps.toList, 97 ≤ c ∧ c ≤ 121
theorem lowY.s {x : Str} (h : lowY x) : lowS x := fun c hc => ⟨(h c hc).1, Nat.le_succ_of_le (h c hc).2⟩
theorem app_lowY {x : Str} {c : Nat} (h : lowY x) (hc : 97 ≤ c ∧ c ≤ 121) : lowY (x ++ (⟨#[c]⟩ : Str)) := by
  intro d hd
  rw [app_list] at hd
  rcases List.mem_append.mp hd with q | q
  · exact h d q
  · rw [List.mem_singleton.mp q]; exact hc
noncomputable def Tag (sh k : Int) (x : Str) : Prop := if sh % 6 = 4 then x.length = k.toNat + 1 ∧ lowY x else x.cps.toList[plc sh]? = some (tagc sh k)
theorem Tag.ne {sh k k' : Int} {x y : Str} (h0 : 0 ≤ k) (h1 : k < k') (h : Tag sh k x) (h' : Tag sh k' y) : x ≠ y := by
  intro e
  subst e
  unfold Tag at h h'
  by_cases c : sh % 6 = 4
  · rw [if_pos c] at h h'; have := h.1; have := h'.1; lia
  · rw [if_neg c] at h h'
    rw [h] at h'
    have := Option.some.inj h'
    unfold tagc at this
    lia
noncomputable def zN (c : Nat) : Str := ⟨#[122, c]⟩
theorem Tag.nz {sh k : Int} {x : Str} {c : Nat} (h0 : 0 ≤ k) (h1 : k ≤ 2) (hc : 117 ≤ c) (h : Tag sh k x) : x ≠ zN c := by
  intro e
  subst e
  unfold Tag at h
  by_cases d : sh % 6 = 4
  · rw [if_pos d] at h
    have := (h.2 122 (show 122 ∈ [122, c] from .head _)).2
    lia
  · rw [if_neg d] at h
    have hm : 117 ≤ tagc sh k := by
      rcases List.mem_cons.mp (show tagc sh k ∈ [122, c] from List.mem_of_getElem? h) with q | q
      · lia
      · rw [List.mem_singleton.mp q]; exact hc
    unfold tagc at hm
    lia
theorem low_nil : lowS "" := fun c h => by cases h
theorem lowY_nil : lowY "" := fun c h => by cases h
inductive IC_name_by (H : Hp) (Q : V → Hp → Prop) : List V → Prop where
  | mk (sh : Int) (ce : Int) (k : Int) : (0 ≤ k) → (k ≤ 11) → (∀ x, nameOk x → Tag sh k x → Q (.str x) H) → IC_name_by H Q ([.int sh, .int ce, .int k])
noncomputable def C_name_by : Ctr := fun vs H Q _ => IC_name_by H Q vs
theorem n1_loop {XF : XS} {sh ce k : Int} {v4 : V} {t7 t8 t9 : Option V} {H : Hp} {Q : QS} : ∀ (js : List Int) (x : Str) (t6 : Option V), lowY x → x.length + js.length ≤ 12 →
    (∀ x' t6', lowY x' → x'.length = x.length + js.length → Q .next [some (.int sh), some (.int ce), some (.int k), some (.str ABC), some v4, some (.str x'), t6', t7, t8, t9] H) →
    forGo (whBX Θf [(.assign 5 (.bin .Add (.loc 5) (.sub (.loc 3) (.bin .Mod (.bin .Add (.bin .FloorDiv (.loc 0) (.lit (.int 6))) (.bin .Mult (.loc 6) (.bin .Add (.lit (.int 1)) (.bin .Mod (.bin .FloorDiv (.loc 0) (.lit (.int 150))) (.lit (.int 5)))))) (.lit (.int 25))))))] XF) (fun _ => True) 6 (js.map V.int)
      [some (.int sh), some (.int ce), some (.int k), some (.str ABC), some v4, some (.str x), t6, t7, t8, t9] H Q := by
  intro js
  induction js with
  | nil => intro x t6 hl hz q; exact q x t6 hl rfl
  | cons j js ih =>
    intro x t6 hl hz q
    rw [List.map_cons, foX_cons]
    rw [List.length_cons] at hz q
    have hi := abc_at (i := (sh / 6 + j * (1 + sh / 150 % 5)) % 25) (Int.emod_nonneg _ (by decide)) (by have := Int.emod_lt_of_pos (sh / 6 + j * (1 + sh / 150 % 5)) (show (0 : Int) < 25 by decide); lia)
    have hc : 97 ≤ 97 + ((sh / 6 + j * (1 + sh / 150 % 5)) % 25).toNat ∧ 97 + ((sh / 6 + j * (1 + sh / 150 % 5)) % 25).toNat ≤ 121 := by
      have := Int.emod_lt_of_pos (sh / 6 + j * (1 + sh / 150 % 5)) (show (0 : Int) < 25 by decide)
      lia
    simp_arith only [↓sV_str, ↓q_lenstr, ↓q_sstr, ↓q_ins, ↓q_nins, ↓u_str, ↓q_adds, hi]
    refine ⟨.inr ⟨by lia, by lia⟩, by show x.length + 1 ≤ _; lia, ih _ _ (app_lowY hl hc) (by rw [app_len]; lia) fun x' t6' h1 h2 => q x' t6' h1 (by rw [h2, app_len]; lia)⟩
theorem n2_loop {XF : XS} {sh ce k : Int} {t7 t8 t9 : Option V} {H : Hp} {Q : QS} (hk : 0 ≤ k ∧ k ≤ 11) : ∀ (n : Nat) (j : Nat) (x : Str) (t6 : Option V), lowS x → x.length = j → j + n ≤ 12 → (plc sh < j → x.cps.toList[plc sh]? = some (tagc sh k)) →
    (∀ x' t6', lowS x' → x'.length = j + n → (plc sh < j + n → x'.cps.toList[plc sh]? = some (tagc sh k)) → Q .next [some (.int sh), some (.int ce), some (.int k), some (.str ABC), some (.int (sh / 2 % 12)), some (.str x'), t6', t7, t8, t9] H) →
    forGo (whBX Θf [(.ite (.cmp (.loc 6) .Eq (.loc 4)) [(.assign 5 (.bin .Add (.loc 5) (.sub (.loc 3) (.bin .Add (.bin .Mult (.bin .Mod (.bin .FloorDiv (.loc 0) (.lit (.int 24))) (.lit (.int 2))) (.lit (.int 13))) (.loc 2)))))] [(.assign 5 (.bin .Add (.loc 5) (.sub (.loc 3) (.bin .Mod (.bin .Add (.bin .FloorDiv (.loc 1) (.lit (.int 288))) (.bin .Mult (.loc 6) (.bin .Add (.lit (.int 1)) (.bin .Mod (.loc 1) (.lit (.int 5)))))) (.lit (.int 26))))))])] XF) (fun _ => True) 6
      ((List.range' j n).map fun (m : Nat) => V.int (m : Int)) [some (.int sh), some (.int ce), some (.int k), some (.str ABC), some (.int (sh / 2 % 12)), some (.str x), t6, t7, t8, t9] H Q := by
  intro n
  induction n with
  | zero => intro j x t6 hl hx _ ht q; exact q x t6 hl hx ht
  | succ n ih =>
    intro j x t6 hl hx hz ht q
    show forGo _ _ _ (V.int (j : Int) :: ((List.range' (j + 1) n).map fun (m : Nat) => V.int (m : Int))) _ _ _
    rw [foX_cons]
    have hi1 := abc_at (i := sh / 24 % 2 * 13 + k) (by lia) (by lia)
    have hi2 := abc_at (i := (ce / 288 + (j : Int) * (1 + ce % 5)) % 26) (Int.emod_nonneg _ (by decide)) (Int.emod_lt_of_pos _ (by decide))
    have hpl : 0 ≤ sh / 2 % 12 := by lia
    have nxt : ∀ c, 97 ≤ c ∧ c ≤ 122 → (plc sh = j → c = tagc sh k) → forGo (whBX Θf _ XF) (fun _ => True) 6 ((List.range' (j + 1) n).map fun (m : Nat) => V.int (m : Int)) [some (.int sh), some (.int ce), some (.int k), some (.str ABC), some (.int (sh / 2 % 12)), some (.str (x ++ (⟨#[c]⟩ : Str))), some (.int (j : Int)), t7, t8, t9] H Q := fun c hc hp => by
      refine ih (j + 1) _ _ (app_low hl hc) (by rw [app_len, hx]) (by lia) (fun h => ?_) fun x' t6' h1 h2 h3 => q x' t6' h1 (by lia) fun h => h3 (by lia)
      rw [app_list]
      have hxl : x.cps.toList.length = j := by rw [Array.length_toList]; exact hx
      by_cases hj : plc sh = j
      · rw [List.getElem?_append_right (by lia), hxl, hj, Nat.sub_self, ← hp hj]; rfl
      · rw [List.getElem?_append_left (by lia)]; exact ht (by lia)
    simp_arith only [↓sV_str, ↓q_lenstr, ↓q_sstr, ↓q_ins, ↓q_nins, ↓u_str, ↓q_adds, hi1, hi2]
    refine ⟨fun h => ⟨by show x.length + 1 ≤ _; lia, ?_⟩, fun h => ⟨.inr ⟨by lia, by lia⟩, by show x.length + 1 ≤ _; lia, ?_⟩⟩
    · exact nxt _ (by lia) fun _ => rfl
    · refine nxt _ ?_ fun hp => absurd ?_ h
      · have := Int.emod_lt_of_pos (ce / 288 + (j : Int) * (1 + ce % 5)) (show (0 : Int) < 26 by decide)
        lia
      · unfold plc at hp; lia
theorem rangeL_N {b : Int} : rangeL 0 b = (List.range' 0 b.toNat).map fun (m : Nat) => V.int (m : Int) := by
  unfold rangeL
  rw [← List.range_eq_range', show b - 0 = b by lia]
  exact List.map_congr_left fun k _ => by rw [Int.zero_add]
theorem w_name_by : ∀ vs H Q X, C_name_by vs H Q X → wpFn Θf f_l_name_by vs H Q X := by
  rintro vs H Q X ⟨sh, ce, k, h0, h1, q⟩
  refine fn_of rfl ?_
  change wpSs Θf f_l_name_by.body [some (.int sh), some (.int ce), some (.int k), none, none, none, none, none, none, none] H _ _
  have two : ∀ ce : Int, ¬ sh % 6 = 4 → wpSs Θf (f_l_name_by.body.drop 5) [some (.int sh), some (.int ce), some (.int k), some (.str ABC), some (.int (sh / 2 % 12)), some (.str ""), none, none, none, none] H (fun fl _ H1 => Q (retV fl) H1) (fun x _ H1 => X x H1) := fun ce h6 => by
    refine zs_cons ?_
    generalize hK : sqX Θf (_ :: _) = K
    have hp1 : 0 ≤ sh / 2 % 12 := by lia
    have hp2 : sh / 2 % 12 < 12 := by lia
    have he1 := Int.emod_nonneg (ce / 24) (show 12 - sh / 2 % 12 ≠ 0 by lia)
    have he2 := Int.emod_lt_of_pos (ce / 24) (show 0 < 12 - sh / 2 % 12 by lia)
    simp_arith only [↓sV_str, ↓q_lenstr, ↓q_sstr, ↓q_ins, ↓q_nins, ↓u_str, ↓q_adds]
    refine ⟨⟨by lia, by lia⟩, ⟨by lia, by lia⟩, ?_⟩
    rw [rangeL_N]
    subst hK
    refine n2_loop ⟨h0, h1⟩ _ 0 _ _ low_nil rfl (by lia) (fun h => by lia) fun x' t6' k1 k2 k3 => ?_
    simp_arith only [↓sV_str, ↓q_lenstr, ↓q_sstr, ↓q_ins, ↓q_nins, ↓u_str, ↓q_adds]
    refine q x' ⟨by lia, by lia, k1⟩ ?_
    unfold Tag
    rw [if_neg h6]
    exact k3 (by unfold plc; lia)
  have main : ∀ ce : Int, wpSs Θf (f_l_name_by.body.drop 3) [some (.int sh), some (.int ce), some (.int k), some (.str ABC), some (.int (sh / 2 % 12)), none, none, none, none, none] H (fun fl _ H1 => Q (retV fl) H1) (fun x _ H1 => X x H1) := fun ce => by
    refine zs_cons ?_
    generalize hK : sqX Θf (_ :: _) = K
    simp_arith only [↓sV_str, ↓q_lenstr, ↓q_sstr, ↓q_ins, ↓q_nins, ↓u_str, ↓q_adds]
    subst hK
    refine zs_cons ?_
    generalize hK : sqX Θf (_ :: _) = K
    simp_arith only [↓sV_str, ↓q_lenstr, ↓q_sstr, ↓q_ins, ↓q_nins, ↓u_str, ↓q_adds]
    refine ⟨fun h6 => ⟨⟨by lia, by lia⟩, ?_⟩, fun h6 => by subst hK; exact two ce h6⟩
    rw [rangeL_J]
    have hlen := rangeJ_len 0 (k + 1)
    refine n1_loop _ _ _ lowY_nil (by show 0 + _ ≤ _; lia) fun x' t6' k1 k2 => ?_
    have k2 : x'.length = 0 + (rangeJ 0 (k + 1)).length := k2
    simp_arith only [↓sV_str, ↓q_lenstr, ↓q_sstr, ↓q_ins, ↓q_nins, ↓u_str, ↓q_adds]
    subst hK
    refine q x' ⟨by lia, by lia, k1.s⟩ ?_
    unfold Tag
    rw [if_pos h6]; exact ⟨by lia, k1⟩
  refine zs_cons ?_
  generalize hK : sqX Θf (_ :: _) = K
  simp_arith only [↓sV_str, ↓q_lenstr, ↓q_sstr, ↓q_ins, ↓q_nins, ↓u_str, ↓q_adds]
  subst hK
  refine zs_cons ?_
  generalize hK : sqX Θf (_ :: _) = K
  simp_arith only [↓sV_str, ↓q_lenstr, ↓q_sstr, ↓q_ins, ↓q_nins, ↓u_str, ↓q_adds]
  subst hK
  refine zs_cons ?_
  generalize hK : sqX Θf (_ :: _) = K
  simp_arith only [↓sV_str, ↓q_lenstr, ↓q_sstr, ↓q_ins, ↓q_nins, ↓u_str, ↓q_adds]
  subst hK
  exact ⟨fun _ => main _, fun _ => main _⟩
noncomputable def Θg : Orc := ext "_law_name_by" C_name_by Θf
end Mine
namespace Mine
open PySem
structure Ad where
  i : Nat
  f : Nat
  u : Nat
  e : Nat
noncomputable def Ad.all (a : Ad) : List Nat := [a.i, a.f, a.u, a.e]
noncomputable def metV (q : Int × Int) : V := .tup [.int q.1, .int q.2]
structure PA (H : Hp) (a : Ad) (p : Prs) (ms : List (Int × Int)) : Prop where
  li : listAt H a.i = some [.str p.nm, .ref a.f, .ref a.u, .ref a.e]
  lf : listAt H a.f = some (p.fr.map rv)
  lu : listAt H a.u = some (p.bu.map rv)
  le : listAt H a.e = some (ms.map metV)
section
variable {a : Ad}
theorem ad_i : a.i ∈ a.all := .head _
theorem ad_f : a.f ∈ a.all := .tail _ (.head _)
theorem ad_u : a.u ∈ a.all := .tail _ (.tail _ (.head _))
theorem ad_e : a.e ∈ a.all := .tail _ (.tail _ (.tail _ (.head _)))
theorem PA.fr {F : List Nat} {H H' : Hp} {p : Prs} {ms : List (Int × Int)} (P : PA H a p ms) (f : Fr F H H') (hd : ∀ i ∈ a.all, i ∉ F) : PA H' a p ms := ⟨f.list (hd _ ad_i) P.li, f.list (hd _ ad_f) P.lf, f.list (hd _ ad_u) P.lu, f.list (hd _ ad_e) P.le⟩
theorem PA.lt {H : Hp} {p : Prs} {ms : List (Int × Int)} (P : PA H a p ms) : ∀ i ∈ a.all, i < H.length := fun i hi => by
  rcases List.mem_cons.mp hi with q | hi
  · rw [q]; exact listAt_lt P.li
  rcases List.mem_cons.mp hi with q | hi
  · rw [q]; exact listAt_lt P.lf
  rcases List.mem_cons.mp hi with q | hi
  · rw [q]; exact listAt_lt P.lu
  rw [List.mem_singleton.mp hi]; exact listAt_lt P.le
end
noncomputable def PsAt (H : Hp) (me : Prs → List (Int × Int)) : List Ad → List Prs → Prop
  | [], ps => ps = []
  | a :: as, ps => ∃ p qs, ps = p :: qs ∧ PA H a p (me p) ∧ PsAt H me as qs
noncomputable def ads (as : List Ad) : List Nat := as.flatMap Ad.all
theorem ads_mem {as : List Ad} {a : Ad} {i : Nat} (h : a ∈ as) (hi : i ∈ a.all) : i ∈ ads as := List.mem_flatMap.mpr ⟨a, h, hi⟩
section
variable {H H' : Hp} {me : Prs → List (Int × Int)}
theorem PsAt.fr {F : List Nat} (f : Fr F H H') : ∀ {as : List Ad} {ps : List Prs}, (∀ i ∈ ads as, i ∉ F) → PsAt H me as ps → PsAt H' me as ps
  | [], _, _, h => h
  | a :: _, _, hd, ⟨p, qs, e, h, r⟩ => ⟨p, qs, e, h.fr f fun i hi => hd i (ads_mem List.mem_cons_self hi), r.fr f fun i hi => hd i (List.mem_append_right _ hi)⟩
theorem PsAt.pre (q : H <+: H') {as : List Ad} {ps : List Prs} (P : PsAt H me as ps) : PsAt H' me as ps := P.fr (F := []) (Fr.pre q) fun _ _ h => nomatch h
theorem PsAt.lt : ∀ {as : List Ad} {ps : List Prs}, PsAt H me as ps → ∀ i ∈ ads as, i < H.length
  | [], _, _, _, hi => nomatch hi
  | a :: _, _, ⟨p, qs, e, h, r⟩, i, hi => by
    rcases List.mem_append.mp (show i ∈ a.all ++ ads _ from hi) with q | q
    · exact h.lt i q
    · exact r.lt i q
theorem PsAt.snoc {a : Ad} {p : Prs} (hp : PA H a p (me p)) : ∀ {as : List Ad} {ps : List Prs}, PsAt H me as ps → PsAt H me (as ++ [a]) (ps ++ [p])
  | [], ps, h => by obtain rfl := h; exact ⟨p, [], rfl, hp, rfl⟩
  | _ :: _, _, ⟨b, qs, e, h, r⟩ => ⟨b, qs ++ [p], by rw [e]; rfl, h, r.snoc hp⟩
theorem PsAt.reverse : ∀ {as : List Ad} {ps : List Prs}, PsAt H me as ps → PsAt H me as.reverse ps.reverse
  | [], ps, h => by obtain rfl := h; exact rfl
  | _ :: _, _, ⟨b, qs, e, h, r⟩ => by rw [e, List.reverse_cons, List.reverse_cons]; exact r.reverse.snoc h
theorem PsAt.take : ∀ (k : Nat) {as : List Ad} {ps : List Prs}, PsAt H me as ps → PsAt H me (as.take k) (ps.take k)
  | 0, _, _, _ => rfl
  | k + 1, [], ps, h => by obtain rfl := h; exact rfl
  | k + 1, _ :: _, _, ⟨b, qs, e, h, r⟩ => by rw [e]; exact ⟨b, _, rfl, h, r.take k⟩
theorem PsAt.length : ∀ {as : List Ad} {ps : List Prs}, PsAt H me as ps → as.length = ps.length
  | [], ps, h => by obtain rfl := h; rfl
  | _ :: _, _, ⟨b, qs, e, h, r⟩ => by rw [e, List.length_cons, List.length_cons, r.length]
end
noncomputable def refs (as : List Ad) : List V := as.map fun a => .ref a.i
structure Gp (p : Prs) : Prop where
  nm : nameOk p.nm
  fine : p.fine
  fr : p.fr.length ≤ 2
  bu : p.bu.length ≤ 2
theorem Tg_ca : Θg "_law_cell_at" = C_cell_at := rfl
theorem Tg_fb : Θg "_law_free_by" = C_free_by := rfl
theorem Tg_pb : Θg "_law_plain_by" = C_plain_by := rfl
theorem Tg_hb : Θg "_law_head_by" = C_head_by := rfl
theorem Tg_nb : Θg "_law_name_by" = C_name_by := rfl
noncomputable abbrev peB : List IS := bdy (f_l_people_by.body.getD 2 .fail)
structure PeS (n : Nat) (vs : List V) (Hs H : Hp) (ce : Nat) (cs : List Int) : Prop where
  pre : Hs <+: H
  lt : n < Hs.length
  ppl : listAt Hs n = some vs
  cells : listAt H ce = some (cs.map V.int)
theorem PeS.to {n ce : Nat} {vs : List V} {Hs H H' : Hp} {cs : List Int} (S : PeS n vs Hs H ce cs) (p : H <+: H') : PeS n vs Hs H' ce cs := ⟨S.pre.trans p, S.lt, S.ppl, listAt_pre p S.cells⟩
structure Rls (Hs H : Hp) (f : Nat) (rs : List Rl) (k : Nat) : Prop where
  at' : listAt H f = some (rs.map rv)
  fine : ∀ r ∈ rs, r.fine
  len : rs.length ≤ k
  new : Hs.length ≤ f
theorem Rls.to {Hs H H' : Hp} {f k : Nat} {rs : List Rl} (S : Rls Hs H f rs k) (p : H <+: H') : Rls Hs H' f rs k := ⟨listAt_pre p S.at', S.fine, S.len, S.new⟩
noncomputable def PeQ (n : Nat) (vs : List V) (Hs : Hp) (sh k : Int) (QF : QS) (a b c d : V) : Prop := ∀ (ad : Ad) (p : Prs) (H3 : Hp) (t7 t8 t9 t10 t11 t12 : Option V), Fr [n] Hs H3 → (∀ x ∈ ad.all, Hs.length ≤ x) → ad.all.Nodup → listAt H3 n = some (vs ++ [.ref ad.i]) → PA H3 ad p [] → Gp p → Tag sh k p.nm →
  QF .next [some a, some b, some c, some d, some (.ref n), some (.int sh), some (.int k), t7, t8, t9, t10, t11, t12] H3
theorem nd4 {f u m : Nat} (hf : f < m) (hu : u < m) (h : u ≠ f) : (Ad.all ⟨m + 1, f, u, m⟩).Nodup := by
  unfold Ad.all
  simp only [List.nodup_cons, List.mem_cons, List.not_mem_nil, or_false, not_or, not_false_eq_true, List.nodup_nil, and_true]
  lia
section
variable {n ce f u : Nat} {vs : List V} {Hs H : Hp} {fr bu : List Rl} {sh k c0 far : Int} {cr : List Int} {QF : QS} {XF : XS} {a b c : V} {t9 t10 t11 t12 : Option V}
theorem pe8 (S : PeS n vs Hs H ce (c0 :: cr)) (F : Rls Hs H f fr 2) (U : Rls Hs H u bu 2) (hfu : u ≠ f) (hv : vs.length ≤ 100) (hk : 0 ≤ k ∧ k ≤ 11) (q : PeQ n vs Hs sh k QF a b c (.int far)) :
    wpSs Θg (peB.drop 8) [some a, some b, some c, some (.int far), some (.ref n), some (.int sh), some (.int k), some (.ref ce), some (.ref f), some (.ref u), t10, t11, t12] H QF XF := by
  have hce : listAt H ce = some (.int c0 :: cr.map V.int) := S.cells
  have hpp := listAt_pre S.pre S.ppl
  have hpp2 := listAt_pre (pre_new (o := .list [])) hpp
  change wpSs Θg [.expr (.meth (.loc 4) .append [.lst [(.call (.fn "_law_name_by") [(.loc 5), (.bin .FloorDiv (.sub (.loc 7) (.lit (.int 0))) (.lit (.int 36))), (.loc 6)]), (.loc 8), (.loc 9), (.lst [])]])] _ _ _ _
  simp_arith only [hpp, hce, ↓Tg_nb]
  refine ⟨⟨_, hpp⟩, sh, _, k, hk.1, hk.2, fun x hx ht => ?_⟩
  have hp3 := fun l => listAt_pre (pre_new (o := .list l)) hpp2
  simp_arith only [hp3]
  refine ⟨by lia, ?_⟩
  have hlt := S.lt
  have hle := S.pre.length_le
  have fl := listAt_lt F.at'
  have ul := listAt_lt U.at'
  have fn := F.new
  have un := U.new
  have pp : H <+: H ++ [O.list []] ++ [O.list [V.str x, V.ref f, V.ref u, V.ref H.length]] := pre_new.trans pre_new
  have e1 : (H ++ [O.list []]).length = H.length + 1 := by rw [List.length_append]; rfl
  have l2 : listAt (H ++ [O.list []] ++ [O.list [V.str x, V.ref f, V.ref u, V.ref H.length]]) (H.length + 1) = some [V.str x, V.ref f, V.ref u, V.ref H.length] := e1 ▸ listAt_new
  have P : PA (H ++ [O.list []] ++ [O.list [V.str x, V.ref f, V.ref u, V.ref H.length]]) ⟨H.length + 1, f, u, H.length⟩ ⟨x, fr, bu⟩ [] := ⟨l2, listAt_pre pp F.at', listAt_pre pp U.at', listAt_pre pre_new listAt_new⟩
  have hge : ∀ y ∈ Ad.all ⟨H.length + 1, f, u, H.length⟩, Hs.length ≤ y := fun y hy => by
    rcases List.mem_cons.mp hy with q | hy
    · rw [q]; show Hs.length ≤ H.length + 1; lia
    rcases List.mem_cons.mp hy with q | hy
    · rw [q]; exact fn
    rcases List.mem_cons.mp hy with q | hy
    · rw [q]; exact un
    rw [List.mem_singleton.mp hy]; exact hle
  have f1 : Fr [n] Hs (H ++ [O.list []] ++ [O.list [V.str x, V.ref f, V.ref u, V.ref H.length]]) := Fr.pre (S.pre.trans pp)
  rw [e1]
  exact q ⟨H.length + 1, f, u, H.length⟩ ⟨x, fr, bu⟩ _ _ _ _ _ _ _ (f1.trans Fr.set fun _ h => .inl h) hge (nd4 fl ul hfu) (listAt_set (hp3 _)) (P.fr Fr.set fun y hy => nin1 (by have := hge y hy; lia)) ⟨hx, ⟨F.fine, U.fine⟩, F.len, U.len⟩ ht
theorem pe7 (S : PeS n vs Hs H ce (c0 :: cr)) (F : Rls Hs H f fr 2) (U : Rls Hs H u bu 2) (hfu : u ≠ f) (hv : vs.length ≤ 100) (hk : 0 ≤ k ∧ k ≤ 11) (q : PeQ n vs Hs sh k QF a b c (.int far)) :
    wpSs Θg (peB.drop 7) [some a, some b, some c, some (.int far), some (.ref n), some (.int sh), some (.int k), some (.ref ce), some (.ref f), some (.ref u), t10, t11, t12] H QF XF := by
  have hce : listAt H ce = some (.int c0 :: cr.map V.int) := S.cells
  refine zs_cons ?_
  generalize hK : sqX Θg (_ :: _) = K
  simp_arith only [hce]
  subst hK
  refine ⟨fun _ => pe8 (S.to pre_new) (fr := []) ⟨listAt_new, fun _ h => (nomatch h), Nat.zero_le _, S.pre.length_le⟩ (U.to pre_new) (Nat.ne_of_lt (listAt_lt U.at')) hv hk q, fun _ => pe8 S F U hfu hv hk q⟩
end
end Mine
namespace Mine
open PySem
theorem PeS.set {n ce u : Nat} {vs : List V} {Hs H : Hp} {cs : List Int} {o : O} (S : PeS n vs Hs H ce cs) (hu : Hs.length ≤ u) (hne : u ≠ ce) : PeS n vs Hs (H.set u o) ce cs := ⟨pre_set S.pre hu, S.lt, S.ppl, by rw [listAt_set_ne hne]; exact S.cells⟩
theorem Rls.set {Hs H : Hp} {f u k : Nat} {rs : List Rl} {o : O} (F : Rls Hs H f rs k) (hne : u ≠ f) : Rls Hs (H.set u o) f rs k := ⟨by rw [listAt_set_ne hne]; exact F.at', F.fine, F.len, F.new⟩
theorem Rls.app {Hs H : Hp} {u k : Nat} {rs : List Rl} {r : Rl} (U : Rls Hs H u rs k) (hr : r.fine) : Rls Hs (H.set u (.list (rs.map rv ++ [rv r]))) u (rs ++ [r]) (k + 1) := by
  refine ⟨?_, fun x hx => ?_, ?_, U.new⟩
  · rw [List.map_append]; exact listAt_set U.at'
  · rcases List.mem_append.mp hx with q | q
    · exact U.fine x q
    · rw [List.mem_singleton.mp q]; exact hr
  · rw [List.length_append]; exact Nat.succ_le_succ U.len
theorem Rls.le {Hs H : Hp} {u k k' : Nat} {rs : List Rl} (U : Rls Hs H u rs k) (h : k ≤ k') : Rls Hs H u rs k' := ⟨U.at', U.fine, Nat.le_trans U.len h, U.new⟩
section
variable {a0 a1 a2 a3 a4 a5 a6 a7 a8 a9 a10 a11 a12 : V}
theorem k4 : idx [a0, a1, a2, a3, a4, a5, a6, a7, a8, a9, a10, a11, a12] 4 = some a4 := rfl
theorem k10 : idx [a0, a1, a2, a3, a4, a5, a6, a7, a8, a9, a10, a11, a12] 10 = some a10 := rfl
theorem s1 : cutL (.int 1) (.int 4) [a0, a1, a2, a3, a4, a5, a6, a7, a8, a9, a10, a11, a12] = some [a1, a2, a3] := rfl
theorem s4 : cutL (.int 4) (.int 7) [a0, a1, a2, a3, a4, a5, a6, a7, a8, a9, a10, a11, a12] = some [a4, a5, a6] := rfl
theorem s7 : cutL (.int 7) (.int 10) [a0, a1, a2, a3, a4, a5, a6, a7, a8, a9, a10, a11, a12] = some [a7, a8, a9] := rfl
theorem s10 : cutL (.int 10) (.int 13) [a0, a1, a2, a3, a4, a5, a6, a7, a8, a9, a10, a11, a12] = some [a10, a11, a12] := rfl
end
theorem two_at (b : Bool) : ∃ m : Int, idx [V.int 4, .int 48] (if b = true then 1 else 0) = some (.int m) ∧ sizeOk1 m := by
  cases b with
  | true => exact ⟨48, rfl, by decide, by decide⟩
  | false => exact ⟨4, rfl, by decide, by decide⟩
section
variable {n ce f u : Nat} {vs : List V} {Hs H : Hp} {fr bu : List Rl} {sh k far c0 c1 c2 c3 c4 c5 c6 c7 c8 c9 c10 c11 c12 : Int} {QF : QS} {XF : XS} {a b c : V} {t8 t9 t10 t11 t12 : Option V}
theorem pe6 (S : PeS n vs Hs H ce [c0, c1, c2, c3, c4, c5, c6, c7, c8, c9, c10, c11, c12]) (F : Rls Hs H f fr 2) (U : Rls Hs H u bu 1) (hcu : u ≠ ce) (hfu : u ≠ f) (hfar : farOk far) (hv : vs.length ≤ 100) (hk : 0 ≤ k ∧ k ≤ 11) (q : PeQ n vs Hs sh k QF a b c (.int far)) :
    wpSs Θg (peB.drop 6) [some a, some b, some c, some (.int far), some (.ref n), some (.int sh), some (.int k), some (.ref ce), some (.ref f), some (.ref u), t10, t11, t12] H QF XF := by
  have hce : listAt H ce = some [.int c0, .int c1, .int c2, .int c3, .int c4, .int c5, .int c6, .int c7, .int c8, .int c9, .int c10, .int c11, .int c12] := S.cells
  refine zs_cons ?_
  generalize hK : sqX Θg (_ :: _) = K
  simp_arith only [hce, k10, s10, ↓Tg_pb]
  refine ⟨fun _ => ⟨⟨_, U.at'⟩, _, c10, c11, c12, far, 3, rfl, listAt_new, hfar, ⟨by decide, by decide⟩, fun p H2 hp2 hpf => ?_⟩, fun _ => by subst hK; exact pe7 S F (U.le (by decide)) hfu hv hk q⟩
  simp_arith only [↓Tg_hb]
  refine ⟨c10, far, p, hfar, hpf, fun r H3 hp3 hr => ?_⟩
  have pp := pre_new.trans (hp2.trans hp3)
  have U3 := U.to pp
  simp_arith only [U3.at']
  refine ⟨by rw [List.length_map]; have := U3.len; lia, ?_⟩
  subst hK
  exact pe7 ((S.to pp).set U.new hcu) ((F.to pp).set hfu) (U3.app hr) hfu hv hk q
theorem pe5 (S : PeS n vs Hs H ce [c0, c1, c2, c3, c4, c5, c6, c7, c8, c9, c10, c11, c12]) (F : Rls Hs H f fr 2) (U : Rls Hs H u bu 0) (hcu : u ≠ ce) (hfu : u ≠ f) (hfar : farOk far) (hv : vs.length ≤ 100) (hk : 0 ≤ k ∧ k ≤ 11) (q : PeQ n vs Hs sh k QF a b c (.int far)) :
    wpSs Θg (peB.drop 5) [some a, some b, some c, some (.int far), some (.ref n), some (.int sh), some (.int k), some (.ref ce), some (.ref f), some (.ref u), t10, t11, t12] H QF XF := by
  have hce : listAt H ce = some [.int c0, .int c1, .int c2, .int c3, .int c4, .int c5, .int c6, .int c7, .int c8, .int c9, .int c10, .int c11, .int c12] := S.cells
  have hce1 := fun o => listAt_pre (pre_new (o := o)) hce
  have hce2 := fun o o' => listAt_pre (pre_new (o := o')) (hce1 o)
  refine e1_2 (two_at (decide (c0 / 5 % 8 = 1))) fun m hm hm2 => ?_
  refine zs_cons ?_
  generalize hK : sqX Θg (_ :: _) = K
  simp_arith only [hce, hce1, hce2, s7, listAt_new, hm, ↓Tg_pb]
  refine ⟨fun _ => ⟨⟨_, U.at'⟩, _, c7, c8, c9, far, m, rfl, listAt_pre pre_new listAt_new, hfar, hm2, fun p H2 hp2 hpf => ?_⟩, fun _ => by subst hK; exact pe6 S F (U.le (by decide)) hcu hfu hfar hv hk q⟩
  have pp := pre_new.trans (pre_new.trans hp2)
  have U3 := U.to pp
  simp_arith only [U3.at']
  refine ⟨by rw [List.length_map]; have := U3.len; lia, ?_⟩
  subst hK
  exact pe6 ((S.to pp).set U.new hcu) ((F.to pp).set hfu) (U3.app (r := .pl p) hpf) hcu hfu hfar hv hk q
theorem pe4 (S : PeS n vs Hs H ce [c0, c1, c2, c3, c4, c5, c6, c7, c8, c9, c10, c11, c12]) (F : Rls Hs H f fr 2) (hfar : farOk far) (hv : vs.length ≤ 100) (hk : 0 ≤ k ∧ k ≤ 11) (q : PeQ n vs Hs sh k QF a b c (.int far)) :
    wpSs Θg (peB.drop 4) [some a, some b, some c, some (.int far), some (.ref n), some (.int sh), some (.int k), some (.ref ce), some (.ref f), t9, t10, t11, t12] H QF XF := by
  refine zs_cons ?_
  generalize hK : sqX Θg (_ :: _) = K
  simp_arith only [X_lit]
  subst hK
  have h1 := listAt_lt S.cells
  have h2 := listAt_lt F.at'
  exact pe5 (S.to pre_new) (F.to pre_new) (bu := []) ⟨listAt_new, fun _ h => (nomatch h), Nat.le_refl _, S.pre.length_le⟩ (by lia) (by lia) hfar hv hk q
theorem pe3 {p : Pl} (S : PeS n vs Hs H ce [c0, c1, c2, c3, c4, c5, c6, c7, c8, c9, c10, c11, c12]) (F : Rls Hs H f (.pl p :: fr) 2) (hcf : f ≠ ce) (hfar : farOk far) (hv : vs.length ≤ 100) (hk : 0 ≤ k ∧ k ≤ 11) (q : PeQ n vs Hs sh k QF a b c (.int far)) :
    wpSs Θg (peB.drop 3) [some a, some b, some c, some (.int far), some (.ref n), some (.int sh), some (.int k), some (.ref ce), some (.ref f), t9, t10, t11, t12] H QF XF := by
  have hce : listAt H ce = some [.int c0, .int c1, .int c2, .int c3, .int c4, .int c5, .int c6, .int c7, .int c8, .int c9, .int c10, .int c11, .int c12] := S.cells
  have hf : listAt H f = some (pv p :: fr.map rv) := F.at'
  refine zs_cons ?_
  generalize hK : sqX Θg (_ :: _) = K
  simp_arith only [hce, k4, hf, ↓Tg_hb]
  refine ⟨fun _ => ⟨c4, far, p, hfar, F.fine (.pl p) List.mem_cons_self, fun r H2 hp2 hr => ?_⟩, fun _ => by subst hK; exact pe4 S F hfar hv hk q⟩
  have F2 := F.to hp2
  have hf2 := listAt_pre hp2 hf
  simp_arith only [hf2]
  refine ⟨by lia, ?_⟩
  subst hK
  refine pe4 ((S.to hp2).set F.new hcf) (fr := r :: fr) ⟨listAt_set hf2, fun x hx => ?_, F.len, F.new⟩ hfar hv hk q
  rcases List.mem_cons.mp hx with e | e
  · rw [e]; exact hr
  · exact F.fine x (List.mem_cons_of_mem _ e)
theorem pe2 {p : Pl} (S : PeS n vs Hs H ce [c0, c1, c2, c3, c4, c5, c6, c7, c8, c9, c10, c11, c12]) (F : Rls Hs H f [.pl p] 1) (hcf : f ≠ ce) (hfar : farOk far) (hv : vs.length ≤ 100) (hk : 0 ≤ k ∧ k ≤ 11) (q : PeQ n vs Hs sh k QF a b c (.int far)) :
    wpSs Θg (peB.drop 2) [some a, some b, some c, some (.int far), some (.ref n), some (.int sh), some (.int k), some (.ref ce), some (.ref f), t9, t10, t11, t12] H QF XF := by
  have hce : listAt H ce = some [.int c0, .int c1, .int c2, .int c3, .int c4, .int c5, .int c6, .int c7, .int c8, .int c9, .int c10, .int c11, .int c12] := S.cells
  refine zs_cons ?_
  generalize hK : sqX Θg (_ :: _) = K
  simp_arith only [hce, s4, ↓Tg_pb]
  refine ⟨fun _ => ⟨⟨_, F.at'⟩, _, c4, c5, c6, far, 5, rfl, listAt_new, hfar, ⟨by decide, by decide⟩, fun p2 H2 hp2 hpf => ?_⟩, fun _ => by subst hK; exact pe3 S (F.le (by decide)) hcf hfar hv hk q⟩
  have pp := pre_new.trans hp2
  have F3 := F.to pp
  simp_arith only [F3.at']
  refine ⟨by rw [List.length_map]; have := F3.len; lia, ?_⟩
  subst hK
  exact pe3 (fr := [.pl p2]) ((S.to pp).set F.new hcf) (F3.app (r := .pl p2) hpf) hcf hfar hv hk q
theorem pe1 (S : PeS n vs Hs H ce [c0, c1, c2, c3, c4, c5, c6, c7, c8, c9, c10, c11, c12]) (hfar : farOk far) (hv : vs.length ≤ 100) (hk : 0 ≤ k ∧ k ≤ 11) (q : PeQ n vs Hs sh k QF a b c (.int far)) :
    wpSs Θg (peB.drop 1) [some a, some b, some c, some (.int far), some (.ref n), some (.int sh), some (.int k), some (.ref ce), t8, t9, t10, t11, t12] H QF XF := by
  have hce : listAt H ce = some [.int c0, .int c1, .int c2, .int c3, .int c4, .int c5, .int c6, .int c7, .int c8, .int c9, .int c10, .int c11, .int c12] := S.cells
  refine zs_cons ?_
  generalize hK : sqX Θg (_ :: _) = K
  simp_arith only [hce, s1, ↓Tg_fb]
  refine ⟨_, c1, c2, c3, far, rfl, listAt_new, hfar, fun p H2 hp2 hpf => ?_⟩
  simp_arith only [X_lit]
  subst hK
  have pp := pre_new.trans hp2
  have h1 := listAt_lt S.cells
  have h2 := pp.length_le
  refine pe2 ((S.to pp).to pre_new) ⟨listAt_new, fun r hr => ?_, Nat.le_refl _, Nat.le_trans S.pre.length_le h2⟩ (by lia) hfar hv hk q
  rw [List.mem_singleton.mp hr]; exact hpf
end
theorem ce_comp {ns : List Int} {at0 k far : Int} {v2 v4 v5 : V} {t7 t8 t9 t10 t11 t12 : Option V} {H : Hp} {X : XL} {Q : List V → Hp → Prop} (hz : ns.length ≤ 1000) : ∀ (js : List Int) (acc : List V), Q (acc ++ js.map fun j => V.int (cell ns (at0 + 13 * k + j))) H →
    compGo (coEX Θg (.call (.fn "_law_cell_at") [(.loc 0), (.bin .Add (.bin .Add (.loc 1) (.bin .Mult (.lit (.int 13)) (.loc 6))) (.loc 10))]) X) (fun _ => True) 10
      [some (.scr ns), some (.int at0), some v2, some (.int far), some v4, some v5, some (.int k), t7, t8, t9, t10, t11, t12] (js.map V.int) acc H Q := by
  intro js
  induction js with
  | nil => intro acc q; rw [List.map_nil, List.append_nil] at q; exact q
  | cons j js ih =>
    intro acc q
    rw [List.map_cons, coX_cons]
    simp_arith only [↓Tg_ca, ↓cc_cell]
    refine ⟨hz, ih _ ?_⟩
    rw [List.map_cons, List.append_cons] at q
    exact q
theorem range13 : rangeL 0 13 = [0, 1, 2, 3, 4, 5, 6, 7, 8, 9, 10, 11, 12].map V.int := rfl
structure Ppl (H : Hp) (n : Nat) (as : List Ad) (ps : List Prs) (me : Prs → List (Int × Int)) : Prop where
  ln : listAt H n = some (refs as)
  at' : PsAt H me as ps
  nd : (n :: ads as).Nodup
theorem Ppl.pre {H H' : Hp} {n : Nat} {as : List Ad} {ps : List Prs} {me : Prs → List (Int × Int)} (q : H <+: H') (P : Ppl H n as ps me) : Ppl H' n as ps me := ⟨listAt_pre q P.ln, P.at'.pre q, P.nd⟩
theorem Ppl.fr {F : List Nat} {H H' : Hp} {n : Nat} {as : List Ad} {ps : List Prs} {me : Prs → List (Int × Int)} (P : Ppl H n as ps me) (f : Fr F H H') (hd : ∀ i ∈ n :: ads as, i ∉ F) : Ppl H' n as ps me := ⟨f.list (hd n List.mem_cons_self) P.ln, P.at'.fr f fun i hi => hd i (List.mem_cons_of_mem _ hi), P.nd⟩
theorem Ppl.lt {H : Hp} {n : Nat} {as : List Ad} {ps : List Prs} {me : Prs → List (Int × Int)} (P : Ppl H n as ps me) : ∀ i ∈ n :: ads as, i < H.length := fun i hi => by
  rcases List.mem_cons.mp hi with q | q
  · rw [q]; exact listAt_lt P.ln
  · exact P.at'.lt i q
theorem Ppl.snoc {H H' : Hp} {n : Nat} {as : List Ad} {ps : List Prs} {me : Prs → List (Int × Int)} {a : Ad} {p : Prs} (P : Ppl H n as ps me) (f : Fr [n] H H') (hn : listAt H' n = some (refs as ++ [.ref a.i])) (ha : PA H' a p (me p)) (hg : ∀ x ∈ a.all, H.length ≤ x) (hd : a.all.Nodup) : Ppl H' n (as ++ [a]) (ps ++ [p]) me := by
  have nd := List.nodup_cons.mp P.nd
  have lt := P.lt
  have e : ads (as ++ [a]) = ads as ++ a.all := by unfold ads; rw [List.flatMap_append]; show _ ++ (a.all ++ []) = _; rw [List.append_nil]
  refine ⟨by rw [hn]; unfold refs; rw [List.map_append]; rfl, (P.at'.fr f fun i hi => nin1 fun q => nd.1 (q ▸ hi)).snoc ha, ?_⟩
  rw [e, ← List.cons_append]
  exact List.nodup_append.mpr ⟨P.nd, hd, fun x hx y hy q => by have := lt x hx; have := hg y hy; lia⟩
theorem pe_loop {ns : List Int} {at0 many far sh : Int} {n : Nat} {Q : QS} {XF : XS} (hz : ns.length ≤ 1000) (hfar : farOk far)
    (q : ∀ as ps H' L', Ppl H' n as ps (fun _ => []) → ((ps.length : Int) = many) → (∀ (i : Nat) p, ps[i]? = some p → Tag sh i p.nm ∧ Gp p) → Q .next (some (.scr ns) :: some (.int at0) :: some (.int many) :: some (.int far) :: some (.ref n) :: L') H') : ∀ (m j : Nat) (as : List Ad) (ps : List Prs) (H' : Hp) (t6 t7 t8 t9 t10 t11 t12 : Option V),
    ((j + m : Nat) : Int) = many → j + m ≤ 12 → Ppl H' n as ps (fun _ => []) → ps.length = j → (∀ (i : Nat) p, ps[i]? = some p → Tag sh i p.nm ∧ Gp p) →
    forGo (whBX Θg peB XF) (fun _ => True) 6 ((List.range' j m).map fun (m : Nat) => V.int (m : Int)) [some (.scr ns), some (.int at0), some (.int many), some (.int far), some (.ref n), some (.int sh), t6, t7, t8, t9, t10, t11, t12] H' Q := by
  intro m
  induction m with
  | zero => intro j as ps H' t6 t7 t8 t9 t10 t11 t12 hm _ P hj hg; exact q as ps H' _ P (by lia) hg
  | succ m ih =>
    intro j as ps H' t6 t7 t8 t9 t10 t11 t12 hm h12 P hj hg
    show forGo _ _ _ (V.int (j : Int) :: ((List.range' (j + 1) m).map fun (m : Nat) => V.int (m : Int))) _ _ _
    rw [foX_cons]
    refine zs_cons ?_
    generalize hK : sqX Θg (_ :: _) = K
    simp_arith only [X_lit]
    rw [range13]
    refine ce_comp hz _ [] ⟨by show 13 ≤ 1000000; decide, ?_⟩
    subst hK
    have hvs := P.at'.length
    refine pe1 (Hs := H') (vs := refs as) ⟨pre_new, listAt_lt P.ln, P.ln, listAt_new⟩ hfar (by unfold refs; rw [List.length_map]; lia) ⟨by lia, by lia⟩ fun a p H3 t7 t8 t9 t10 t11 t12 h1 h2 h3 h4 h5 h6 h7 => ?_
    refine ⟨trivial, ih (j + 1) (as ++ [a]) (ps ++ [p]) H3 _ _ _ _ _ _ _ (by lia) (by lia) (P.snoc h1 h4 h5 h2 h3) (by rw [List.length_append, List.length_singleton, hj]) fun i p' hi => ?_⟩
    by_cases hi2 : i < ps.length
    · rw [List.getElem?_append_left hi2] at hi; exact hg i p' hi
    · rw [List.getElem?_append_right (by lia)] at hi
      have : i - ps.length = 0 := by have := (List.getElem?_eq_some_iff.mp hi).1; exact Nat.lt_one_iff.mp this
      rw [this] at hi
      obtain rfl := Option.some.inj hi
      rw [show i = j by lia]; exact ⟨h7, h6⟩
theorem nodup_tags {sh : Int} {ps : List Prs} (h : ∀ (i : Nat) p, ps[i]? = some p → Tag sh i p.nm) : (ps.map Prs.nm).Nodup := by
  refine List.pairwise_map.mpr (List.pairwise_iff_getElem.mpr fun i j hi hj hij => ?_)
  exact (h i _ (List.getElem?_eq_getElem hi)).ne (by lia) (by lia) (h j _ (List.getElem?_eq_getElem hj))
inductive IC_people_by (H : Hp) (Q : V → Hp → Prop) : List V → Prop where
  | mk (ns : List Int) (at0 : Int) (many : Int) (far : Int) : (ns.length ≤ 1000) → (1 ≤ many) → (many ≤ 3) → (farOk far) → (∀ (n : Nat) (as : List Ad) (ps : List Prs) (H' : Hp), Ppl H' n as ps (fun _ => []) → ((ps.length : Int) = many) → (ps.map Prs.nm).Nodup → (∀ p ∈ ps, Gp p ∧ ∀ c, 117 ≤ c → p.nm ≠ zN c) → Q (.ref n) H') → IC_people_by H Q ([.scr ns, .int at0, .int many, .int far])
noncomputable def C_people_by : Ctr := fun vs H Q _ => IC_people_by H Q vs
theorem w_people_by : ∀ vs H Q X, C_people_by vs H Q X → wpFn Θg f_l_people_by vs H Q X := by
  rintro vs H Q X ⟨ns, at0, many, far, hz, h1, h2, hfar, q⟩
  refine fn_of rfl ?_
  change wpSs Θg f_l_people_by.body [some (.scr ns), some (.int at0), some (.int many), some (.int far), none, none, none, none, none, none, none, none, none] H _ _
  refine zs_cons ?_
  generalize hK : sqX Θg (_ :: _) = K
  simp_arith only [X_lit]
  subst hK
  refine zs_cons ?_
  generalize hK : sqX Θg (_ :: _) = K
  simp_arith only [↓Tg_ca, ↓cc_cell]
  refine ⟨hz, ?_⟩
  subst hK
  refine zs_cons ?_
  generalize hK : sqX Θg (_ :: _) = K
  simp_arith only [X_lit]
  refine ⟨⟨by lia, by lia⟩, ?_⟩
  rw [rangeL_N]
  subst hK
  refine pe_loop hz hfar (fun as ps H' L' P hlen hg => ?_) many.toNat 0 [] [] _ _ _ _ _ _ _ _ (by lia) (by lia) ⟨listAt_new, rfl, List.nodup_cons.mpr ⟨List.not_mem_nil, List.nodup_nil⟩⟩ rfl (fun i p h => no_some h)
  simp_arith only [X_lit]
  refine q _ as ps H' P hlen (nodup_tags fun i p h => (hg i p h).1) fun p hp => ?_
  obtain ⟨i, hi, e⟩ := List.getElem_of_mem hp
  have := hg i p (by rw [← e]; exact List.getElem?_eq_getElem hi)
  exact ⟨this.2, fun c hc => this.1.nz (by lia) (by lia) hc⟩
noncomputable def Θh : Orc := ext "_law_people_by" C_people_by Θg
end Mine
namespace Mine
open PySem
theorem Th_co : Θh (Str.ofString "Book." ++ Str.ofString "come") = C_come := rfl
theorem Th_bu : Θh (Str.ofString "Book." ++ Str.ofString "busy") = C_busy := rfl
theorem Th_in : Θh "Book.__init__" = C_init := rfl
structure Mk (H0 H : Hp) (k : Bk) (ps : List Prs) : Prop where
  fr : Fr [] H0 H
  foot : ∀ i ∈ k.foot, H0.length ≤ i
  book : BkAt H k ps []
  g : k.g = 0
  c : k.c = 5
noncomputable abbrev bsB : List IS := [(.expr (.mcall (.loc 1) "busy" [(.sub (.loc 2) (.lit (.int 0))), (.loc 3)]))]
theorem bo_in {XF : XS} {v0 : V} {k : Bk} {a : Ad} {p : Prs} {qs : List Prs} {t4 t5 t6 : Option V} {H0 : Hp} {Q : QS} {st : Hp → Prop} (P : PA H0 a p []) (hst : ∀ H', Fr [] H0 H' → st H') : ∀ (rs dn : List Rl) (H : Hp) (t3 : Option V), Mk H0 H k (qs ++ [⟨p.nm, p.fr, dn⟩]) → (∀ r ∈ rs, r.fine) → dn.length + rs.length ≤ 20 →
    (∀ H' t3', Mk H0 H' k (qs ++ [⟨p.nm, p.fr, dn ++ rs⟩]) → Q .next [some v0, some (.ref k.b), some (.ref a.i), t3', t4, t5, t6] H') →
    forGo (whBX Θh bsB XF) st 3 (rs.map rv) [some v0, some (.ref k.b), some (.ref a.i), t3, t4, t5, t6] H Q := by
  intro rs
  induction rs with
  | nil => intro dn H t3 M _ _ q; have := q H t3; rw [List.append_nil] at this; exact this M
  | cons r rs ih =>
    intro dn H t3 M hf hz q
    rw [List.map_cons, foX_cons]
    rw [List.length_cons] at hz
    have hi := M.fr.list (fun h => nomatch h) P.li
    simp_arith only [M.book.ns, hi, ↓Th_bu]
    refine ⟨k, qs, [], ⟨p.nm, p.fr, dn⟩, [], r, M.book, hf r List.mem_cons_self, by show dn.length < 20; lia, fun _ h => (nomatch h), fun H' f B => ?_⟩
    have M2 : Mk H0 H' k (qs ++ [⟨p.nm, p.fr, dn ++ [r]⟩]) := ⟨M.fr.trans f fun i hi => .inr (M.foot i (ft_ul hi)), M.foot, B, M.g, M.c⟩
    refine ⟨hst _ M2.fr, ih (dn ++ [r]) _ _ M2 (fun x h => hf x (.tail _ h)) (by rw [List.length_append, List.length_singleton]; lia) fun H' t3' M' => q H' t3' ?_⟩
    rw [List.append_assoc] at M'
    exact M'
noncomputable abbrev boL : List IS := [(.expr (.mcall (.loc 1) "come" [(.sub (.loc 2) (.lit (.int 0))), (.call (.ty .list) [(.sub (.loc 2) (.lit (.int 1)))])])), (.for 3 .val (.sub (.loc 2) (.lit (.int 2))) bsB)]
theorem bo_loop {XF : XS} {n b : Nat} {vs0 : List V} {t4 t5 t6 : Option V} {H0 : Hp} {Q : QS} (hl : listAt H0 n = some vs0) : ∀ (as : List Ad) (ps qs : List Prs) (H : Hp) (k : Bk) (t2 t3 : Option V), k.b = b → PsAt H0 (fun _ => []) as ps → Mk H0 H k qs → ((qs ++ ps).map Prs.nm).Nodup → (∀ p ∈ ps, Gp p) → qs.length + ps.length ≤ 100 →
    (∀ k' H' t2' t3', k'.b = b → Mk H0 H' k' (qs ++ ps) → Q .next [some (.ref n), some (.ref b), t2', t3', t4, t5, t6] H') →
    forGo (whBX Θh boL XF) (fun H' => listAt H' n = some vs0) 2 (refs as) [some (.ref n), some (.ref b), t2, t3, t4, t5, t6] H Q := by
  intro as
  induction as with
  | nil =>
    intro ps qs H k t2 t3 hb hps M _ _ _ q
    obtain rfl := hps
    have := q k H t2 t3 hb
    rw [List.append_nil] at this
    exact this M
  | cons a as ih =>
    intro ps qs H k t2 t3 hb hps M hn hg hz q
    refine e2_3 hps fun p rest e_240 P hr => ?_
    obtain rfl := e_240
    have gp := hg p List.mem_cons_self
    rw [List.length_cons] at hz
    have hi := M.fr.list (fun h => nomatch h) P.li
    have lf := M.fr.list (fun h => nomatch h) P.lf
    have hni : p.nm ∉ qs.map Prs.nm := fun hm => by
      rw [List.map_append] at hn
      exact (List.nodup_append.mp hn).2.2 p.nm hm p.nm (.head _) rfl
    have hns := M.book.ns
    obtain rfl := hb
    rw [show refs (a :: as) = .ref a.i :: refs as from rfl, foX_cons]
    refine zs_cons ?_
    generalize hK : sqX Θh (_ :: _) = K
    have pp : H <+: H ++ [.list (p.fr.map rv)] := pre_new
    simp_arith only [hns, hi, lf, ↓Th_co]
    have B1 := M.book.pre pp
    have hd1 := listAt_new (H := H) (l := p.fr.map rv)
    have e1 : (H ++ [O.list (p.fr.map rv)]).length = H.length + 1 := by rw [List.length_append]; rfl
    have hdf : H.length ∉ k.foot := fun h => by have := M.book.lt _ h; lia
    have f1 : Fr [] H0 (H ++ [.list (p.fr.map rv)]) := M.fr.trans (Fr.pre (F := []) pp) (fun _ h => nomatch h)
    have hH0 := M.fr.len
    generalize H ++ [O.list (p.fr.map rv)] = H1 at *
    have fr2 := gp.fr
    refine ⟨k, qs, [], p.nm, H.length, p.fr, B1, hd1, hdf, gp.nm, hni, by lia, gp.fine.1, by lia, fun H2 k2 f2 hb2 hg2 hc2 hk2 B2 => ?_⟩
    subst hK
    have M2 : Mk H0 H2 k2 (qs ++ [⟨p.nm, p.fr, []⟩]) := ⟨f1.trans f2 fun i hi => .inr (M.foot i hi), fun i hi => by
      rcases hk2 i hi with h | h
      · exact M.foot i h
      · lia, B2, hg2.trans M.g, hc2.trans M.c⟩
    have hi2 := M2.fr.list (fun h => nomatch h) P.li
    have lu2 := M2.fr.list (fun h => nomatch h) P.lu
    refine zs_cons ?_
    generalize hK : sqX Θh [] = K
    simp_arith only [hi2, lu2]
    subst hK
    have bl := gp.bu
    rw [← hb2]
    refine bo_in (k := k2) P (fun H' f => f.list (fun h => nomatch h) P.lu) p.bu [] H2 _ M2 gp.fine.2 (by show 0 + _ ≤ _; lia) fun H3 t3' M3 => ?_
    rw [List.nil_append] at M3
    refine ⟨M3.fr.list (fun h => nomatch h) hl, ?_⟩
    rw [hb2]
    refine ih rest (qs ++ [p]) H3 k2 _ _ hb2 hr M3 (by rw [List.append_assoc]; exact hn) (fun x h => hg x (.tail _ h)) (by rw [List.length_append, List.length_singleton]; lia) fun k' H' t2' t3' hb' M' => ?_
    rw [List.append_assoc] at M'
    exact q k' H' t2' t3' hb' M'
inductive IC_book_of (H : Hp) (Q : V → Hp → Prop) : List V → Prop where
  | mk (n : Nat) (as : List Ad) (ps : List Prs) : (Ppl H n as ps (fun _ => [])) → ((ps.map Prs.nm).Nodup) → ((∀ p ∈ ps, Gp p)) → (ps.length ≤ 100) → (∀ (H' : Hp) (k : Bk), Mk H H' k ps → Q (.ref k.b) H') → IC_book_of H Q ([.ref n])
noncomputable def C_book_of : Ctr := fun vs H Q _ => IC_book_of H Q vs
theorem w_book_of : ∀ vs H Q X, C_book_of vs H Q X → wpFn Θh f_l_book_of vs H Q X := by
  rintro vs H Q X ⟨n, as, ps, P, hn, hg, hz, q⟩
  refine fn_of rfl ?_
  change wpSs Θh f_l_book_of.body [some (.ref n), none, none, none, none, none, none] H _ _
  refine zs_cons ?_
  generalize hK : sqX Θh (_ :: _) = K
  simp_arith only [↓Th_in]
  refine ⟨H, rfl, rfl, fun H1 k hp hb hk hc hf B => ⟨rfl, ?_⟩⟩
  subst hK
  rw [← hb]
  have M : Mk H H1 k [] := ⟨Fr.pre hp, hf, B, hk, hc⟩
  have hl := P.ln
  have hl2 := M.fr.list (fun h => nomatch h) hl
  refine zs_cons ?_
  generalize hK : sqX Θh (_ :: _) = K
  simp_arith only [hl2]
  subst hK
  refine bo_loop hl as ps [] H1 k _ _ rfl P.at' M hn hg (by show 0 + _ ≤ _; lia) fun k' H' t2 t3 hb' M' => ?_
  simp_arith only [X_lit]
  rw [← hb']
  exact q H' k' M'
noncomputable def Θi : Orc := ext "_law_book_of" C_book_of Θh
end Mine
namespace Mine
open PySem
theorem bools_map : ∀ l : List Bool, allBools (l.map V.bool) = some l
  | [] => rfl
  | b :: r => by
    show ((allBools (r.map V.bool)).map _) = _
    rw [bools_map r]; rfl
theorem Ti_si : Θi "_law_size" = C_size := rfl
theorem Ti_bu : Θi "_law_begun" = C_begun := rfl
noncomputable def C_lasts : Ctr := fun vs H Q _ => ∃ (r : Rl) (x : Int), vs = [rv r, .int x] ∧ r.fine ∧ 0 ≤ x ∧ ∀ H', H <+: H' → Q (.bool (cov r x)) H'
noncomputable abbrev laB : List IS := bdy (f_l_lasts.body.getD 0 .fail)
theorem la_loop {XF : XS} {r : Rl} {x : Int} {t3 t4 t5 : Option V} {H0 : Hp} {Q : QS} (hf : r.fine) : ∀ (ks : List Int) (t2 : Option V) (H : Hp), H0 <+: H →
    (∀ L' H', H0 <+: H' → (ks.any fun k => bg r (x - k)) = true → Q (.ret (.bool true)) L' H') → (∀ L' H', H0 <+: H' → (ks.any fun k => bg r (x - k)) = false → Q .next L' H') →
    forGo (whBX Θi laB XF) (fun _ => True) 2 (ks.map V.int) [some (rv r), some (.int x), t2, t3, t4, t5] H Q := by
  intro ks
  induction ks with
  | nil => intro t2 H hp _ q; exact q _ H hp rfl
  | cons k ks ih =>
    intro t2 H hp q1 q2
    rw [List.map_cons, foX_cons]
    rw [List.any_cons] at q1 q2
    refine zs_cons ?_
    simp_arith only [↓Ti_bu]
    refine ⟨fun h => ⟨r, x - k, rfl, hf, by lia, fun H1 hp1 => ?_⟩, fun h => ?_⟩
    · rw [same_begun hf (by lia)] at q1 q2
      simp_arith only [X_lit]
      refine iX_b (fun hb => ?_) (fun hb => ?_)
      · exact q1 _ _ (hp.trans hp1) (by rw [hb]; rfl)
      · rw [hb, Bool.false_or] at q1 q2
        exact ih _ _ (hp.trans hp1) q1 q2
    · have e : bg r (x - k) = false := by unfold bg; rw [if_pos (by lia)]
      rw [e, Bool.false_or] at q1 q2
      exact ih _ _ hp q1 q2
theorem w_lasts : ∀ vs H Q X, C_lasts vs H Q X → wpFn Θi f_l_lasts vs H Q X := by
  rintro vs H Q X ⟨r, x, rfl, hf, h0, q⟩
  refine fn_of rfl ?_
  change wpSs Θi f_l_lasts.body [some (rv r), some (.int x), none, none, none, none] H _ _
  have e1 : 1 ≤ r.size := hf.inner.size.1
  have e2 : r.size ≤ 48 := hf.inner.size.2
  unfold cov at q
  refine zs_cons ?_
  generalize hK : sqX Θi (_ :: _) = K
  simp_arith only [↓Ti_si]
  refine ⟨r, rfl, fun H1 hp1 => ?_⟩
  simp_arith only [X_lit]
  refine ⟨⟨by lia, by lia⟩, ?_⟩
  rw [rangeL_J]
  subst hK
  refine la_loop hf _ _ H1 hp1 (fun L' H' hp h => ?_) (fun L' H' hp h => ?_)
  · have := q H' hp; rw [h] at this; exact this
  · have := q H' hp; rw [h] at this; exact this
noncomputable def Θj : Orc := ext "_law_lasts" C_lasts Θi
theorem Tj_la : Θj "_law_lasts" = C_lasts := rfl
noncomputable def inM (x : Int) (q : Int × Int) : Bool := decide (q.1 ≤ x) && decide (x < q.1 + q.2)
theorem om_comp {s : Nat} {vs0 : List V} {v0 : V} {x : Int} {t2 t3 t4 : Option V} {X : XL} {H : Hp} {Q : List V → Hp → Prop} (hs : listAt H s = some vs0) : ∀ (ms : List (Int × Int)) (bs : List Bool), Q ((bs ++ ms.map (inM x)).map V.bool) H →
    compGoB (coEX Θj (.and (.cmp (.loc 2) .LtE (.loc 1)) (.cmp (.loc 1) .Lt (.bin .Add (.loc 2) (.loc 3)))) X) (fun H' => listAt H' s = some vs0) (bd2 2 [some v0, some (.int x), t2, t3, t4]) (ms.map metV) (bs.map V.bool) H Q := by
  intro ms
  induction ms with
  | nil => intro bs q; rw [List.map_nil, List.append_nil] at q; exact q
  | cons m ms ih =>
    intro bs q
    rw [List.map_cons, show metV m = .tup [.int m.1, .int m.2] from rfl, co2_cons]
    have nx : inM x m = decide (m.1 ≤ x) → Q = Q := fun _ => rfl
    have step : ∀ b, inM x m = b → listAt H s = some vs0 ∧ compGoB (coEX Θj (.and (.cmp (.loc 2) .LtE (.loc 1)) (.cmp (.loc 1) .Lt (.bin .Add (.loc 2) (.loc 3)))) X) (fun H' => listAt H' s = some vs0) (bd2 2 [some v0, some (.int x), t2, t3, t4]) (ms.map metV) (bs.map V.bool ++ [.bool b]) H Q := fun b hb => by
      have := ih (bs ++ [b]) (by rw [List.map_cons, hb, List.append_cons] at q; exact q)
      rw [List.map_append] at this
      exact ⟨hs, this⟩
    simp_arith only [X_lit]
    refine ⟨fun h => step _ (by unfold inM; rw [decide_eq_true h]; rfl), fun h => ?_⟩
    rw [decide_eq_false h]
    exact step _ (by unfold inM; rw [decide_eq_false h]; rfl)
theorem ls_comp {s : Nat} {vs0 : List V} {v0 : V} {x : Int} {t2 t3 t4 : Option V} {X : XL} {Q : List V → Hp → Prop} (h0 : 0 ≤ x) : ∀ (rs : List Rl) (bs : List Bool) (H : Hp), listAt H s = some vs0 → (∀ r ∈ rs, r.fine) → (∀ H', H <+: H' → Q ((bs ++ rs.map fun r => cov r x).map V.bool) H') →
    compGo (coEX Θj (.call (.fn "_law_lasts") [(.loc 2), (.loc 1)]) X) (fun H' => listAt H' s = some vs0) 2 [some v0, some (.int x), t2, t3, t4] (rs.map rv) (bs.map V.bool) H Q := by
  intro rs
  induction rs with
  | nil => intro bs H _ _ q; have := q H (List.prefix_refl _); rw [List.map_nil, List.append_nil] at this; exact this
  | cons r rs ih =>
    intro bs H hs hf q
    rw [List.map_cons, coX_cons]
    simp_arith only [↓Tj_la]
    refine ⟨r, x, rfl, hf r List.mem_cons_self, h0, fun H1 hp1 => ⟨listAt_pre hp1 hs, ?_⟩⟩
    have := ih (bs ++ [cov r x]) H1 (listAt_pre hp1 hs) (fun r h => hf r (.tail _ h)) fun H' hp => by
      have := q H' (hp1.trans hp)
      rw [List.map_cons, List.append_cons] at this; exact this
    rw [List.map_append] at this
    exact this
theorem any_id {α : Type} (f : α → Bool) (l : List α) : (l.map f).any id = l.any f := by rw [List.any_map]; rfl
inductive IC_open (H : Hp) (Q : V → Hp → Prop) : List V → Prop where
  | mk (a : Ad) (p : Prs) (ms : List (Int × Int)) (x : Int) : (PA H a p ms) → (p.fine) → (0 ≤ x) → (ms.length ≤ 1000) → (p.fr.length ≤ 1000) → (p.bu.length ≤ 1000) → (∀ H', H <+: H' → Q (.bool (!ms.any (inM x) && freeAt p x)) H') → IC_open H Q ([.ref a.i, .int x])
noncomputable def C_open : Ctr := fun vs H Q _ => IC_open H Q vs
theorem w_open : ∀ vs H Q X, C_open vs H Q X → wpFn Θj f_l_open vs H Q X := by
  rintro vs H Q X ⟨a, p, ms, x, P, hf, h0, z1, z2, z3, q⟩
  refine fn_of rfl ?_
  change wpSs Θj f_l_open.body [some (.ref a.i), some (.int x), none, none, none] H _ _
  refine zs_cons ?_
  generalize hK : sqX Θj (_ :: _) = K
  have le := P.le
  simp_arith only [P.li, le]
  refine om_comp le ms [] ⟨by rw [List.nil_append, List.length_map, List.length_map]; lia, ?_⟩
  rw [List.nil_append]
  simp_arith only [listAt_new, bools_map, any_id]
  refine iX_b (fun hm => ?_) (fun hm => ?_)
  · subst hK
    have := q (H ++ [.list ((ms.map (inM x)).map V.bool)]) pre_new
    rw [hm] at this; exact this
  subst hK
  have P1 : PA (H ++ [O.list ((ms.map (inM x)).map V.bool)]) a p ms := P.fr (F := []) (Fr.pre pre_new) fun _ _ h => nomatch h
  have q1 : ∀ H', H ++ [O.list ((ms.map (inM x)).map V.bool)] <+: H' → Q (.bool (freeAt p x)) H' := fun H' hp => by
    have := q H' (pre_new.trans hp)
    rw [hm] at this; exact this
  generalize H ++ [O.list ((ms.map (inM x)).map V.bool)] = H1 at *
  unfold freeAt at q1
  refine zs_cons ?_
  generalize hK : sqX Θj (_ :: _) = K
  have lf := P1.lf
  simp_arith only [P1.li, lf]
  refine ls_comp h0 p.fr [] H1 lf hf.1 fun H2 hp2 => ⟨by rw [List.nil_append, List.length_map, List.length_map]; lia, ?_⟩
  rw [List.nil_append]
  simp_arith only [listAt_new, bools_map, any_id]
  have P2 : PA (H2 ++ [O.list ((p.fr.map fun r => cov r x).map V.bool)]) a p ms := P1.fr (F := []) (Fr.pre (hp2.trans pre_new)) fun _ _ h => nomatch h
  have q2 : ∀ H', H2 ++ [O.list ((p.fr.map fun r => cov r x).map V.bool)] <+: H' → Q (.bool ((p.fr.any fun r => cov r x) && !p.bu.any fun r => cov r x)) H' := fun H' hp => q1 H' (hp2.trans (pre_new.trans hp))
  generalize H2 ++ [O.list ((p.fr.map fun r => cov r x).map V.bool)] = H3 at *
  subst hK
  cases hfr : p.fr.any fun r => cov r x with
  | false => have := q2 H3 (List.prefix_refl _); rw [hfr] at this; exact this
  | true =>
    rw [hfr] at q2
    have lu := P2.lu
    show wpSs Θj (f_l_open.body.drop 2) _ _ _ _
    refine zs_cons ?_
    generalize hK : sqX Θj [] = K
    simp_arith only [P2.li, lu]
    refine ls_comp h0 p.bu [] H3 lu hf.2 fun H4 hp4 => ⟨by rw [List.nil_append, List.length_map, List.length_map]; lia, ?_⟩
    rw [List.nil_append]
    simp_arith only [listAt_new, bools_map, any_id]
    subst hK
    exact q2 _ (hp4.trans pre_new)
noncomputable def Θk : Orc := ext "_law_open" C_open Θj
end Mine
namespace Mine
open PySem
noncomputable def mets (hs : List Mtg) (nm : Str) : List (Int × Int) := (hs.filter fun m => m.who.contains nm).map fun m => (m.hr, m.sz)
theorem meets_mets {nm : Str} {x : Int} : ∀ {hs : List Mtg}, (∀ m ∈ hs, m.no ≠ 0) → meets 0 hs nm x = (mets hs nm).any (inM x)
  | [], _ => rfl
  | m :: hs, h => by
    have e : meets 0 (m :: hs) nm x = ((decide (m.no ≠ 0) && (m.who.contains nm && inM x (m.hr, m.sz))) || meets 0 hs nm x) := List.any_cons
    rw [e, decide_eq_true (h m List.mem_cons_self), meets_mets fun m hm => h m (.tail _ hm)]
    unfold mets
    rw [List.filter_cons]
    cases m.who.contains nm with
    | true => rw [if_pos rfl, List.map_cons, List.any_cons]; rfl
    | false => rw [if_neg Bool.false_ne_true]; rfl
noncomputable abbrev meB (hs : List Mtg) : Prs → List (Int × Int) := fun p => mets hs p.nm
theorem mets_app {hs : List Mtg} {m : Mtg} {nm : Str} : mets (hs ++ [m]) nm = if m.who.contains nm = true then mets hs nm ++ [(m.hr, m.sz)] else mets hs nm := by
  unfold mets
  rw [List.filter_append, List.map_append]
  cases h : m.who.contains nm with
  | true => rw [if_pos rfl, List.filter_cons, h]; rfl
  | false => rw [if_neg Bool.false_ne_true, List.filter_cons, h]; show _ ++ [] = _; rw [List.append_nil]
theorem mets_len {hs : List Mtg} {nm : Str} : (mets hs nm).length ≤ hs.length := by unfold mets; rw [List.length_map]; exact List.length_filter_le _ _
theorem PsAt.congr {H : Hp} {me me' : Prs → List (Int × Int)} : ∀ {as : List Ad} {ps : List Prs}, (∀ p ∈ ps, me p = me' p) → PsAt H me as ps → PsAt H me' as ps
  | [], _, _, h => h
  | _ :: _, _, hc, ⟨p, qs, e, h, r⟩ => ⟨p, qs, e, hc p (by rw [e]; exact .head _) ▸ h, r.congr fun x hx => hc x (by rw [e]; exact .tail _ hx)⟩
noncomputable def opn (hs : List Mtg) (p : Prs) (x : Int) : Bool := !(mets hs p.nm).any (inM x) && freeAt p x
theorem fre_opn {hs : List Mtg} {p : Prs} {x : Int} (hn : ∀ m ∈ hs, m.no ≠ 0) (h : 0 ≤ x) : fre 0 hs p x = opn hs p x := by
  unfold fre opn
  rw [decide_eq_false (by lia), meets_mets hn]; rfl
structure rowOk (hs : List Mtg) (qs : List Prs) (hours place : Int) (r : Row) : Prop where
  a : r.a = place
  m : place ≤ r.m
  x : r.m ≤ r.x
  e : r.x < r.a + hours
  w : ∃ q ∈ qs, q.nm = r.nm ∧ fre 0 hs q r.x = false
noncomputable def rowsOk (hs : List Mtg) (qs : List Prs) (hours : Int) : Int → List Row → Prop
  | _, [] => True
  | p, r :: rs => rowOk hs qs hours p r ∧ rowsOk hs qs hours (r.m + 1) rs
noncomputable def ends : Int → List Row → Int
  | p, [] => p
  | _, r :: rs => ends (r.m + 1) rs
structure lookOk (hs : List Mtg) (qs : List Prs) (hours last a : Int) (o : Option Int × List Row) : Prop where
  rows : rowsOk hs qs hours a o.2
  no : o.1 = none → ends a o.2 = max a (last + 1)
  yes : ∀ b, o.1 = some b → ends a o.2 = b ∧ a ≤ b ∧ b ≤ last ∧ ∀ q ∈ qs, ∀ x, b ≤ x → x < b + hours → fre 0 hs q x = true
theorem look_out {b : Int} {hs : List Mtg} {qs : List Prs} {hours last a : Int} {c : Nat} (h : last < a) : lookG b hs qs hours last c a = (none, []) := by
  cases c with
  | zero => rfl
  | succ c => unfold lookG; rw [if_neg (by lia)]
theorem lookG_ok {hs : List Mtg} {qs : List Prs} {hours last : Int} : ∀ (c : Nat) (a : Int), last + 1 - a ≤ (c : Int) → lookOk hs qs hours last a (lookG 0 hs qs hours last c a)
  | 0, a, h => ⟨trivial, fun _ => by show a = max a (last + 1); lia, fun b hb => by cases hb⟩
  | c + 1, a, h => by
    unfold lookG
    by_cases hle : a ≤ last
    · rw [if_pos hle]
      cases hb : barF 0 hs qs hours a with
      | none => exact ⟨trivial, fun h => (by cases h), fun b e => by obtain rfl := Option.some.inj e; exact ⟨rfl, Int.le_refl _, hle, barF_none hb⟩⟩
      | some r =>
        refine e0_3 (barF_some hb) fun h1 h2 w => ?_
        have ro : rowOk hs qs hours a ⟨a, min last r.2, r.1, r.2⟩ := ⟨rfl, by show a ≤ min last r.2; lia, by show min last r.2 ≤ r.2; lia, h2, w⟩
        by_cases hx : r.2 < last
        · have ih := lookG_ok (hs := hs) (qs := qs) (hours := hours) (last := last) c (r.2 + 1) (by lia)
          have e : min last r.2 = r.2 := by lia
          refine ⟨⟨ro, ?_⟩, fun h => ?_, fun b h => ?_⟩
          · show rowsOk hs qs hours (min last r.2 + 1) _; rw [e]; exact ih.rows
          · show ends (min last r.2 + 1) _ = _; rw [e, ih.no h]; lia
          · refine e0_4 (ih.yes b h) fun k1 k2 k3 k4 => ?_
            exact ⟨by show ends (min last r.2 + 1) _ = _; rw [e]; exact k1, by lia, k3, k4⟩
        · show lookOk hs qs hours last a ((lookG 0 hs qs hours last c (r.2 + 1)).1, ⟨a, min last r.2, r.1, r.2⟩ :: (lookG 0 hs qs hours last c (r.2 + 1)).2)
          rw [look_out (by lia)]
          refine ⟨⟨ro, trivial⟩, fun _ => ?_, fun b h => by cases h⟩
          show min last r.2 + 1 = _; lia
    · rw [if_neg hle]
      exact ⟨trivial, fun _ => by show a = max a (last + 1); lia, fun b hb => by cases hb⟩
theorem lookF_ok {hs : List Mtg} {qs : List Prs} {hours lo last : Int} : lookOk hs qs hours last lo (lookF 0 hs qs hours lo last) := lookG_ok _ _ (by lia)
theorem rows_len {b : Int} {hs : List Mtg} {qs : List Prs} {hours last : Int} : ∀ (c : Nat) (a : Int), (lookG b hs qs hours last c a).2.length ≤ c
  | 0, _ => Nat.le_refl _
  | c + 1, a => by
    unfold lookG
    by_cases hle : a ≤ last
    · rw [if_pos hle]
      cases hb : barF b hs qs hours a with
      | none => exact Nat.zero_le _
      | some r => exact Nat.succ_le_succ (rows_len c _)
    · rw [if_neg hle]; exact Nat.zero_le _
structure St (H : Hp) (k : Bk) (s : Nat) (as : List Ad) (ps qs : List Prs) (hs : List Mtg) : Prop where
  book : BkAt H k ps hs
  lm : listAt H s = some (refs as)
  at' : PsAt H (meB hs) as qs
  nd : (s :: ads as).Nodup
  dis : ∀ i ∈ s :: ads as, i ∉ k.foot
  sub : ∀ q ∈ qs, q ∈ ps ∧ q.fine
  ne : qs ≠ []
  nms : (qs.map Prs.nm).Nodup
  len : qs.length ≤ 100
  sm : ∀ q ∈ qs, q.fr.length ≤ 2 ∧ q.bu.length ≤ 10 ∧ q.nm.length ≤ 12 ∧ lowS q.nm
  hl : hs.length ≤ 2
  hm : ∀ m ∈ hs, 0 ≤ m.hr ∧ 0 ≤ m.sz ∧ m.sz ≤ 48
theorem St.fr {F : List Nat} {H H' : Hp} {k : Bk} {s : Nat} {as : List Ad} {ps qs : List Prs} {hs : List Mtg} (S : St H k s as ps qs hs) (f : Fr F H H') (h1 : ∀ i ∈ k.foot, i ∉ F) (h2 : ∀ i ∈ s :: ads as, i ∉ F) : St H' k s as ps qs hs :=
  ⟨S.book.fr f h1, f.list (h2 s List.mem_cons_self) S.lm, S.at'.fr f fun i hi => h2 i (.tail _ hi), S.nd, S.dis, S.sub, S.ne, S.nms, S.len, S.sm, S.hl, S.hm⟩
theorem St.pre {H H' : Hp} {k : Bk} {s : Nat} {as : List Ad} {ps qs : List Prs} {hs : List Mtg} (p : H <+: H') (S : St H k s as ps qs hs) : St H' k s as ps qs hs := S.fr (F := []) (Fr.pre p) (fun _ _ h => nomatch h) fun _ _ h => nomatch h
theorem St.no {H : Hp} {k : Bk} {s : Nat} {as : List Ad} {ps qs : List Prs} {hs : List Mtg} (S : St H k s as ps qs hs) : ∀ m ∈ hs, m.no ≠ 0 := fun m hm => by have := S.book.no m hm; lia
theorem Tk_wh : Θk "_law_whole" = C_whole := rfl
theorem Tk_op : Θk "_law_open" = C_open := rfl
theorem isi_list {H : Hp} {i : Nat} {l : List V} (h : listAt H i = some l) : isInstH H (.ref i) .list = some true := by
  show Option.map _ ((listAt H i).map _) = _
  rw [h]; rfl
inductive IC_is_told (H : Hp) (Q : V → Hp → Prop) : List V → Prop where
  | mk (o : Option Int) (x : Nat) (l : List V) : (listAt H x = some l) → (Q (.bool true) H) → IC_is_told H Q ([.tup [intO o, .ref x]])
noncomputable def C_is_told : Ctr := fun vs H Q _ => IC_is_told H Q vs
theorem w_is_told : ∀ vs H Q X, C_is_told vs H Q X → wpFn Θk f_l_is_told vs H Q X := by
  rintro vs H Q X ⟨o, x, l, hl, q⟩
  refine fn_of rfl ?_
  cases o with
  | none =>
    simp_arith only [f_l_is_told, initL, List.map_cons, List.map_nil, List.replicate, List.cons_append, List.nil_append, isi_tup, isi_list hl, intO, isNoneV]
    exact ⟨fun h => absurd n2 h, fun _ => q⟩
  | some a =>
    simp_arith only [f_l_is_told, initL, List.map_cons, List.map_nil, List.replicate, List.cons_append, List.nil_append, isi_tup, isi_list hl, intO, isNoneV, ↓Tk_wh]
    exact ⟨fun h => absurd n2 h, fun _ => ⟨a, rfl, q⟩⟩
noncomputable def Θl : Orc := ext "_law_is_told" C_is_told Θk
theorem Tl_wh : Θl "_law_whole" = C_whole := rfl
theorem Tl_op : Θl "_law_open" = C_open := rfl
theorem rh_comp {s : Nat} {vs0 : List V} {r : Row} {v1 v2 v3 : V} {t4 t5 t6 : Option V} {X : XL} {hs : List Mtg} {Q : List V → Hp → Prop} (h0 : 0 ≤ r.x) (hz : hs.length ≤ 2) : ∀ (as : List Ad) (qs : List Prs) (bs : List Bool) (H : Hp), listAt H s = some vs0 → PsAt H (meB hs) as qs → (∀ q ∈ qs, q.fine ∧ q.fr.length ≤ 2 ∧ q.bu.length ≤ 10) → (∀ H', H <+: H' → Q ((bs ++ qs.map fun q => q.nm == r.nm && !opn hs q r.x).map V.bool) H') →
    compGo (coEX Θl (.and (.cmp (.sub (.loc 4) (.lit (.int 0))) .Eq (.sub (.loc 0) (.lit (.int 2)))) (.not (.call (.fn "_law_open") [(.loc 4), (.sub (.loc 0) (.lit (.int 3)))]))) X) (fun H' => listAt H' s = some vs0) 4 [some (rowV r), some v1, some v2, some v3, t4, t5, t6] (refs as) (bs.map V.bool) H Q := by
  intro as
  induction as with
  | nil => intro qs bs H _ hr _ q; obtain rfl := hr; have := q H (List.prefix_refl _); rw [List.map_nil, List.append_nil] at this; exact this
  | cons a as ih =>
    intro qs bs H hs0 hr hf q
    refine e2_3 hr fun p rs e_241 P hr2 => ?_
    obtain rfl := e_241
    rw [show refs (a :: as) = .ref a.i :: refs as from rfl, coX_cons, show rowV r = .tup [.int r.a, .int r.m, .str r.nm, .int r.x] from rfl]
    have hp := hf p List.mem_cons_self
    have step : ∀ b H1, H <+: H1 → (p.nm == r.nm && !opn hs p r.x) = b → listAt H1 s = some vs0 ∧ compGo (coEX Θl (.and (.cmp (.sub (.loc 4) (.lit (.int 0))) .Eq (.sub (.loc 0) (.lit (.int 2)))) (.not (.call (.fn "_law_open") [(.loc 4), (.sub (.loc 0) (.lit (.int 3)))]))) X) (fun H' => listAt H' s = some vs0) 4 [some (rowV r), some v1, some v2, some v3, t4, t5, t6] (refs as) (bs.map V.bool ++ [.bool b]) H1 Q := fun b H1 hp1 hb => by
      have := ih rs (bs ++ [b]) H1 (listAt_pre hp1 hs0) (hr2.pre hp1) (fun q h => hf q (.tail _ h)) fun H' hp' => by
        have := q H' (hp1.trans hp')
        rw [List.map_cons, hb, List.append_cons] at this; exact this
      rw [List.map_append] at this
      exact ⟨listAt_pre hp1 hs0, this⟩
    simp_arith only [↓sV_str, ↓q_lenstr, ↓q_sstr, ↓q_ins, ↓q_nins, ↓u_str, ↓q_adds, P.li, ↓Tl_op]
    refine iX_b (fun hb => ⟨a, p, mets hs p.nm, r.x, P, hp.1, h0, by have := mets_len (hs := hs) (nm := p.nm); lia, by lia, by lia, fun H1 hp1 => step _ H1 hp1 (by rw [hb]; exact Bool.true_and _)⟩) (fun hb => ?_)
    rw [hb]
    exact step _ H (List.prefix_refl _) (by rw [hb]; rfl)
inductive IC_row_holds (H : Hp) (Q : V → Hp → Prop) : List V → Prop where
  | mk (k : Bk) (s : Nat) (as : List Ad) (ps : List Prs) (qs : List Prs) (hs : List Mtg) (r : Row) (hours : Int) (place : Int) : (St H k s as ps qs hs) → (rowOk hs qs hours place r) → (0 ≤ place) → (∀ H', H <+: H' → Q (.bool true) H') → IC_row_holds H Q ([rowV r, .ref s, .int hours, .int place])
noncomputable def C_row_holds : Ctr := fun vs H Q _ => IC_row_holds H Q vs
theorem St.small {H : Hp} {k : Bk} {s : Nat} {as : List Ad} {ps qs : List Prs} {hs : List Mtg} (S : St H k s as ps qs hs) : ∀ q ∈ qs, q.fine ∧ q.fr.length ≤ 2 ∧ q.bu.length ≤ 10 := fun q hq => ⟨(S.sub q hq).2, (S.sm q hq).1, (S.sm q hq).2.1⟩
theorem w_row_holds : ∀ vs H Q X, C_row_holds vs H Q X → wpFn Θl f_l_row_holds vs H Q X := by
  rintro vs H Q X ⟨k, s, as, ps, qs, hs, r, hours, place, S, R, h0, q⟩
  refine fn_of rfl ?_
  have k1 := R.a
  have k2 := R.m
  have k3 := R.x
  have k4 := R.e
  have hx : 0 ≤ r.x := by lia
  refine e1_3 (R.w) fun p hp hnm hfr => ?_
  change wpSs Θl f_l_row_holds.body [some (rowV r), some (.ref s), some (.int hours), some (.int place), none, none, none] H _ _
  refine zs_cons ?_
  generalize hK : sqX Θl (_ :: _) = K
  rw [show rowV r = .tup [.int r.a, .int r.m, .str r.nm, .int r.x] from rfl]
  simp_arith only [isi_tup, isi_str]
  refine ⟨fun h => absurd n4 h, fun _ => ?_⟩
  subst hK
  refine zs_cons ?_
  generalize hK : sqX Θl (_ :: _) = K
  simp_arith only [↓Tl_wh]
  refine ⟨_, rfl, ?_⟩
  simp_arith only [↓Tl_wh]
  refine ⟨_, rfl, ?_⟩
  simp_arith only [↓Tl_wh]
  refine ⟨_, rfl, ?_⟩
  subst hK
  refine zs_cons ?_
  generalize hK : sqX Θl (_ :: _) = K
  simp_arith only [X_lit]
  refine ⟨fun h => absurd k1 h, fun _ => ⟨fun h => by lia, fun _ => ⟨fun _ => ?_, fun h => absurd k3 h⟩⟩⟩
  rw [decide_eq_true k4]
  subst hK
  have lm := S.lm
  simp_arith only [lm]
  refine rh_comp (r := r) hx S.hl as qs [] H lm S.at' S.small fun H1 hp1 => ⟨by rw [List.nil_append, List.length_map, List.length_map]; have := S.len; lia, ?_⟩
  rw [List.nil_append]
  simp_arith only [listAt_new, bools_map, any_id]
  have e : (qs.any fun q => q.nm == r.nm && !opn hs q r.x) = true := List.any_eq_true.mpr ⟨p, hp, by rw [hnm, beq_self_eq_true, ← fre_opn S.no hx, hfr]; rfl⟩
  rw [e]
  exact q _ (hp1.trans pre_new)
noncomputable def Θm : Orc := ext "_law_row_holds" C_row_holds Θl
theorem Tm_op : Θm "_law_open" = C_open := rfl
inductive IC_all_open (H : Hp) (Q : V → Hp → Prop) : List V → Prop where
  | mk (k : Bk) (s : Nat) (as : List Ad) (ps : List Prs) (qs : List Prs) (hs : List Mtg) (hours : Int) (a : Int) : (St H k s as ps qs hs) → (0 ≤ a) → (sizeOk1 hours) → ((∀ q ∈ qs, ∀ x, a ≤ x → x < a + hours → opn hs q x = true)) → (∀ H', H <+: H' → Q (.bool true) H') → IC_all_open H Q ([.int a, .ref s, .int hours])
noncomputable def C_all_open : Ctr := fun vs H Q _ => IC_all_open H Q vs
noncomputable abbrev a2B : List IS := [(.ite (.not (.call (.fn "_law_open") [(.loc 3), (.bin .Add (.loc 0) (.loc 4))])) [(.ret (.lit (.bool false)))] [])]
theorem a2_loop {XF : XS} {ad : Ad} {p : Prs} {hs : List Mtg} {a : Int} {v1 v2 : V} {t5 t6 t7 : Option V} {H0 : Hp} {Q : QS} (h0 : 0 ≤ a) (hz : hs.length ≤ 2) (hf : p.fine ∧ p.fr.length ≤ 2 ∧ p.bu.length ≤ 10) (P : PA H0 ad p (mets hs p.nm)) (q : ∀ H' t4, H0 <+: H' → Q .next [some (.int a), some v1, some v2, some (.ref ad.i), t4, t5, t6, t7] H') : ∀ (ks : List Int) (H : Hp) (t4 : Option V), H0 <+: H → (∀ k ∈ ks, 0 ≤ k ∧ opn hs p (a + k) = true) →
    forGo (whBX Θm a2B XF) (fun _ => True) 4 (ks.map V.int) [some (.int a), some v1, some v2, some (.ref ad.i), t4, t5, t6, t7] H Q := by
  intro ks
  induction ks with
  | nil => intro H t4 hp _; exact q H t4 hp
  | cons k ks ih =>
    intro H t4 hp hk
    have hk0 := hk k List.mem_cons_self
    rw [List.map_cons, foX_cons]
    simp_arith only [↓Tm_op]
    refine ⟨ad, p, mets hs p.nm, a + k, P.fr (F := []) (Fr.pre hp) fun _ _ h => (nomatch h), hf.1, by lia, by have := mets_len (hs := hs) (nm := p.nm); lia, by lia, by lia, fun H1 hp1 => ?_⟩
    rw [show (!(mets hs p.nm).any (inM (a + k)) && freeAt p (a + k)) = true from hk0.2]
    simp_arith only [X_lit]
    exact ih H1 _ (hp.trans hp1) fun k h => hk k (.tail _ h)
noncomputable abbrev a1B : List IS := [(.for 4 .range (.loc 2) a2B)]
theorem a1_loop {XF : XS} {s : Nat} {vs0 : List V} {hs : List Mtg} {a hours : Int} {t5 t6 t7 : Option V} {H0 : Hp} {Q : QS} (h0 : 0 ≤ a) (hh : sizeOk1 hours) (hz : hs.length ≤ 2) (hs0 : listAt H0 s = some vs0) (q : ∀ H' L', H0 <+: H' → Q .next L' H') : ∀ (as : List Ad) (qs : List Prs) (H : Hp) (t3 t4 : Option V), H0 <+: H → PsAt H0 (meB hs) as qs → (∀ q ∈ qs, q.fine ∧ q.fr.length ≤ 2 ∧ q.bu.length ≤ 10) → (∀ q ∈ qs, ∀ x, a ≤ x → x < a + hours → opn hs q x = true) →
    forGo (whBX Θm a1B XF) (fun H' => listAt H' s = some vs0) 3 (refs as) [some (.int a), some (.ref s), some (.int hours), t3, t4, t5, t6, t7] H Q := by
  intro as
  induction as with
  | nil => intro qs H t3 t4 hp _ _ _; exact q H _ hp
  | cons ad as ih =>
    intro qs H t3 t4 hp hr hf ho
    refine e2_3 hr fun p rs e_242 P hr2 => ?_
    obtain rfl := e_242
    have e1 := hh.1
    have e2 := hh.2
    rw [show refs (ad :: as) = .ref ad.i :: refs as from rfl, foX_cons]
    refine zs_cons ?_
    generalize hK : sqX Θm [] = K
    simp_arith only [X_lit]
    refine ⟨by lia, ?_⟩
    rw [rangeL_J]
    subst hK
    refine a2_loop h0 hz (hf p List.mem_cons_self) P (fun H' t4' hp' => ?_) _ H _ hp (fun j hj => ?_)
    · exact ⟨listAt_pre hp' hs0, ih rs H' _ _ hp' hr2 (fun q h => hf q (.tail _ h)) fun q h => ho q (.tail _ h)⟩
    · have := mem_rangeJ.mp hj
      exact ⟨this.1, ho p List.mem_cons_self _ (by lia) (by lia)⟩
theorem w_all_open : ∀ vs H Q X, C_all_open vs H Q X → wpFn Θm f_l_all_open vs H Q X := by
  rintro vs H Q X ⟨k, s, as, ps, qs, hs, hours, a, S, h0, hh, ho, q⟩
  refine fn_of rfl ?_
  change wpSs Θm f_l_all_open.body [some (.int a), some (.ref s), some (.int hours), none, none, none, none, none] H _ _
  refine zs_cons ?_
  generalize hK : sqX Θm (_ :: _) = K
  have lm := S.lm
  simp_arith only [lm]
  subst hK
  exact a1_loop h0 hh S.hl lm (fun H' L' hp => q H' hp) as qs H _ _ (List.prefix_refl _) S.at' S.small ho
noncomputable def Θn : Orc := ext "_law_all_open" C_all_open Θm
theorem Tn_rh : Θn "_law_row_holds" = C_row_holds := rfl
theorem Tn_ao : Θn "_law_all_open" = C_all_open := rfl
inductive IC_holds (H : Hp) (Q : V → Hp → Prop) : List V → Prop where
  | mk (k : Bk) (s : Nat) (x : Nat) (as : List Ad) (ps : List Prs) (qs : List Prs) (hs : List Mtg) (hours : Int) (lo : Int) (hi : Int) (o : Option Int × List Row) : (St H k s as ps qs hs) → (listAt H x = some (o.2.map rowV)) → (lookOk hs qs hours (hi - hours) lo o) → (0 ≤ lo) → (sizeOk1 hours) → (∀ H', H <+: H' → Q (.bool true) H') → IC_holds H Q ([.tup [intO o.1, .ref x], .ref s, .int hours, .int lo, .int hi])
noncomputable def C_holds : Ctr := fun vs H Q _ => IC_holds H Q vs
noncomputable abbrev hoB : List IS := bdy (f_l_holds.body.getD 1 .fail)
theorem ho_loop {XF : XS} {k : Bk} {s x : Nat} {as : List Ad} {ps qs : List Prs} {hs : List Mtg} {hours : Int} {v0 v3 v4 : V} {vs0 : List V} {t7 t8 t9 : Option V} {H0 : Hp} {Q : QS} (S : St H0 k s as ps qs hs) (hx : listAt H0 x = some vs0) : ∀ (rs : List Row) (place : Int) (H : Hp) (t6 : Option V), H0 <+: H → 0 ≤ place → rowsOk hs qs hours place rs →
    (∀ H' t6', H0 <+: H' → Q .next [some v0, some (.ref s), some (.int hours), some v3, some v4, some (.int (ends place rs)), t6', t7, t8, t9] H') →
    forGo (whBX Θn hoB XF) (fun H' => listAt H' x = some vs0) 6 (rs.map rowV) [some v0, some (.ref s), some (.int hours), some v3, some v4, some (.int place), t6, t7, t8, t9] H Q := by
  intro rs
  induction rs with
  | nil => intro place H t6 hp _ _ q; exact q H t6 hp
  | cons r rs ih =>
    intro place H t6 hp h0 hr q
    rw [List.map_cons, foX_cons]
    refine zs_cons ?_
    generalize hK : sqX Θn (_ :: _) = K
    simp_arith only [↓Tn_rh]
    refine ⟨k, s, as, ps, qs, hs, r, hours, place, S.pre hp, hr.1, h0, fun H1 hp1 => ?_⟩
    subst hK
    rw [show rowV r = .tup [.int r.a, .int r.m, .str r.nm, .int r.x] from rfl]
    simp_arith only [X_lit]
    have := hr.1.m
    exact ⟨listAt_pre (hp.trans hp1) hx, ih _ H1 _ (hp.trans hp1) (by lia) hr.2 q⟩
theorem w_holds : ∀ vs H Q X, C_holds vs H Q X → wpFn Θn f_l_holds vs H Q X := by
  rintro vs H Q X ⟨k, s, x, as, ps, qs, hs, hours, lo, hi, o, S, hx, O, h0, hh, q⟩
  refine fn_of rfl ?_
  change wpSs Θn f_l_holds.body [some (.tup [intO o.1, .ref x]), some (.ref s), some (.int hours), some (.int lo), some (.int hi), none, none, none, none, none] H _ _
  refine zs_cons ?_
  generalize hK : sqX Θn (_ :: _) = K
  simp_arith only [X_lit]
  subst hK
  refine zs_cons ?_
  generalize hK : sqX Θn (_ :: _) = K
  simp_arith only [hx]
  subst hK
  refine ho_loop S hx o.2 lo H _ (List.prefix_refl _) h0 O.rows fun H1 t6 hp1 => ?_
  cases e : o.1 with
  | none =>
    simp_arith only [intO, isNoneV]
    rw [O.no e, show hi - hours + 1 = hi - hours + 1 from rfl, decide_eq_true rfl]
    exact q H1 hp1
  | some b =>
    refine e0_4 (O.yes b e) fun k1 k2 k3 k4 => ?_
    refine zs_cons ?_
    generalize hK : sqX Θn (_ :: _) = K
    simp_arith only [intO, isNoneV]
    subst hK
    refine zs_cons ?_
    generalize hK : sqX Θn (_ :: _) = K
    rw [k1]
    simp_arith only [X_lit]
    subst hK
    refine ⟨fun h => absurd rfl h, fun _ => ⟨fun h => by lia, fun _ => ?_⟩⟩
    simp_arith only [↓Tn_ao]
    exact ⟨k, s, as, ps, qs, hs, hours, b, S.pre hp1, by lia, hh, fun p hp y h1 h2 => by rw [← fre_opn S.no (by lia)]; exact k4 p hp y h1 h2, fun H' hp => q H' (hp1.trans hp)⟩
noncomputable def Θo : Orc := ext "_law_holds" C_holds Θn
end Mine
namespace Mine
open PySem
structure okD (n k : Nat) (d : PyData) : Prop where
  sh : d.showable = true
  de : d.depth ≤ k
  le : d.shown.length ≤ n
structure okDs (n k : Nat) (ds : List PyData) : Prop where
  sh : PyData.showableAll ds = true
  de : PyData.depthAll ds ≤ k
  le : ((PyData.shownAll ds).map (·.length)).sum + 2 * ds.length ≤ n
theorem okDs_nil {k : Nat} : okDs 0 k [] := ⟨rfl, Nat.zero_le _, Nat.le_refl _⟩
theorem okDs_cons {n m k : Nat} {d : PyData} {ds : List PyData} (h1 : okD n k d) (h2 : okDs m k ds) : okDs (n + 2 + m) k (d :: ds) := by
  refine ⟨?_, Nat.max_le.mpr ⟨h1.de, h2.de⟩, ?_⟩
  · show (d.showable && PyData.showableAll ds) = true
    rw [h1.sh, h2.sh]; rfl
  · show (d.shown.length :: (PyData.shownAll ds).map (·.length)).sum + 2 * (ds.length + 1) ≤ _
    rw [List.sum_cons]
    have := h1.le
    have := h2.le
    lia
theorem okD_tuple {n k : Nat} {ds : List PyData} (h : okDs n k ds) : okD (n + 3) (k + 1) (.tuple ds) := by
  refine ⟨h.sh, Nat.succ_le_succ h.de, ?_⟩
  have h1 := tupleText_len_le (PyData.shownAll ds)
  rw [PyData.shownAll_length] at h1
  exact Nat.le_trans h1 (Nat.add_le_add_right h.le 3)
theorem okD_list {n k : Nat} {ds : List PyData} (h : okDs n k ds) : okD (n + 3) (k + 1) (.list ds) := by
  refine ⟨h.sh, Nat.succ_le_succ h.de, ?_⟩
  have h1 := listText_len_le (PyData.shownAll ds)
  rw [PyData.shownAll_length] at h1
  exact Nat.le_trans h1 (Nat.add_le_add_right h.le 3)
theorem okD_int {k : Nat} {i : Int} (h1 : 0 ≤ i) (h2 : i < 10 ^ 13) : okD 35 k (.int i) := by
  have hn : i.natAbs < 10 ^ 13 := by lia
  refine ⟨?_, Nat.zero_le _, ?_⟩
  · show decide (i.natAbs.log2 < 1920) = true
    refine decide_eq_true ?_
    by_cases h0 : i.natAbs = 0
    · rw [h0]; decide
    · exact (Nat.log2_lt h0).mpr (Nat.lt_of_lt_of_le hn (Nat.le_trans (show 10 ^ 13 ≤ 2 ^ 44 by decide) (Nat.pow_le_pow_right (by decide) (by decide))))
  · show (Str.ofString (toString i)).length ≤ 35
    have e := int_text_length_le10 (k := 13) (by decide) hn
    rw [ofString_length]; lia
theorem okD_str {k : Nat} {s : Str} (h : s.length ≤ 12) (hl : lowS s) : okD 140 k (.str s) := by
  refine ⟨rfl, Nat.zero_le _, ?_⟩
  have e := StrLaws.reprText_len s fun c hc => by have := hl c hc; lia
  show (reprText s).length ≤ 140
  lia
noncomputable def rowD (r : Row) : PyData := .tuple [.int r.a, .int r.m, .str r.nm, .int r.x]
noncomputable def intD : Option Int → PyData
  | none => .none
  | some a => .int a
noncomputable def toldD (o : Option Int × List Row) : PyData := .tuple [intD o.1, .list (o.2.map rowD)]
theorem toPys_rows : ∀ rs : List Row, toPys (rs.map rowV) = some (rs.map rowD)
  | [] => rfl
  | r :: rs => by
    show (some (rowD r)).bind (fun d => (toPys (rs.map rowV)).map (d :: ·)) = _
    rw [toPys_rows rs]; rfl
theorem toPyT_told {H : Hp} {x : Nat} {o : Option Int × List Row} (h : listAt H x = some (o.2.map rowV)) : toPyT H (.tup [intO o.1, .ref x]) = some (toldD o) := by
  have e : toPyT H (.ref x) = some (.list (o.2.map rowD)) := by
    show ((listAt H x).bind toPys).map PyData.list = _
    rw [h, Option.bind_some, toPys_rows]; rfl
  have e1 : toPyT H (intO o.1) = some (intD o.1) := by cases o.1 <;> rfl
  show (((toPyT H (intO o.1)).bind fun d => (((toPyT H (.ref x)).bind fun d => (some []).map (d :: ·))).map (d :: ·))).map PyData.tuple = _
  rw [e, e1]; rfl
structure rowSm (r : Row) : Prop where
  a0 : 0 ≤ r.a
  a1 : r.a < 10 ^ 13
  m0 : 0 ≤ r.m
  m1 : r.m < 10 ^ 13
  x0 : 0 ≤ r.x
  x1 : r.x < 10 ^ 13
  n : r.nm.length ≤ 12
  l : lowS r.nm
theorem okD_row {r : Row} (h : rowSm r) : okD 260 1 (rowD r) := by
  have := okD_tuple (k := 0) (okDs_cons (okD_int h.a0 h.a1) (okDs_cons (okD_int h.m0 h.m1) (okDs_cons (okD_str h.n h.l) (okDs_cons (okD_int h.x0 h.x1) okDs_nil))))
  exact ⟨this.sh, this.de, Nat.le_trans this.le (by decide)⟩
theorem okDs_rows : ∀ rs : List Row, (∀ r ∈ rs, rowSm r) → okDs (262 * rs.length) 1 (rs.map rowD)
  | [], _ => okDs_nil
  | r :: rs, h => by
    have := okDs_cons (okD_row (h r List.mem_cons_self)) (okDs_rows rs fun r hr => h r (.tail _ hr))
    exact ⟨this.sh, this.de, Nat.le_trans this.le (by rw [List.length_cons]; lia)⟩
theorem told_fit {o : Option Int × List Row} (h1 : ∀ a, o.1 = some a → 0 ≤ a ∧ a < 10 ^ 13) (h2 : ∀ r ∈ o.2, rowSm r) (h3 : o.2.length ≤ 20000) : (toldD o).showable = true ∧ (toldD o).depth ≤ 60 ∧ (toldD o).shown.length ≤ 16000000 := by
  have e : okD 35 2 (intD o.1) := by
    cases e : o.1 with
    | none => exact ⟨rfl, Nat.zero_le _, by decide⟩
    | some a => exact okD_int (h1 a e).1 (h1 a e).2
  have := okD_tuple (okDs_cons e (okDs_cons (okD_list (okDs_rows o.2 h2)) okDs_nil))
  exact ⟨this.sh, Nat.le_trans this.de (by decide), Nat.le_trans this.le (by lia)⟩
theorem ends_ge {hs : List Mtg} {qs : List Prs} {hours : Int} : ∀ {rs : List Row} {p : Int}, rowsOk hs qs hours p rs → p ≤ ends p rs
  | [], _, _ => Int.le_refl _
  | r :: rs, p, h => by
    have h1 := h.1.m
    have h2 := ends_ge h.2
    show p ≤ ends (r.m + 1) rs; lia
theorem rows_in {hs : List Mtg} {qs : List Prs} {hours : Int} : ∀ {rs : List Row} {p : Int}, rowsOk hs qs hours p rs → ∀ r ∈ rs, p ≤ r.a ∧ r.a ≤ r.m ∧ r.m < ends p rs ∧ r.m ≤ r.x ∧ r.x < r.a + hours ∧ ∃ q ∈ qs, q.nm = r.nm
  | r :: rs, p, h, x, hx => by
    have h1 := h.1.m
    have h2 := ends_ge h.2
    rcases List.mem_cons.mp hx with e | e
    · refine e1_3 (h.1.w) fun q hq e1 _ => ?_
      have := h.1.a
      have := h.1.x
      have := h.1.e
      rw [e]
      exact ⟨by lia, by lia, by show r.m < ends (r.m + 1) rs; lia, by lia, by lia, q, hq, e1⟩
    · obtain ⟨k1, k2⟩ := rows_in h.2 x e
      exact ⟨by lia, k2⟩
theorem look_fit {hs : List Mtg} {qs : List Prs} {hours lo hi : Int} (hh : sizeOk1 hours) (h1 : hourOk lo) (h2 : hourOk hi) (h3 : hi ≤ lo + 10000) (hq : ∀ q ∈ qs, q.nm.length ≤ 12 ∧ lowS q.nm) :
    (toldD (lookF 0 hs qs hours lo (hi - hours))).showable = true ∧ (toldD (lookF 0 hs qs hours lo (hi - hours))).depth ≤ 60 ∧ (toldD (lookF 0 hs qs hours lo (hi - hours))).shown.length ≤ 16000000 := by
  have O := lookF_ok (hs := hs) (qs := qs) (hours := hours) (lo := lo) (last := hi - hours)
  have hl := rows_len (b := 0) (hs := hs) (qs := qs) (hours := hours) (last := hi - hours) (hi - hours + 1 - lo).toNat lo
  have a1 := hh.1
  have a2 := hh.2
  have b1 := h1.1
  have b2 := h1.2
  have b3 := h2.2
  have he : ends lo (lookF 0 hs qs hours lo (hi - hours)).2 ≤ 2000000000000 := by
    cases e : (lookF 0 hs qs hours lo (hi - hours)).1 with
    | none => rw [O.no e]; lia
    | some b => have := O.yes b e; lia
  refine told_fit (fun a e => ?_) (fun r hr => ?_) (Nat.le_trans hl (by lia))
  · have := O.yes a e; exact ⟨by lia, by lia⟩
  · obtain ⟨k1, k2, k3, k4, k5, q, hq1, hq2⟩ := rows_in O.rows r hr
    have := hq q hq1
    rw [hq2] at this
    exact ⟨by lia, by lia, by lia, by lia, by lia, by lia, this.1, this.2⟩
theorem nm_comp {Φ : Orc} {s j : Nat} {vs0 : List V} {L : Lc} {X : XL} {H : Hp} {Q : List V → Hp → Prop} {me : Prs → List (Int × Int)} (hL : j < L.length) (hs : listAt H s = some vs0) : ∀ (as : List Ad) (qs : List Prs) (acc : List V), PsAt H me as qs → Q (acc ++ qs.map fun p => V.str p.nm) H →
    compGo (coEX Φ (.sub (.loc j) (.lit (.int 0))) X) (fun H' => listAt H' s = some vs0) j L (refs as) acc H Q := by
  intro as
  have e2 : ∀ o, (L.set j o)[j]? = some o := fun o => by rw [List.getElem?_set_self hL]
  induction as with
  | nil => intro qs acc hr q; obtain rfl := hr; rw [List.map_nil, List.append_nil] at q; exact q
  | cons a as ih =>
    intro qs acc hr q
    refine e2_3 hr fun p rs e_243 P hr2 => ?_
    obtain rfl := e_243
    rw [show refs (a :: as) = .ref a.i :: refs as from rfl, coX_cons]
    simp_arith only [e2, P.li]
    refine ⟨hs, ih rs _ hr2 ?_⟩
    rw [List.map_cons, List.append_cons] at q
    exact q
structure Told (H : Hp) (r x : Nat) (o : Option Int × List Row) : Prop where
  lr : listAt H r = some [.tup [.tup [intO o.1, .ref x], .opq (toldD o).shown]]
  lx : listAt H x = some (o.2.map rowV)
  fit : (toldD o).showable = true ∧ (toldD o).depth ≤ 60 ∧ (toldD o).shown.length ≤ 16000000
structure Asks (H : Hp) (w r : Nat) (hours lo hi : Int) : Prop where
  lw : listAt H w = some [.int hours, .int lo, .int hi, .ref r]
  hh : sizeOk1 hours
  h1 : hourOk lo
  h2 : hourOk hi
  h3 : lo ≤ hi
  h4 : hi ≤ lo + 10000
theorem To_fi : Θo (Str.ofString "Book." ++ Str.ofString "first") = C_first := rfl
theorem To_it : Θo "_law_is_told" = C_is_told := rfl
theorem To_ho : Θo "_law_holds" = C_holds := rfl
inductive IC_asked (H : Hp) (Q : V → Hp → Prop) : List V → Prop where
  | mk (k : Bk) (s : Nat) (w : Nat) (r : Nat) (as : List Ad) (ps : List Prs) (qs : List Prs) (hs : List Mtg) (hours : Int) (lo : Int) (hi : Int) : (St H k s as ps qs hs) → (Asks H w r hours lo hi) → (((listAt H r = some [] ∧ ∀ x H', Fr [r] H H' → H.length ≤ x → Told H' r x (lookF 0 hs qs hours lo (hi - hours)) → Q (intO (lookF 0 hs qs hours lo (hi - hours)).1) H') ∨ ((∃ t, listAt H r = some [t]) ∧ ∀ H', Fr [] H H' → Q (intO (lookF 0 hs qs hours lo (hi - hours)).1) H'))) → IC_asked H Q ([.ref k.b, .ref s, .ref w])
noncomputable def C_asked : Ctr := fun vs H Q _ => IC_asked H Q vs
theorem w_asked : ∀ vs H Q X, C_asked vs H Q X → wpFn Θo f_l_asked vs H Q X := by
  rintro vs H Q X ⟨k, s, w, r, as, ps, qs, hs, hours, lo, hi, S, A, q⟩
  refine fn_of rfl ?_
  change wpSs Θo f_l_asked.body [some (.ref k.b), some (.ref s), some (.ref w), none, none, none, none, none] H _ _
  refine zs_cons ?_
  generalize hK : sqX Θo (_ :: _) = K
  have lm := S.lm
  simp_arith only [lm]
  refine nm_comp (by show 5 < 8; lia) lm as qs [] S.at' ⟨by rw [List.nil_append, List.length_map]; have := S.len; lia, ?_⟩
  rw [List.nil_append]
  subst hK
  have p1 : H <+: H ++ [.list (qs.map fun p => .str p.nm)] := pre_new
  have ln := listAt_new (H := H) (l := qs.map fun p => V.str p.nm)
  generalize H ++ [O.list (qs.map fun p => .str p.nm)] = H1 at *
  have S1 := S.pre p1
  have lw1 := listAt_pre p1 A.lw
  refine zs_cons ?_
  generalize hK : sqX Θo (_ :: _) = K
  simp_arith only [S1.book.ns, lw1, ↓To_fi]
  refine ⟨k, H.length, ps, hs, qs, hours, lo, hi, ⟨⟨S1.book, ln, S1.sub⟩, S.ne, S.nms, A.hh, A.h1, A.h2, A.h3, A.h4⟩, ?_⟩
  subst hK
  have F := look_fit (hs := hs) A.hh A.h1 A.h2 A.h4 fun q hq => (S.sm q hq).2.2
  have OK := lookF_ok (hs := hs) (qs := qs) (hours := hours) (lo := lo) (last := hi - hours)
  generalize lookF 0 hs qs hours lo (hi - hours) = o at q F OK ⊢
  have p2 : H1 <+: H1 ++ [.list (o.2.map rowV)] := pre_new
  have lx := listAt_new (H := H1) (l := o.2.map rowV)
  generalize H1 ++ [O.list (o.2.map rowV)] = H2 at *
  have S2 := S1.pre p2
  have lw2 := listAt_pre p2 lw1
  refine zs_cons ?_
  generalize hK : sqX Θo (_ :: _) = K
  simp_arith only [↓To_it]
  refine ⟨o.1, _, _, lx, ?_⟩
  simp_arith only [X_lit]
  subst hK
  refine zs_cons ?_
  generalize hK : sqX Θo (_ :: _) = K
  simp_arith only [lw2, ↓To_ho]
  refine ⟨k, s, _, as, ps, qs, hs, hours, lo, hi, o, S2, lx, OK, A.h1.1, A.hh, fun H3 p3 => ?_⟩
  simp_arith only [X_lit]
  subst hK
  have lw3 := listAt_pre p3 lw2
  have lx3 := listAt_pre p3 lx
  have p03 := (p1.trans p2).trans p3
  have hlen := p1.length_le
  refine zs_cons ?_
  generalize hK : sqX Θo (_ :: _) = K
  rcases q with ⟨hr, q⟩ | ⟨⟨t, hr⟩, q⟩
  · have hr3 := listAt_pre p03 hr
    have ht := toPyT_told lx3
    simp_arith only [lw3, hr3, ht]
    subst hK
    refine ⟨fun _ => ⟨⟨_, hr3⟩, F, ?_⟩, fun h => absurd (show ((0 : Nat) : Int) % 2 = 0 from rfl) h⟩
    have := listAt_lt hr
    simp_arith only [X_lit]
    exact q _ _ ((Fr.pre p03).trans Fr.set fun i hi => .inl hi) hlen ⟨listAt_set hr3, Fr.set.list (nin1 (by lia)) lx3, F⟩
  · have hr3 := listAt_pre p03 hr
    simp_arith only [lw3, hr3, lx3]
    subst hK
    refine ⟨fun h => absurd h (by decide), fun _ => ⟨⟨_, lx3⟩, ?_⟩⟩
    simp_arith only [X_lit]
    exact q _ ((Fr.pre p03).trans Fr.set fun i hi => .inr (by rw [List.mem_singleton.mp hi]; exact hlen))
noncomputable def Θp : Orc := ext "_law_asked" C_asked Θo
end Mine
namespace Mine
open PySem
theorem idx_last {l : List V} {x : V} : idx (l ++ [x]) (-1) = some x := by
  unfold idx
  rw [if_neg (by decide), List.length_append, List.length_singleton, if_pos (by lia), show (-1 + ((l.length + 1 : Nat) : Int)).toNat = l.length by lia, List.getElem?_append_right (Nat.le_refl _), Nat.sub_self]; rfl
theorem refs_snoc (as : List Ad) (a : Ad) : refs (as ++ [a]) = refs as ++ [.ref a.i] := by unfold refs; rw [List.map_append]; rfl
theorem ads_snoc (as : List Ad) (a : Ad) : ads (as ++ [a]) = ads as ++ [a.i, a.f, a.u, a.e] := by unfold ads; rw [List.flatMap_append]; show _ ++ (a.all ++ []) = _; rw [List.append_nil]; rfl
theorem PsAt.len {H : Hp} {me : Prs → List (Int × Int)} : ∀ {as : List Ad} {ps : List Prs}, PsAt H me as ps → as.length = ps.length
  | [], _, h => by rw [show _ = [] from h]; rfl
  | _ :: _, _, ⟨p, qs, e, _, r⟩ => by rw [e, List.length_cons, List.length_cons, r.len]
theorem PsAt.unsnoc {H : Hp} {me : Prs → List (Int × Int)} {a : Ad} {p : Prs} : ∀ {as : List Ad} {qs : List Prs}, PsAt H me (as ++ [a]) (qs ++ [p]) → PsAt H me as qs ∧ PA H a p (me p)
  | [], [], ⟨p', qs', e, h, r⟩ => by
    have e1 : p = p' := (List.cons.inj e).1
    exact ⟨rfl, by rw [e1]; exact h⟩
  | [], q :: qs, h => by have := h.len; rw [List.length_append, List.length_append, List.length_cons] at this; simp at this
  | b :: as, [], h => by have := h.len; rw [List.length_append, List.length_append, List.length_cons] at this; simp at this
  | b :: as, q :: qs, ⟨p', qs', e, h, r⟩ => by
    obtain ⟨e1, e2⟩ := List.cons.inj (show q :: (qs ++ [p]) = p' :: qs' from e)
    rw [← e2] at r
    obtain ⟨r1, r2⟩ := PsAt.unsnoc (as := as) r
    exact ⟨⟨q, qs, rfl, by rw [e1]; exact h, r1⟩, r2⟩
theorem PsAt.last {H : Hp} {me : Prs → List (Int × Int)} {as : List Ad} {qs : List Prs} (h : PsAt H me as qs) (hne : qs ≠ []) : ∃ as0 a qs0 p, as = as0 ++ [a] ∧ qs = qs0 ++ [p] := by
  have hl := h.len
  have h2 : as ≠ [] := fun e => by
    rw [e] at hl
    exact hne (List.length_eq_zero_iff.mp hl.symm)
  exact ⟨as.dropLast, as.getLast h2, qs.dropLast, qs.getLast hne, (List.dropLast_concat_getLast h2).symm, (List.dropLast_concat_getLast hne).symm⟩
theorem St.lt {H : Hp} {k : Bk} {s : Nat} {as : List Ad} {ps qs : List Prs} {hs : List Mtg} (S : St H k s as ps qs hs) : ∀ i ∈ s :: ads as, i < H.length := fun i hi => by
  rcases List.mem_cons.mp hi with q | q
  · rw [q]; exact listAt_lt S.lm
  · exact S.at'.lt i q
structure Rec (H : Hp) (s : Nat) (as : List Ad) (a : Ad) (qs : List Prs) (p : Prs) (hs : List Mtg) (e : Nat) : Prop where
  lm : listAt H s = some (refs as ++ [.ref a.i])
  at' : PsAt H (meB hs) as qs
  li : listAt H a.i = some [.str p.nm, .ref a.f, .ref a.u, .ref e]
  lf : listAt H a.f = some (p.fr.map rv)
  lu : listAt H a.u = some (p.bu.map rv)
  le : listAt H a.e = some ((mets hs p.nm).map metV)
section
variable {H H' H0 : Hp} {k k0 : Bk} {s e : Nat} {as : List Ad} {a : Ad} {ps qs : List Prs} {p : Prs} {hs hs' : List Mtg}
theorem St.rcd (S : St H k s (as ++ [a]) ps (qs ++ [p]) hs) : Rec H s as a qs p hs a.e := by
  obtain ⟨h1, h2⟩ := S.at'.unsnoc
  exact ⟨by rw [S.lm, refs_snoc], h1, h2.li, h2.lf, h2.lu, h2.le⟩
theorem m_s : s ∈ s :: ads (as ++ [a]) := .head _
theorem m_as {i : Nat} (h : i ∈ ads as) : i ∈ s :: ads (as ++ [a]) := .tail _ (by rw [ads_snoc]; exact List.mem_append_left _ h)
theorem m_i : a.i ∈ s :: ads (as ++ [a]) := .tail _ (by rw [ads_snoc]; exact List.mem_append_right _ (.head _))
theorem m_f : a.f ∈ s :: ads (as ++ [a]) := .tail _ (by rw [ads_snoc]; exact List.mem_append_right _ (.tail _ (.head _)))
theorem m_u : a.u ∈ s :: ads (as ++ [a]) := .tail _ (by rw [ads_snoc]; exact List.mem_append_right _ (.tail _ (.tail _ (.head _))))
theorem m_e : a.e ∈ s :: ads (as ++ [a]) := .tail _ (by rw [ads_snoc]; exact List.mem_append_right _ (.tail _ (.tail _ (.tail _ (.head _)))))
theorem Rec.fr {F : List Nat} (R : Rec H s as a qs p hs e) (f : Fr F H H') (hd : ∀ i ∈ s :: ads (as ++ [a]), i ∉ F) : Rec H' s as a qs p hs e :=
  ⟨f.list (hd _ m_s) R.lm, R.at'.fr f fun i hi => hd i (m_as hi), f.list (hd _ m_i) R.li, f.list (hd _ m_f) R.lf, f.list (hd _ m_u) R.lu, f.list (hd _ m_e) R.le⟩
theorem rec_ne (nd : (s :: ads (as ++ [a])).Nodup) : s ≠ a.i ∧ (∀ i ∈ ads as, i ≠ a.i) ∧ a.f ≠ a.i ∧ a.u ≠ a.i ∧ a.e ≠ a.i := by
  rw [ads_snoc] at nd
  obtain ⟨n1, n2⟩ := List.nodup_cons.mp nd
  refine e0_3 (List.nodup_append.mp n2) fun _ n3 n4 => ?_
  have n5 := (List.nodup_cons.mp n3).1
  refine ⟨fun q => n1 (List.mem_append_right _ (by rw [q]; exact .head _)), fun i hi q => n4 i hi a.i (.head _) q, fun q => n5 (by rw [← q]; exact .head _), fun q => n5 (by rw [← q]; exact .tail _ (.head _)), fun q => n5 (by rw [← q]; exact .tail _ (.tail _ (.head _)))⟩
theorem Rec.set {e' : Nat} (R : Rec H s as a qs p hs e) (nd : (s :: ads (as ++ [a])).Nodup) : Rec (H.set a.i (.list [.str p.nm, .ref a.f, .ref a.u, .ref e'])) s as a qs p hs e' := by
  obtain ⟨n1, n2, n3, n4, n5⟩ := rec_ne nd
  exact ⟨Fr.set.list (nin1 n1) R.lm, R.at'.fr Fr.set fun i hi => nin1 (n2 i hi), listAt_set R.li, Fr.set.list (nin1 n3) R.lf, Fr.set.list (nin1 n4) R.lu, Fr.set.list (nin1 n5) R.le⟩
theorem mkSt (S : St H0 k0 s (as ++ [a]) ps (qs ++ [p]) hs) (R : Rec H s as a qs p hs e) (B : BkAt H k ps hs') (hf : ∀ i ∈ k.foot, i ∈ k0.foot ∨ H0.length ≤ i) (he : e = a.e ∨ (H0.length ≤ e ∧ e ∉ k.foot)) (le : listAt H e = some ((mets hs' p.nm).map metV))
    (ho : ∀ q ∈ qs, mets hs' q.nm = mets hs q.nm) (hl : hs'.length ≤ 2) (hm : ∀ m ∈ hs', 0 ≤ m.hr ∧ 0 ≤ m.sz ∧ m.sz ≤ 48) : St H k s (as ++ [⟨a.i, a.f, a.u, e⟩]) ps (qs ++ [p]) hs' := by
  have lt := S.lt
  have hmem : ∀ i ∈ s :: ads (as ++ [⟨a.i, a.f, a.u, e⟩]), i ∈ s :: ads (as ++ [a]) ∨ i = e := fun i hi => by
    rw [ads_snoc] at hi
    rcases List.mem_cons.mp hi with q | q
    · rw [q]; exact .inl m_s
    rcases List.mem_append.mp q with q | q
    · exact .inl (m_as q)
    rcases List.mem_cons.mp q with q | q
    · rw [q]; exact .inl m_i
    rcases List.mem_cons.mp q with q | q
    · rw [q]; exact .inl m_f
    rcases List.mem_cons.mp q with q | q
    · rw [q]; exact .inl m_u
    · exact .inr (List.mem_singleton.mp q)
  have old : ∀ i ∈ s :: ads (as ++ [a]), i ∉ k.foot := fun i hi h => by
    rcases hf i h with q | q
    · exact S.dis i hi q
    · have := lt i hi; lia
  refine ⟨B, by rw [R.lm, refs_snoc], (PsAt.congr (fun q hq => (ho q hq).symm) R.at').snoc (a := ⟨a.i, a.f, a.u, e⟩) ⟨R.li, R.lf, R.lu, le⟩, ?_, fun i hi => ?_, S.sub, S.ne, S.nms, S.len, S.sm, hl, hm⟩
  · rcases he with rfl | ⟨h1, _⟩
    · exact S.nd
    · have nd := S.nd
      rw [ads_snoc] at nd ⊢
      have p1 : ∀ x : Nat, (s :: (ads as ++ [a.i, a.f, a.u, x])) = (s :: (ads as ++ [a.i, a.f, a.u])) ++ [x] := fun x => by rw [List.cons_append, List.append_assoc]; rfl
      rw [p1] at nd ⊢
      refine List.nodup_append.mpr ⟨(List.nodup_append.mp nd).1, List.nodup_cons.mpr ⟨List.not_mem_nil, List.nodup_nil⟩, fun x hx y hy q => ?_⟩
      rw [List.mem_singleton.mp hy] at q
      have q : x = e := q
      have := lt x (by rw [ads_snoc, p1]; exact List.mem_append_left _ hx)
      lia
  · rcases hmem i hi with q | q
    · exact old i q
    · rcases he with h | ⟨_, h⟩
      · rw [q, h]; exact old _ m_e
      · rw [q]; exact h
end
theorem eq_intO {o : Option Int} {H : Hp} {Q : V → Hp → Prop} : pCmp .Eq (intO o) (intO o) H Q = Q (.bool true) H := by
  cases o with
  | none => rfl
  | some a => show Q (.bool (decide (a = a))) H = _; rw [decide_eq_true rfl]
theorem eq_m1 {o : Option Int} {H : Hp} {Q : V → Hp → Prop} (h : ∀ b, o = some b → 0 ≤ b) : pCmp .Eq (intO o) (.int (-1)) H Q = Q (.bool false) H := by
  cases o with
  | none => rfl
  | some a =>
    have := h a rfl
    show Q (.bool (decide (a = -1))) H = _
    rw [decide_eq_false (by lia)]
theorem look_nn {hs : List Mtg} {qs : List Prs} {hours lo hi : Int} (h : 0 ≤ lo) : ∀ b, (lookF 0 hs qs hours lo (hi - hours)).1 = some b → 0 ≤ b := fun b e => by
  have := (lookF_ok (hs := hs) (qs := qs) (hours := hours) (lo := lo) (last := hi - hours)).yes b e
  lia
theorem Tp_me : Θp (Str.ofString "Book." ++ Str.ofString "meet") = C_meet := rfl
theorem Tp_mo : Θp (Str.ofString "Book." ++ Str.ofString "move") = C_move := rfl
theorem Tp_dr : Θp (Str.ofString "Book." ++ Str.ofString "drop") = C_drop := rfl
theorem Tp_ca : Θp "_law_cell_at" = C_cell_at := rfl
theorem Tp_it : Θp "_law_in_time" = C_in_time := rfl
theorem Tp_as : Θp "_law_asked" = C_asked := rfl
theorem cc_int {x : Int} {H : Hp} {Q : V → Hp → Prop} {X : XL} : C_in_time [.int x] H Q X = Q (.int (min x 999999999999)) H := by
  refine propext ⟨?_, fun h => ⟨x, rfl, h⟩⟩
  rintro ⟨x', e, h⟩
  cases e
  exact h
structure Ag (H0 H : Hp) (k : Bk) (s w r : Nat) (as : List Ad) (a : Ad) (ps qs : List Prs) (p : Prs) (hs hs' : List Mtg) (k' : Bk) (e : Nat) (hours lo hi : Int) (t : V) : Prop where
  st0 : St H0 k s (as ++ [a]) ps (qs ++ [p]) hs
  as0 : Asks H0 w r hours lo hi
  fr : Fr (a.i :: k.foot) H0 H
  rcd : Rec H s as a qs p hs e
  book : BkAt H k' ps hs'
  foot : ∀ i ∈ k'.foot, i ∈ k.foot ∨ H0.length ≤ i
  kb : k'.b = k.b
  lr : listAt H0 r = some [t]
  wr : ∀ i ∈ a.i :: k.foot, i ≠ w ∧ i ≠ r
section
variable {H0 H H' : Hp} {k : Bk} {s w r : Nat} {as : List Ad} {a : Ad} {ps qs : List Prs} {p : Prs} {hs hs' : List Mtg} {k' : Bk} {e : Nat} {hours lo hi : Int} {t : V}
theorem Ag.hw (G : Ag H0 H k s w r as a ps qs p hs hs' k' e hours lo hi t) : listAt H w = some [.int hours, .int lo, .int hi, .ref r] := G.fr.list (fun h => (G.wr w h).1 rfl) G.as0.lw
theorem Ag.hr (G : Ag H0 H k s w r as a ps qs p hs hs' k' e hours lo hi t) : listAt H r = some [t] := G.fr.list (fun h => (G.wr r h).2 rfl) G.lr
theorem Ag.pre (G : Ag H0 H k s w r as a ps qs p hs hs' k' e hours lo hi t) (h : H <+: H') : Ag H0 H' k s w r as a ps qs p hs hs' k' e hours lo hi t :=
  ⟨G.st0, G.as0, G.fr.trans (Fr.pre (F := []) h) fun _ h => (nomatch h), G.rcd.fr (F := []) (Fr.pre h) fun _ _ h => (nomatch h), G.book.pre h, G.foot, G.kb, G.lr, G.wr⟩
theorem Ag.nu {F : List Nat} (G : Ag H0 H k s w r as a ps qs p hs hs' k' e hours lo hi t) (f : Fr F H H') (hF : ∀ i ∈ F, H.length ≤ i) : Ag H0 H' k s w r as a ps qs p hs hs' k' e hours lo hi t := by
  have f' : Fr [] H H' := f.mono fun i hi => .inr (hF i hi)
  exact ⟨G.st0, G.as0, G.fr.trans f' fun _ h => (nomatch h), G.rcd.fr f' fun _ _ h => (nomatch h), G.book.fr f' fun _ _ h => (nomatch h), G.foot, G.kb, G.lr, G.wr⟩
theorem Ag.bk {k2 : Bk} {hs2 : List Mtg} (G : Ag H0 H k s w r as a ps qs p hs hs' k' e hours lo hi t) (f : Fr k'.foot H H') (hf : ∀ i ∈ k2.foot, i ∈ k'.foot ∨ H.length ≤ i) (hb : k2.b = k'.b) (B : BkAt H' k2 ps hs2) : Ag H0 H' k s w r as a ps qs p hs hs2 k2 e hours lo hi t := by
  have lt := G.st0.lt
  have hl := G.fr.len
  refine ⟨G.st0, G.as0, G.fr.trans f fun i hi => ?_, G.rcd.fr f fun i hi h => ?_, B, fun i hi => ?_, hb.trans G.kb, G.lr, G.wr⟩
  · rcases G.foot i hi with q | q
    · exact .inl (.tail _ q)
    · exact .inr q
  · rcases G.foot i h with q | q
    · exact G.st0.dis i hi q
    · have := lt i hi; lia
  · rcases hf i hi with q | q
    · exact G.foot i q
    · exact .inr (by lia)
theorem Ag.set {e' : Nat} (G : Ag H0 H k s w r as a ps qs p hs hs' k' e hours lo hi t) : Ag H0 (H.set a.i (.list [.str p.nm, .ref a.f, .ref a.u, .ref e'])) k s w r as a ps qs p hs hs' k' e' hours lo hi t := by
  have lt := G.st0.lt a.i m_i
  refine ⟨G.st0, G.as0, G.fr.trans Fr.set fun i hi => .inl (by rw [List.mem_singleton.mp hi]; exact .head _), G.rcd.set G.st0.nd, G.book.fr Fr.set fun i hi => nin1 fun q => ?_, G.foot, G.kb, G.lr, G.wr⟩
  rw [q] at hi
  rcases G.foot _ hi with q | q
  · exact G.st0.dis _ m_i q
  · lia
theorem Ag.asks (G : Ag H0 H k s w r as a ps qs p hs hs' k' e hours lo hi t) : Asks H w r hours lo hi := ⟨G.hw, G.as0.hh, G.as0.h1, G.as0.h2, G.as0.h3, G.as0.h4⟩
theorem set3 {v : V} {a b c d : V} : List.set [a, b, c, d] (Int.toNat 3) v = [a, b, c, v] := rfl
end
end Mine
namespace Mine
open PySem
section
variable {H0 H H' : Hp} {k : Bk} {s w r : Nat} {as : List Ad} {a : Ad} {ps qs : List Prs} {p : Prs} {hs hs' : List Mtg} {k' : Bk} {e : Nat} {hours lo hi no x : Int} {t : V}
theorem others (S : St H k s (as ++ [a]) ps (qs ++ [p]) hs) : ∀ q ∈ qs, mets (hs ++ [⟨no, x, 1, [p.nm]⟩]) q.nm = mets hs q.nm := fun q hq => by
  have nd := S.nms
  rw [List.map_append] at nd
  have hne := (List.nodup_append.mp nd).2.2 q.nm (List.mem_map_of_mem hq) p.nm (.head _)
  rw [mets_app, if_neg]
  intro h
  exact hne (List.mem_singleton.mp (List.contains_iff_mem.mp h))
theorem mine : mets (hs ++ [⟨no, x, 1, [p.nm]⟩]) p.nm = mets hs p.nm ++ [(x, 1)] := by
  rw [mets_app, if_pos]
  exact List.contains_iff_mem.mpr (.head _)
theorem Ag.st (G : Ag H0 H k s w r as a ps qs p hs (hs ++ [⟨no, x, 1, [p.nm]⟩]) k' e hours lo hi t) (he : H0.length ≤ e) (hk : e ∉ k'.foot) (le : listAt H e = some ((mets hs p.nm ++ [(x, 1)]).map metV)) (hl : hs.length ≤ 1) (hx : 0 ≤ x) : St H k' s (as ++ [⟨a.i, a.f, a.u, e⟩]) ps (qs ++ [p]) (hs ++ [⟨no, x, 1, [p.nm]⟩]) :=
  mkSt G.st0 G.rcd G.book G.foot (.inr ⟨he, hk⟩) (by rw [mine]; exact le) (others G.st0) (by rw [List.length_append, List.length_singleton]; lia) fun m hm => by
    rcases List.mem_append.mp hm with q | q
    · exact G.st0.hm m q
    · rw [List.mem_singleton.mp q]; exact ⟨hx, (show (0 : Int) ≤ 1 ∧ (1 : Int) ≤ 48 by decide)⟩
theorem Ag.st1 (G : Ag H0 H k s w r as a ps qs p hs hs k' a.e hours lo hi t) : St H k' s (as ++ [a]) ps (qs ++ [p]) hs := mkSt G.st0 G.rcd G.book G.foot (.inl rfl) G.rcd.le (fun _ _ => rfl) G.st0.hl G.st0.hm
end
theorem m1_go {o : Option Int} {H : Hp} {Q : V → Hp → Prop} (h : ∀ b, o = some b → 0 ≤ b) (q : Q (.bool false) H) : pCmp .Eq (intO o) (.int (-1)) H Q := by rw [eq_m1 h]; exact q
theorem o_go {o o' : Option Int} {H : Hp} {Q : V → Hp → Prop} (h : o = o') (q : Q (.bool true) H) : pCmp .Eq (intO o) (intO o') H Q := by rw [h, eq_intO]; exact q
theorem lt34 : (3 : Int) < ((4 : Nat) : Int) := by decide
theorem one_ok : sizeOk1 1 := ⟨by decide, by decide⟩
theorem ite_nn {Φ : Orc} {j : Nat} {x : Int} {L : Lc} {H : Hp} {QF : QS} {XF : XS} {a : List IS} (hj : L[j]? = some (some (.int x))) (h : wpSs Φ a L H QF XF) : wpS Φ (.ite (.cmp (.loc j) .IsNot (.lit .none)) a []) L H QF XF := by
  simp_arith only [hj, isNoneV]
  exact h
noncomputable abbrev aaL (ns : List Int) (b s : Nat) (o : Option Int) (w : Nat) (a : Ad) (no x : Int) (t8 t9 : Option V) : Lc := [some (.scr ns), some (.ref b), some (.ref s), some (intO o), some (.ref w), some (.ref a.i), some (.ref a.e), some (.tup [.int no, .int x]), t8, t9, none, none, none]
noncomputable def aaQ (Q : V → Hp → Prop) (H0 : Hp) (k : Bk) (s w r : Nat) (as : List Ad) (a : Ad) (ps qs : List Prs) (p : Prs) (hs : List Mtg) (hours lo hi : Int) (t : V) : Prop := ∀ H' k', Ag H0 H' k s w r as a ps qs p hs hs k' a.e hours lo hi t → k'.c ≤ k.c + 2 → Q (.bool true) H'
section
variable {ns : List Int} {H0 H H' : Hp} {k : Bk} {s w r : Nat} {as : List Ad} {a : Ad} {ps qs : List Prs} {p : Prs} {hs : List Mtg} {k' : Bk} {e : Nat} {hours lo hi no x x0 : Int} {t : V} {t8 t9 : Option V} {Q : V → Hp → Prop} {X : XL} {o : Option Int}
theorem aa3 (hz : hs.length ≤ 1) (ho : o = (lookF 0 hs (qs ++ [p]) hours lo (hi - hours)).1) (q : aaQ Q H0 k s w r as a ps qs p hs hours lo hi t) (G : Ag H0 H k s w r as a ps qs p hs (hs ++ [⟨no, x, 1, [p.nm]⟩]) k' e hours lo hi t) (hc : k'.c ≤ k.c + 1) (hc1 : k.c ≤ 100) (he : H0.length ≤ e) (hk : e ∉ k'.foot) (le : listAt H e = some ((mets hs p.nm ++ [(x, 1)]).map metV)) (hx : 0 ≤ x) :
    wpSs Θp (f_l_asked_again.body.drop 9) (aaL ns k.b s o w a no x0 t8 t9) H (fun fl _ H1 => Q (retV fl) H1) (fun x _ H1 => X x H1) := by
  have b0 := G.as0.h1.1
  rw [← G.kb]
  refine zs_cons ?_
  generalize hK : sqX Θp (_ :: _) = K
  simp_arith only [↓Tp_as]
  refine ⟨k', s, w, r, _, ps, _, _, hours, lo, hi, G.st he hk le hz hx, G.asks, .inr ⟨⟨t, G.hr⟩, fun H1 f1 => ?_⟩⟩
  refine m1_go (look_nn b0) ?_
  simp_arith only [X_lit]
  subst hK
  have G1 := G.nu f1 fun _ h => (nomatch h)
  have le1 := f1.list (fun h => nomatch h) le
  refine zs_cons ?_
  generalize hK : sqX Θp (_ :: _) = K
  simp_arith only [G1.book.ns, ↓Tp_dr]
  refine ⟨k', ps, hs, ⟨no, x, 1, [p.nm]⟩, G1.book, by lia, by lia, fun H2 k2 f2 hb2 hg2 hc2 hf2 B2 => ?_⟩
  subst hK
  have G2 := G1.bk f2 hf2 hb2 B2
  refine zs_cons ?_
  generalize hK : sqX Θp (_ :: _) = K
  have li2 := G2.rcd.li
  simp_arith only [li2, set3]
  refine ⟨lt34, ?_⟩
  subst hK
  have G3 := G2.set (e' := a.e)
  rw [← hb2]
  generalize H2.set a.i (.list [.str p.nm, .ref a.f, .ref a.u, .ref a.e]) = H3 at *
  simp_arith only [↓Tp_as]
  refine ⟨k2, s, w, r, _, ps, _, hs, hours, lo, hi, G3.st1, G3.asks, .inr ⟨⟨t, G3.hr⟩, fun H4 f4 => ?_⟩⟩
  refine o_go ho.symm ?_
  exact q H4 k2 (G3.nu f4 fun _ h => (nomatch h)) (by lia)
theorem put {L : Lc} {ex : IE} {x2 : Int} {hs2 : List Mtg} {QF : QS} {XF : XS} (h5 : L[5]? = some (some (.ref a.i))) (h6 : L[6]? = some (some (.ref a.e))) (hex : ∀ H (P : V → Hp → Prop) X, P (.int x2) H → (wp2 Θp ex).E L H P X) (hz : hs.length ≤ 1) (G : Ag H0 H k s w r as a ps qs p hs hs2 k' e hours lo hi t)
    (q : ∀ H' e', Ag H0 H' k s w r as a ps qs p hs hs2 k' e' hours lo hi t → H0.length ≤ e' → e' ∉ k'.foot → listAt H' e' = some ((mets hs p.nm ++ [(x2, 1)]).map metV) → QF .next L H') :
    wpS Θp (.setItem (.loc 5) (.lit (.int 3)) (.bin .Add (.loc 6) (.lst [(.tup [ex, (.lit (.int 1))])]))) L H QF XF := by
  have lo2 := G.rcd.le
  have zl := mets_len (hs := hs) (nm := p.nm)
  simp_arith only [h5, h6]
  refine hex _ _ _ ?_
  have p3 : H <+: H ++ [.list [.tup [.int x2, .int 1]]] := pre_new
  have ln3 := listAt_new (H := H) (l := [.tup [.int x2, .int 1]])
  generalize H ++ [O.list [.tup [.int x2, .int 1]]] = H3 at *
  have G3 := G.pre p3
  have lo3 := G3.rcd.le
  simp_arith only [lo3, ln3]
  refine ⟨by rw [List.length_map]; lia, ?_⟩
  have p4 : H3 <+: H3 ++ [.list ((mets hs p.nm).map metV ++ [.tup [.int x2, .int 1]])] := pre_new
  have ln4 := listAt_new (H := H3) (l := (mets hs p.nm).map metV ++ [.tup [.int x2, .int 1]])
  have G4 := G3.pre p4
  have hn4 : H3.length ∉ k'.foot := fun h => by have := G3.book.lt _ h; lia
  have hl := G3.fr.len
  have lt := G.st0.lt a.i m_i
  generalize H3 ++ [O.list ((mets hs p.nm).map metV ++ [.tup [.int x2, .int 1]])] = H4 at *
  have li4 := G4.rcd.li
  simp_arith only [li4, set3]
  refine ⟨lt34, ?_⟩
  exact q _ _ G4.set hl hn4 ((Fr.set.list (nin1 (by lia)) ln4).trans (by rw [List.map_append]; rfl))
theorem look_ge {b : Int} {hs : List Mtg} {qs : List Prs} {hours last y : Int} : ∀ (c : Nat) (a : Int), (lookG b hs qs hours last c a).1 = some y → a ≤ y
  | 0, _, h => by cases h
  | c + 1, a, h => by
    unfold lookG at h
    by_cases hle : a ≤ last
    · rw [if_pos hle] at h
      cases hb : barF b hs qs hours a with
      | none => rw [hb] at h; exact Int.le_of_eq (Option.some.inj h)
      | some r =>
        rw [hb] at h
        have h1 := (barF_some hb).1
        have := look_ge c _ h
        lia
    · rw [if_neg hle] at h; cases h
theorem aa2 (hn : ns.length ≤ 1000) (hz : hs.length ≤ 1) (ho : o = (lookF 0 hs (qs ++ [p]) hours lo (hi - hours)).1) (q : aaQ Q H0 k s w r as a ps qs p hs hours lo hi t) (G : Ag H0 H k s w r as a ps qs p hs (hs ++ [⟨no, x, 1, [p.nm]⟩]) k' e hours lo hi t) (hc : k'.c ≤ k.c + 1) (hc1 : k.c ≤ 100) (he : H0.length ≤ e) (hk : e ∉ k'.foot) (le : listAt H e = some ((mets hs p.nm ++ [(x, 1)]).map metV)) (hx : 0 ≤ x) :
    wpSs Θp (f_l_asked_again.body.drop 5) (aaL ns k.b s o w a no x none none) H (fun fl _ H1 => Q (retV fl) H1) (fun x _ H1 => X x H1) := by
  have b0 := G.as0.h1.1
  have b1 := G.as0.h1.2
  have hkb := G.kb
  rw [← hkb]
  refine zs_cons ?_
  generalize hK : sqX Θp (_ :: _) = K
  simp_arith only [↓Tp_as]
  refine ⟨k', s, w, r, _, ps, _, _, hours, lo, hi, G.st he hk le hz hx, G.asks, .inr ⟨⟨t, G.hr⟩, fun H1 f1 => ?_⟩⟩
  refine m1_go (look_nn b0) ?_
  simp_arith only [X_lit]
  subst hK
  have G1 := G.nu f1 fun _ h => (nomatch h)
  have le1 := f1.list (fun h => nomatch h) le
  refine zs_cons ?_
  generalize hK : sqX Θp (_ :: _) = K
  simp_arith only [G1.hw, ↓Tp_ca, ↓cc_cell, ↓Tp_it, ↓cc_int]
  refine ⟨hn, ?_⟩
  subst hK
  have hm : hourOk (min (lo + cell ns 9 % 12) 999999999999) ∧ lo ≤ min (lo + cell ns 9 % 12) 999999999999 := ⟨⟨by lia, by lia⟩, by lia⟩
  generalize min (lo + cell ns 9 % 12) 999999999999 = y at *
  have hm1 := hm.1.1
  have hm2 := hm.1.2
  refine zs_cons ?_
  generalize hK : sqX Θp (_ :: _) = K
  simp_arith only [G1.book.ns, ↓Tp_it, ↓cc_int, ↓Tp_mo]
  have hp := G1.st0.sub p (List.mem_append_right _ (.head _))
  refine ⟨k', ps, hs, ⟨no, x, 1, [p.nm]⟩, [p], y, _, ⟨G1.book, rfl, fun q hq => by rw [List.mem_singleton.mp hq]; exact hp, one_ok, hm.1, ⟨by lia, by lia⟩, by lia, by lia, by lia⟩, fun _ H2 p2 => ?_, fun x2 H2 hx2 f2 B2 => ?_⟩
  · subst hK
    refine zs_cons ?_
    generalize hK : sqX Θp (_ :: _) = K
    simp_arith only [isNoneV]
    subst hK
    rw [hkb]
    exact aa3 hz ho q (G1.pre p2) hc hc1 he hk (listAt_pre p2 le1) hx
  · subst hK
    have G2 := G1.bk f2 (fun i hi => .inl hi) rfl B2
    have hx2' := look_ge _ _ hx2
    refine zs_cons ?_
    generalize hK : sqX Θp (_ :: _) = K
    refine ite_nn (x := x2) rfl (zs_cons (put rfl rfl (fun _ _ _ h => h) hz G2 fun H4 e4 G4 he4 hk4 le4 => ?_))
    subst hK
    rw [hkb]
    exact aa3 (no := no) (x := x2) hz ho q G4 hc hc1 he4 hk4 le4 (by lia)
end
inductive IC_asked_again (H : Hp) (Q : V → Hp → Prop) : List V → Prop where
  | mk (ns : List Int) (k : Bk) (s : Nat) (w : Nat) (r : Nat) (as : List Ad) (a : Ad) (ps : List Prs) (qs : List Prs) (p : Prs) (hs : List Mtg) (hours : Int) (lo : Int) (hi : Int) (t : V) : (ns.length ≤ 1000) → (Ag H H k s w r as a ps qs p hs hs k a.e hours lo hi t) → (hs.length ≤ 1) → (k.c ≤ 100) → (aaQ Q H k s w r as a ps qs p hs hours lo hi t) → IC_asked_again H Q ([.scr ns, .ref k.b, .ref s, intO (lookF 0 hs (qs ++ [p]) hours lo (hi - hours)).1, .ref w])
noncomputable def C_asked_again : Ctr := fun vs H Q _ => IC_asked_again H Q vs
theorem w_asked_again : ∀ vs H Q X, C_asked_again vs H Q X → wpFn Θp f_l_asked_again vs H Q X := by
  rintro vs H Q X ⟨ns, k, s, w, r, as, a, ps, qs, p, hs, hours, lo, hi, t, hn, G, hz, hc, q⟩
  refine fn_of rfl ?_
  have b0 := G.as0.h1.1
  have b1 := G.as0.h1.2
  obtain ⟨o, ho⟩ : ∃ o, o = (lookF 0 hs (qs ++ [p]) hours lo (hi - hours)).1 := ⟨_, rfl⟩
  rw [← ho]
  change wpSs Θp f_l_asked_again.body [some (.scr ns), some (.ref k.b), some (.ref s), some (intO o), some (.ref w), none, none, none, none, none, none, none, none] H _ _
  refine zs_cons ?_
  generalize hK : sqX Θp (_ :: _) = K
  have lm := G.rcd.lm
  simp_arith only [lm, idx_last]
  subst hK
  refine zs_cons ?_
  generalize hK : sqX Θp (_ :: _) = K
  have li := G.rcd.li
  simp_arith only [li]
  subst hK
  have p1 : H <+: H ++ [.list [.str p.nm]] := pre_new
  have ln := listAt_new (H := H) (l := [V.str p.nm])
  refine zs_cons ?_
  generalize hK : sqX Θp (_ :: _) = K
  simp_arith only [li, G.book.ns]
  generalize H ++ [O.list [.str p.nm]] = H1 at *
  have G1 := G.pre p1
  simp_arith only [G1.hw, ↓Tp_it, ↓cc_int, ↓Tp_me]
  have hp := G1.st0.sub p (List.mem_append_right _ (.head _))
  have hnf : H.length ∉ k.foot := fun h => by have := G.book.lt _ h; lia
  refine ⟨k, H.length, ps, hs, [p], 1, lo, _, ⟨⟨G1.book, ln, fun q hq => by rw [List.mem_singleton.mp hq]; exact hp⟩, List.cons_ne_nil _ _, List.nodup_cons.mpr ⟨List.not_mem_nil, List.nodup_nil⟩, one_ok, ⟨b0, b1⟩, ⟨by lia, by lia⟩, by lia, by lia⟩, hnf, by lia, by lia, fun _ H2 p2 => ?_, fun k2 x H2 hx f2 hf2 hb2 hg2 hc2 B2 => ?_⟩
  · subst hK
    refine zs_cons ?_
    generalize hK : sqX Θp (_ :: _) = K
    simp_arith only [isNoneV]
    subst hK
    exact q H2 k (G1.pre p2) (by lia)
  · subst hK
    have hx' := look_ge _ _ hx
    have G2 := G1.bk f2 (fun i hi => .inl (by rw [← hf2]; exact hi)) hb2 B2
    refine zs_cons ?_
    generalize hK : sqX Θp (_ :: _) = K
    simp_arith only [isNoneV]
    subst hK
    refine zs_cons (put rfl rfl (x2 := x) (fun _ _ _ h => h) hz G2 fun H4 e4 G4 he4 hk4 le4 => ?_)
    exact aa2 hn hz ho q G4 (by lia) hc he4 hk4 le4 (by lia)
noncomputable def Θq : Orc := ext "_law_asked_again" C_asked_again Θp
end Mine
namespace Mine
open PySem
theorem Tq_bu : Θq (Str.ofString "Book." ++ Str.ofString "busy") = C_busy := rfl
noncomputable def onc (x : Int) : Rl := .pl (.once x 1)
theorem onc_fine {x : Int} (h : hourOk x) : (onc x).fine := ⟨h, one_ok⟩
theorem cov_once {x z : Int} (h : 0 ≤ z) : cov (onc x) z = decide (z = x) := by
  have e : rangeJ 0 (onc x).size = [0] := rfl
  unfold cov
  rw [e, List.any_cons, List.any_nil, Bool.or_false, Int.sub_zero]
  unfold bg
  rw [if_neg (by lia)]; rfl
theorem no_clash {H : Hp} {k : Bk} {s : Nat} {as : List Ad} {ps qs : List Prs} {hs : List Mtg} {nm : Str} {x : Int} (S : St H k s as ps qs hs) (h : (mets hs nm).any (inM x) = false) : noClash hs nm (onc x) := fun m hm hw => by
  refine e0_3 (S.hm m hm) fun k1 k2 k3 => ?_
  refine ⟨k1, ⟨k2, k3⟩, fun j h1 h2 => ?_⟩
  rw [cov_once (by lia)]
  refine decide_eq_false fun e => ?_
  have hmem : (m.hr, m.sz) ∈ mets hs nm := List.mem_map.mpr ⟨m, List.mem_filter.mpr ⟨hm, hw⟩, rfl⟩
  have := List.any_eq_false.mp h _ hmem
  apply this
  unfold inM
  rw [decide_eq_true (by show m.hr ≤ x; lia), decide_eq_true (by show x < m.hr + m.sz; lia)]; rfl
theorem St.grow {H H2 : Hp} {k : Bk} {s : Nat} {as : List Ad} {a : Ad} {p1 p2 qs : List Prs} {p : Prs} {hs : List Mtg} {r : Rl} (S : St H k s (as ++ [a]) (p1 ++ p :: p2) (qs ++ [p]) hs) (f : Fr k.ul H H2) (B : BkAt H2 k (p1 ++ ⟨p.nm, p.fr, p.bu ++ [r]⟩ :: p2) hs) (rf : r.fine) (hb : p.bu.length < 10) :
    St (H2.set a.u (.list (p.bu.map rv ++ [rv r]))) k s (as ++ [a]) (p1 ++ ⟨p.nm, p.fr, p.bu ++ [r]⟩ :: p2) (qs ++ [⟨p.nm, p.fr, p.bu ++ [r]⟩]) hs := by
  have d : ∀ i ∈ s :: ads (as ++ [a]), i ∉ k.ul := fun i hi h => S.dis i hi (ft_ul h)
  have R := S.rcd.fr f d
  have nd := S.nd
  rw [ads_snoc] at nd
  obtain ⟨n1, n2⟩ := List.nodup_cons.mp nd
  refine e0_3 (List.nodup_append.mp n2) fun _ n3 n4 => ?_
  obtain ⟨n5, n6⟩ := List.nodup_cons.mp n3
  obtain ⟨n7, n8⟩ := List.nodup_cons.mp n6
  obtain ⟨n9, _⟩ := List.nodup_cons.mp n8
  have e1 : s ≠ a.u := fun q => n1 (List.mem_append_right _ (by rw [q]; exact .tail _ (.tail _ (.head _))))
  have e2 : ∀ i ∈ ads as, i ≠ a.u := fun i hi q => n4 i hi a.u (.tail _ (.tail _ (.head _))) q
  have e3 : a.i ≠ a.u := fun q => n5 (by rw [q]; exact .tail _ (.head _))
  have e4 : a.f ≠ a.u := fun q => n7 (by rw [q]; exact .head _)
  have e5 : a.e ≠ a.u := fun q => n9 (by rw [← q]; exact .head _)
  have hp := S.sub p (List.mem_append_right _ (.head _))
  have hsm := S.sm p (List.mem_append_right _ (.head _))
  have nms := S.nms
  rw [List.map_append] at nms
  have g : Fr [a.u] H2 (H2.set a.u (.list (p.bu.map rv ++ [rv r]))) := Fr.set
  refine ⟨B.fr g fun i hi => nin1 fun q => S.dis a.u m_u (q ▸ hi), ?_, (R.at'.fr g fun i hi => nin1 (e2 i hi)).snoc (a := a) (p := ⟨p.nm, p.fr, p.bu ++ [r]⟩) ⟨g.list (nin1 e3) R.li, g.list (nin1 e4) R.lf, (listAt_set R.lu).trans (by rw [List.map_append]; rfl), g.list (nin1 e5) R.le⟩, S.nd, S.dis, fun q hq => ?_, fun h => absurd h (by simp), by rw [List.map_append]; exact nms, ?_, fun q hq => ?_, S.hl, S.hm⟩
  · rw [g.list (nin1 e1) R.lm, refs_snoc]
  · rcases List.mem_append.mp hq with h | h
    · obtain ⟨h1, h2⟩ := S.sub q (List.mem_append_left _ h)
      refine ⟨?_, h2⟩
      rcases List.mem_append.mp h1 with h3 | h3
      · exact List.mem_append_left _ h3
      rcases List.mem_cons.mp h3 with h4 | h4
      · exact absurd (by rw [h4]) ((List.nodup_append.mp nms).2.2 q.nm (List.mem_map_of_mem h) p.nm (.head _))
      · exact List.mem_append_right _ (.tail _ h4)
    · rw [List.mem_singleton.mp h]
      refine ⟨List.mem_append_right _ (.head _), hp.2.1, fun x hx => ?_⟩
      rcases List.mem_append.mp hx with h5 | h5
      · exact hp.2.2 x h5
      · rw [List.mem_singleton.mp h5]; exact rf
  · have := S.len
    rw [List.length_append] at this ⊢; exact this
  · rcases List.mem_append.mp hq with h | h
    · exact S.sm q (List.mem_append_left _ h)
    · rw [List.mem_singleton.mp h]
      refine ⟨hsm.1, ?_, hsm.2.2⟩
      show (p.bu ++ [r]).length ≤ 10
      rw [List.length_append, List.length_singleton]; lia
noncomputable def addB (ms : List (Int × Int)) : List (Option Int) → List Rl
  | [] => []
  | none :: xs => addB ms xs
  | some x :: xs => if ms.any (inM x) then addB ms xs else onc x :: addB ms xs
theorem bz_comp {s : Nat} {vs0 : List V} {v0 v1 v2 : V} {x : Int} {t4 t5 t6 t7 : Option V} {X : XL} {H : Hp} {Q : List V → Hp → Prop} (hs : listAt H s = some vs0) : ∀ (ms : List (Int × Int)) (bs : List Bool), Q ((bs ++ ms.map (inM x)).map V.bool) H →
    compGoB (coEX Θq (.cmp2 (.loc 5) .LtE (.loc 3) .Lt (.bin .Add (.loc 5) (.loc 6))) X) (fun H' => listAt H' s = some vs0) (bd2 5 [some v0, some v1, some v2, some (.int x), t4, t5, t6, t7]) (ms.map metV) (bs.map V.bool) H Q := by
  intro ms
  induction ms with
  | nil => intro bs q; rw [List.map_nil, List.append_nil] at q; exact q
  | cons m ms ih =>
    intro bs q
    rw [List.map_cons, show metV m = .tup [.int m.1, .int m.2] from rfl, co2_cons]
    have step : ∀ b, inM x m = b → listAt H s = some vs0 ∧ compGoB (coEX Θq (.cmp2 (.loc 5) .LtE (.loc 3) .Lt (.bin .Add (.loc 5) (.loc 6))) X) (fun H' => listAt H' s = some vs0) (bd2 5 [some v0, some v1, some v2, some (.int x), t4, t5, t6, t7]) (ms.map metV) (bs.map V.bool ++ [.bool b]) H Q := fun b hb => by
      have := ih (bs ++ [b]) (by rw [List.map_cons, hb, List.append_cons] at q; exact q)
      rw [List.map_append] at this
      exact ⟨hs, this⟩
    simp_arith only [X_lit]
    refine ⟨fun h => step _ (by unfold inM; rw [decide_eq_true h]; rfl), fun h => ?_⟩
    exact step _ (by unfold inM; rw [decide_eq_false h]; rfl)
noncomputable abbrev bzB : List IS := bdy (f_l_busier.body.getD 0 .fail)
theorem bz_loop {XF : XS} {k : Bk} {s h : Nat} {as : List Ad} {a : Ad} {qs : List Prs} {hs : List Mtg} {t5 t6 t7 : Option V} {vs0 : List V} {H0 : Hp} {Q : QS} (hh : listAt H0 h = some vs0) (hd : h ∉ a.u :: k.ul) : ∀ (xs : List (Option Int)) (ps : List Prs) (p : Prs) (H : Hp) (t3 t4 : Option V), Fr (a.u :: k.ul) H0 H → St H k s (as ++ [a]) ps (qs ++ [p]) hs → p.bu.length + xs.length ≤ 9 → (∀ x, some x ∈ xs → hourOk x) →
    (∀ ps' H' L', Fr (a.u :: k.ul) H0 H' → St H' k s (as ++ [a]) ps' (qs ++ [⟨p.nm, p.fr, p.bu ++ addB (mets hs p.nm) xs⟩]) hs → Q .next L' H') →
    forGo (whBX Θq bzB XF) (fun H' => listAt H' h = some vs0) 3 (xs.map intO) [some (.ref k.b), some (.ref a.i), some (.ref h), t3, t4, t5, t6, t7] H Q := by
  intro xs
  induction xs with
  | nil =>
    intro ps p H t3 t4 f S _ _ q
    have := q ps H
    rw [show addB (mets hs p.nm) [] = [] from rfl, List.append_nil] at this
    exact this _ f S
  | cons o xs ih =>
    intro ps p H t3 t4 f S hz hx q
    rw [List.length_cons] at hz
    rw [List.map_cons, foX_cons]
    refine zs_cons ?_
    generalize hK : sqX Θq (_ :: _) = K
    cases o with
    | none =>
      simp_arith only [intO, isNoneV]
      subst hK
      exact ⟨f.list hd hh, ih ps p H _ _ f S (by lia) (fun x h => hx x (.tail _ h)) q⟩
    | some x =>
      simp_arith only [intO, isNoneV]
      subst hK
      refine zs_cons ?_
      generalize hK : sqX Θq (_ :: _) = K
      have R := S.rcd
      have zl := mets_len (hs := hs) (nm := p.nm)
      have hl := S.hl
      have li := R.li
      have le := R.le
      simp_arith only [li, le]
      refine bz_comp le _ [] ⟨by rw [List.nil_append, List.length_map, List.length_map]; lia, ?_⟩
      rw [List.nil_append]
      have p1 : H <+: H ++ [.list (((mets hs p.nm).map (inM x)).map V.bool)] := pre_new
      have ln := listAt_new (H := H) (l := ((mets hs p.nm).map (inM x)).map V.bool)
      have S1 := S.pre p1
      have f1 := f.trans (Fr.pre (F := []) p1) fun _ h => (nomatch h)
      generalize H ++ [O.list (((mets hs p.nm).map (inM x)).map V.bool)] = H1 at *
      simp_arith only [ln, bools_map, any_id]
      subst hK
      refine zs_cons ?_
      generalize hK : sqX Θq [] = K
      simp_arith only [X_lit]
      unfold addB at q
      cases hb : (mets hs p.nm).any (inM x) with
      | true =>
        rw [hb, if_pos rfl] at q
        subst hK
        exact ⟨f1.list hd hh, ih ps p H1 _ _ f1 S1 (by lia) (fun x h => hx x (.tail _ h)) q⟩
      | false =>
        rw [hb, if_neg Bool.false_ne_true] at q
        refine e2_1 (List.append_of_mem (S1.sub p (List.mem_append_right _ (.head _))).1) fun pa pb e_244 => ?_
        obtain rfl := e_244
        have hfx := onc_fine (hx x List.mem_cons_self)
        have li1 := S1.rcd.li
        simp_arith only [S1.book.ns, li1, ↓Tq_bu]
        refine ⟨k, pa, pb, p, hs, onc x, S1.book, hfx, by lia, no_clash S1 hb, fun H2 f2 B2 => ?_⟩
        have R2 := S1.rcd.fr f2 fun i hi h => S1.dis i hi (ft_ul h)
        have lu2 := R2.lu
        simp_arith only [R2.li, lu2]
        refine ⟨⟨_, lu2⟩, by rw [List.length_map]; lia, ?_⟩
        subst hK
        have S3 := S1.grow f2 B2 hfx (by lia)
        have f3 : Fr (a.u :: k.ul) H0 (H2.set a.u (.list (p.bu.map rv ++ [rv (onc x)]))) := (f1.trans f2 fun i hi => .inl (.tail _ hi)).trans Fr.set fun i hi => .inl (by rw [List.mem_singleton.mp hi]; exact .head _)
        refine ⟨f3.list hd hh, ih _ _ _ _ _ f3 S3 (by show (p.bu ++ [onc x]).length + _ ≤ _; rw [List.length_append, List.length_singleton]; lia) (fun x h => hx x (.tail _ h)) fun ps' H' L' g S' => q ps' H' L' g ?_⟩
        rw [List.append_assoc] at S'
        exact S'
inductive IC_busier (H : Hp) (Q : V → Hp → Prop) : List V → Prop where
  | mk (k : Bk) (s : Nat) (h : Nat) (as : List Ad) (a : Ad) (ps : List Prs) (qs : List Prs) (p : Prs) (hs : List Mtg) (xs : List (Option Int)) : (St H k s (as ++ [a]) ps (qs ++ [p]) hs) → (listAt H h = some (xs.map intO)) → (h ∉ a.u :: k.ul) → (p.bu.length + xs.length ≤ 9) → ((∀ x, some x ∈ xs → hourOk x)) → (∀ ps' H', Fr (a.u :: k.ul) H H' → St H' k s (as ++ [a]) ps' (qs ++ [⟨p.nm, p.fr, p.bu ++ addB (mets hs p.nm) xs⟩]) hs → Q .none H') → IC_busier H Q ([.ref k.b, .ref a.i, .ref h])
noncomputable def C_busier : Ctr := fun vs H Q _ => IC_busier H Q vs
theorem w_busier : ∀ vs H Q X, C_busier vs H Q X → wpFn Θq f_l_busier vs H Q X := by
  rintro vs H Q X ⟨k, s, h, as, a, ps, qs, p, hs, xs, S, hl, hd, hz, hx, q⟩
  refine fn_of rfl ?_
  change wpSs Θq f_l_busier.body [some (.ref k.b), some (.ref a.i), some (.ref h), none, none, none, none, none] H _ _
  refine zs_cons ?_
  generalize hK : sqX Θq [] = K
  simp_arith only [hl]
  subst hK
  exact bz_loop hl hd xs ps p H _ _ Fr.refl S hz hx fun ps' H' L' f S' => q ps' H' f S'
noncomputable def Θr : Orc := ext "_law_busier" C_busier Θq
end Mine
namespace Mine
open PySem
noncomputable def valid (b : Int) (hs : List Mtg) (qs : List Prs) (hours a : Int) : Prop := ∀ q ∈ qs, ∀ x, a ≤ x → x < a + hours → fre b hs q x = true
theorem look_yes {b : Int} {hs : List Mtg} {qs : List Prs} {hours last y : Int} : ∀ (c : Nat) (a : Int), (lookG b hs qs hours last c a).1 = some y → valid b hs qs hours y ∧ y ≤ last
  | 0, _, h => by cases h
  | c + 1, a, h => by
    unfold lookG at h
    by_cases hle : a ≤ last
    · rw [if_pos hle] at h
      cases hb : barF b hs qs hours a with
      | none => rw [hb] at h; rw [← Option.some.inj h]; exact ⟨barF_none hb, hle⟩
      | some r => rw [hb] at h; exact look_yes c _ h
    · rw [if_neg hle] at h; cases h
theorem look_least {b : Int} {hs : List Mtg} {qs : List Prs} {hours last a' : Int} (hv : valid b hs qs hours a') (hl : a' ≤ last) : ∀ (c : Nat) (a : Int), last + 1 - a ≤ (c : Int) → a ≤ a' → ∃ y, (lookG b hs qs hours last c a).1 = some y ∧ y ≤ a'
  | 0, a, h, h1 => by lia
  | c + 1, a, h, h1 => by
    unfold lookG
    rw [if_pos (by lia)]
    cases hb : barF b hs qs hours a with
    | none => exact ⟨a, rfl, h1⟩
    | some r =>
      obtain ⟨k1, k2, q, hq, _, hf⟩ := barF_some hb
      have : r.2 < a' := by
        rcases Int.lt_or_le r.2 a' with h | h
        · exact h
        · rw [hv q hq r.2 h (by lia)] at hf; cases hf
      exact look_least hv hl c (r.2 + 1) (by lia) (by lia)
theorem look_due {b : Int} {hs : List Mtg} {qs : List Prs} {hours lo last due : Int} (hv : valid b hs qs hours due) (h0 : lo ≤ due) (hm : ∀ a', lo ≤ a' → valid b hs qs hours a' → due ≤ a') : (lookF b hs qs hours lo last).1 = if due ≤ last then some due else none := by
  unfold lookF
  by_cases h : due ≤ last
  · rw [if_pos h]
    refine e1_2 (look_least hv h (last + 1 - lo).toNat lo (by lia) h0) fun y e hy => ?_
    rw [e]
    have := hm y (look_ge _ _ e) (look_yes _ _ e).1
    rw [show y = due by lia]
  · rw [if_neg h]
    cases e : (lookG b hs qs hours last (last + 1 - lo).toNat lo).1 with
    | none => rfl
    | some y =>
      have h1 := hm y (look_ge _ _ e) (look_yes _ _ e).1
      have h2 := (look_yes _ _ e).2
      lia
noncomputable def step (hours d h : Int) : Int := if d ≤ h ∧ h < d + hours then h + 1 else d
structure Us (lo : Int) (us : List Int) : Prop where
  sp : ∃ fs gs, us = fs ++ gs ∧ fs.length ≤ 1 ∧ ∀ g ∈ gs, g < lo
theorem step_ge {hours d h : Int} : d ≤ step hours d h := by unfold step; split <;> lia
theorem fold_gs {hours d lo : Int} (hd : lo ≤ d) : ∀ gs : List Int, (∀ g ∈ gs, g < lo) → gs.foldl (step hours) d = d
  | [], _ => rfl
  | g :: gs, h => by
    have h1 := h g List.mem_cons_self
    rw [List.foldl_cons, show step hours d g = d by unfold step; rw [if_neg (by lia)]]
    exact fold_gs hd gs fun g hg => h g (.tail _ hg)
theorem fold_us {hours d0 lo : Int} {us : List Int} (hd : lo ≤ d0) (U : Us lo us) : d0 ≤ us.foldl (step hours) d0 ∧ (∀ h ∈ us, ¬ (us.foldl (step hours) d0 ≤ h ∧ h < us.foldl (step hours) d0 + hours)) ∧ ∀ a', d0 ≤ a' → (∀ h ∈ us, ¬ (a' ≤ h ∧ h < a' + hours)) → us.foldl (step hours) d0 ≤ a' := by
  refine e2_3 (U.sp) fun fs gs e_245 h1 h2 => ?_
  obtain rfl := e_245
  rw [List.foldl_append]
  cases fs with
  | nil =>
    rw [List.foldl_nil, fold_gs hd gs h2, List.nil_append]
    exact ⟨Int.le_refl _, fun h hh => by have := h2 h hh; lia, fun a' h _ => h⟩
  | cons f fs =>
    have : fs = [] := List.length_eq_zero_iff.mp (by rw [List.length_cons] at h1; lia)
    subst this
    have hs := step_ge (hours := hours) (d := d0) (h := f)
    rw [List.foldl_cons, List.foldl_nil, fold_gs (by lia) gs h2]
    refine ⟨hs, fun h hh => ?_, fun a' ha hv => ?_⟩
    · rcases List.mem_cons.mp hh with q | q
      · rw [q]; unfold step; split <;> lia
      · have := h2 h q; lia
    · have := hv f List.mem_cons_self
      unfold step
      split <;> lia
noncomputable def evr (st : Int) : Rl := .pl (.every st 1 1)
theorem cov_every {st z : Int} (h : 0 ≤ z) : cov (evr st) z = decide (st ≤ z) := by
  have e : rangeJ 0 (evr st).size = [0] := rfl
  unfold cov
  rw [e, List.any_cons, List.any_nil, Bool.or_false, Int.sub_zero]
  unfold bg
  rw [if_neg (by lia)]
  show (decide (st ≤ z) && decide ((z - st) % 1 = 0)) = _
  rw [decide_eq_true (show (z - st) % 1 = 0 by lia), Bool.and_true]
structure Wide (st : Prs → Int) (qs : List Prs) (p : Prs) (us : List Int) : Prop where
  fr : ∀ q ∈ qs ++ [p], q.fr = [evr (st q)]
  bu : ∀ q ∈ qs, q.bu = []
  last : p.bu = us.map onc
theorem any_onc {z : Int} (h : 0 ≤ z) : ∀ us : List Int, ((us.map onc).any fun r => cov r z) = us.any fun u => decide (z = u)
  | [] => rfl
  | u :: us => by rw [List.map_cons, List.any_cons, List.any_cons, cov_once h, any_onc h us]
theorem valid_iff {b hours a : Int} {hs : List Mtg} {st : Prs → Int} {qs : List Prs} {p : Prs} {us : List Int} (W : Wide st qs p us) (hn : ∀ q ∈ qs ++ [p], ∀ x, meets b hs q.nm x = false) (h0 : 0 ≤ a) (hh : 1 ≤ hours) :
    valid b hs (qs ++ [p]) hours a ↔ (∀ q ∈ qs ++ [p], st q ≤ a) ∧ ∀ h ∈ us, ¬ (a ≤ h ∧ h < a + hours) := by
  have key : ∀ q ∈ qs ++ [p], ∀ x, 0 ≤ x → fre b hs q x = (decide (st q ≤ x) && !q.bu.any fun r => cov r x) := fun q hq x hx => by
    unfold fre freeAt
    rw [decide_eq_false (by lia), hn q hq x, W.fr q hq, List.any_cons, List.any_nil, Bool.or_false, cov_every hx]; rfl
  constructor
  · intro hv
    refine ⟨fun q hq => ?_, fun h hh1 hc => ?_⟩
    · have := hv q hq a (Int.le_refl _) (by lia)
      rw [key q hq a h0, Bool.and_eq_true] at this
      exact of_decide_eq_true this.1
    · have hp : p ∈ qs ++ [p] := List.mem_append_right _ (.head _)
      have := hv p hp h hc.1 hc.2
      rw [key p hp h (by lia), W.last, any_onc (by lia), Bool.and_eq_true] at this
      have h2 := this.2
      rw [show (us.any fun u => decide (h = u)) = true from List.any_eq_true.mpr ⟨h, hh1, decide_eq_true rfl⟩] at h2
      cases h2
  · rintro ⟨h1, h2⟩ q hq x hx1 hx2
    rw [key q hq x (by lia), decide_eq_true (by have := h1 q hq; lia), Bool.true_and]
    rcases List.mem_append.mp hq with h | h
    · rw [W.bu q h]; rfl
    · rw [List.mem_singleton.mp h, W.last, any_onc (by lia)]
      have : (us.any fun u => decide (x = u)) = false := by
        rw [List.any_eq_false]
        intro u hu hc
        have := of_decide_eq_true hc
        exact h2 u hu (by lia)
      rw [this]; rfl
end Mine
namespace Mine
open PySem
theorem Tr_me : Θr (Str.ofString "Book." ++ Str.ofString "meet") = C_meet := rfl
theorem Tr_mo : Θr (Str.ofString "Book." ++ Str.ofString "move") = C_move := rfl
theorem st_comp {Φ : Orc} {s j : Nat} {vs0 : List V} {L : Lc} {X : XL} {H : Hp} {Q : List V → Hp → Prop} {me : Prs → List (Int × Int)} {st : Prs → Int} (hL : j < L.length) (hs : listAt H s = some vs0) : ∀ (as : List Ad) (qs : List Prs) (acc : List Int), PsAt H me as qs → (∀ q ∈ qs, q.fr = [evr (st q)]) → Q ((acc ++ qs.map st).map V.int) H →
    compGo (coEX Φ (.sub (.sub (.sub (.loc j) (.lit (.int 1))) (.lit (.int 0))) (.lit (.int 1))) X) (fun H' => listAt H' s = some vs0) j L (refs as) (acc.map V.int) H Q := by
  intro as
  have e2 : ∀ o, (L.set j o)[j]? = some o := fun o => by rw [List.getElem?_set_self hL]
  induction as with
  | nil => intro qs acc hr _ q; obtain rfl := hr; rw [List.map_nil, List.append_nil] at q; exact q
  | cons a as ih =>
    intro qs acc hr hf q
    refine e2_3 hr fun p rs e_246 P hr2 => ?_
    obtain rfl := e_246
    rw [show refs (a :: as) = .ref a.i :: refs as from rfl, coX_cons]
    have lf : listAt H a.f = some [.tup [.str "every", .int (st p), .int 1, .int 1]] := by rw [P.lf, hf p List.mem_cons_self]; rfl
    simp_arith only [e2, P.li, lf]
    have := ih rs (acc ++ [st p]) hr2 (fun q h => hf q (.tail _ h)) (by rw [List.map_cons, List.append_cons] at q; exact q)
    rw [List.map_append] at this
    exact ⟨hs, this⟩
theorem ints_of : ∀ l : List Int, intsOf (l.map V.int) = some l
  | [] => rfl
  | i :: l => by
    show ((intsOf (l.map V.int)).map _) = _
    rw [ints_of l]; rfl
noncomputable abbrev tkB : List IS := bdy (f_l_taken.body.getD 5 .fail)
theorem tk_loop {XF : XS} {v0 v1 v2 v4 v5 v6 v7 : V} {hours : Int} {s : Nat} {vs0 : List V} {t10 t11 t12 : Option V} {H : Hp} {Q : QS} (hs : listAt H s = some vs0) : ∀ (us : List Int) (d : Int) (t9 : Option V), (∀ t9', Q .next [some v0, some v1, some v2, some (.int hours), some v4, some v5, some v6, some v7, some (.int (us.foldl (step hours) d)), t9', t10, t11, t12] H) →
    forGo (whBX Θr tkB XF) (fun H' => listAt H' s = some vs0) 9 ((us.map onc).map rv) [some v0, some v1, some v2, some (.int hours), some v4, some v5, some v6, some v7, some (.int d), t9, t10, t11, t12] H Q := by
  intro us
  induction us with
  | nil => intro d t9 q; exact q _
  | cons u us ih =>
    intro d t9 q
    rw [List.map_cons, List.map_cons, foX_cons, show rv (onc u) = .tup [.str "once", .int u, .int 1] from rfl]
    rw [List.foldl_cons] at q
    refine zs_cons ?_
    simp_arith only [X_lit]
    refine ⟨fun h1 => ⟨fun h2 => ?_, fun h2 => ?_⟩, fun h1 => ?_⟩
    · rw [show step hours d u = u + 1 from if_pos ⟨h1, h2⟩] at q; exact ⟨hs, ih _ _ q⟩
    · rw [show step hours d u = d from if_neg fun h => h2 h.2] at q; exact ⟨hs, ih _ _ q⟩
    · rw [show step hours d u = d from if_neg fun h => h1 h.1] at q; exact ⟨fun h => absurd h h1, fun _ => ⟨hs, ih _ _ q⟩⟩
theorem eq_pair {x y : Int} {H : Hp} {Q : V → Hp → Prop} : pCmp .Eq (.tup [.int x, .int y]) (.tup [.int x, .int y]) H Q = Q (.bool true) H := by
  show Q (.bool (decide (x = x) && (decide (y = y) && true))) H = _
  rw [decide_eq_true rfl, decide_eq_true rfl]; rfl
structure Tk (H : Hp) (k : Bk) (s : Nat) (as : List Ad) (a : Ad) (ps qs : List Prs) (p : Prs) (st : Prs → Int) (us : List Int) (hours lo hi : Int) : Prop where
  S : St H k s (as ++ [a]) ps (qs ++ [p]) []
  g : k.g = 0
  c : k.c ≤ 100
  hh : sizeOk1 hours
  h1 : 0 ≤ lo
  h2 : hi + 2000 < 1000000000000
  h3 : lo ≤ hi
  h4 : hi ≤ lo + 10000
  w : Wide st qs p us
  u : Us (lo + 2000) us
inductive IC_taken (H : Hp) (Q : V → Hp → Prop) : List V → Prop where
  | mk (k : Bk) (s : Nat) (as : List Ad) (a : Ad) (ps : List Prs) (qs : List Prs) (p : Prs) (st : Prs → Int) (us : List Int) (hours : Int) (lo : Int) (hi : Int) : (Tk H k s as a ps qs p st us hours lo hi) → (∀ H', Fr k.foot H H' → Q (.bool true) H') → IC_taken H Q ([.ref k.b, .ref s, intO (lookF 0 [] (qs ++ [p]) hours lo (hi - hours)).1, .int hours, .tup [.int lo, .int hi]])
noncomputable def C_taken : Ctr := fun vs H Q _ => IC_taken H Q vs
theorem w_taken : ∀ vs H Q X, C_taken vs H Q X → wpFn Θr f_l_taken vs H Q X := by
  rintro vs H Q X ⟨k, s, as, a, ps, qs, p, st, us, hours, lo, hi, T, q⟩
  refine fn_of rfl ?_
  have S := T.S
  have e1 := T.hh.1
  have e2 := T.hh.2
  have e3 := T.h1
  have e4 := T.h2
  have e5 := T.h3
  have e6 := T.h4
  obtain ⟨o, ho⟩ : ∃ o, o = (lookF 0 [] (qs ++ [p]) hours lo (hi - hours)).1 := ⟨_, rfl⟩
  rw [← ho]
  change wpSs Θr f_l_taken.body [some (.ref k.b), some (.ref s), some (intO o), some (.int hours), some (.tup [.int lo, .int hi]), none, none, none, none, none, none, none, none] H _ _
  refine zs_cons ?_
  generalize hK : sqX Θr (_ :: _) = K
  have lm := S.lm
  simp_arith only [lm]
  refine nm_comp (by show 10 < 13; lia) lm (as ++ [a]) (qs ++ [p]) [] S.at' ⟨by rw [List.nil_append, List.length_map]; have := S.len; lia, ?_⟩
  rw [List.nil_append]
  subst hK
  have p1 : H <+: H ++ [.list ((qs ++ [p]).map fun p => .str p.nm)] := pre_new
  have ln := listAt_new (H := H) (l := (qs ++ [p]).map fun p => V.str p.nm)
  generalize H ++ [O.list ((qs ++ [p]).map fun p => .str p.nm)] = H1 at *
  have S1 := S.pre p1
  have hnf : H.length ∉ k.foot := fun h => by have := S.book.lt _ h; lia
  have f1 : Fr k.foot H H1 := Fr.pre p1
  refine zs_cons ?_
  generalize hK : sqX Θr (_ :: _) = K
  simp_arith only [S1.book.ns, ↓Tr_me]
  refine ⟨k, H.length, ps, [], qs ++ [p], hours, lo, hi, ⟨⟨S1.book, ln, S1.sub⟩, S.ne, S.nms, T.hh, ⟨e3, by lia⟩, ⟨by lia, by lia⟩, e5, e6⟩, hnf, Nat.zero_le _, by have := T.c; lia, fun hno H2 p2 => ?_, fun k2 y H2 hy f2 hf2 hb2 hg2 hc2 B2 => ?_⟩
  · rw [hno] at ho
    subst ho
    subst hK
    refine zs_cons ?_
    generalize hK : sqX Θr (_ :: _) = K
    simp_arith only [isNoneV, intO]
    subst hK
    exact q H2 (f1.trans (Fr.pre (F := []) p2) fun _ h => (nomatch h))
  rw [hy] at ho
  subst ho
  subst hK
  have f02 : Fr k.foot H H2 := f1.trans f2 fun i hi => .inl hi
  have lm2 := f02.list (S.dis s m_s) lm
  have at2 := S.at'.fr f02 fun i hi => S.dis i (.tail _ hi)
  refine zs_cons ?_
  generalize hK : sqX Θr (_ :: _) = K
  simp_arith only [isNoneV, intO]
  subst hK
  refine zs_cons ?_
  generalize hK : sqX Θr (_ :: _) = K
  simp_arith only [X_lit]
  subst hK
  refine zs_cons ?_
  generalize hK : sqX Θr (_ :: _) = K
  have p3 : H2 <+: H2 ++ [.list [.int (lo + 2000)]] := pre_new
  have ln3 := listAt_new (H := H2) (l := [.int (lo + 2000)])
  have lm3 := listAt_pre p3 lm2
  have at3 := at2.pre p3
  simp_arith only [lm3]
  generalize H2 ++ [O.list [.int (lo + 2000)]] = H3 at *
  refine st_comp (st := st) (by show 10 < 13; lia) lm3 (as ++ [a]) (qs ++ [p]) [] at3 T.w.fr ⟨by rw [List.nil_append, List.length_map, List.length_map]; have := S.len; lia, ?_⟩
  rw [List.nil_append]
  have p4 : H3 <+: H3 ++ [.list (((qs ++ [p]).map st).map V.int)] := pre_new
  have ln4 := listAt_new (H := H3) (l := ((qs ++ [p]).map st).map V.int)
  have ln34 := listAt_pre p4 ln3
  generalize H3 ++ [O.list (((qs ++ [p]).map st).map V.int)] = H4 at *
  simp_arith only [ln34, ln4]
  have hlen := S.len
  refine ⟨by rw [List.length_map, List.length_map]; lia, ?_⟩
  have p5 : H4 <+: H4 ++ [.list (((lo + 2000) :: (qs ++ [p]).map st).map V.int)] := pre_new
  have ln5 := listAt_new (H := H4) (l := ((lo + 2000) :: (qs ++ [p]).map st).map V.int)
  rw [show [V.int (lo + 2000)] ++ ((qs ++ [p]).map st).map V.int = ((lo + 2000) :: (qs ++ [p]).map st).map V.int from rfl]
  generalize H4 ++ [O.list (((lo + 2000) :: (qs ++ [p]).map st).map V.int)] = H5 at *
  simp_arith only [ln5, ints_of]
  refine ⟨List.cons_ne_nil _ _, fun d0 hd1 hd2 => ?_⟩
  have p25 := (p3.trans p4).trans p5
  have B5 := B2.pre p25
  have f05 : Fr k.foot H H5 := f02.trans (Fr.pre (F := []) p25) fun _ h => (nomatch h)
  have R5 := S.rcd.fr f05 S.dis
  subst hK
  refine zs_cons ?_
  generalize hK : sqX Θr (_ :: _) = K
  have lu5 := R5.lu
  rw [T.w.last] at lu5
  simp_arith only [R5.lm, idx_last, R5.li, lu5]
  subst hK
  refine tk_loop lu5 us d0 _ fun t9' => ?_
  have hlo := hd2 _ List.mem_cons_self
  refine e0_3 (fold_us (hours := hours) hlo T.u) fun F1 F2 F3 => ?_
  generalize us.foldl (step hours) d0 = due at *
  have hst : ∀ q ∈ qs ++ [p], st q ≤ d0 := fun q hq => hd2 _ (.tail _ (List.mem_map_of_mem hq))
  have hm0 : ∀ q ∈ qs ++ [p], ∀ x, meets 1 [⟨1, y, hours, (qs ++ [p]).map Prs.nm⟩] q.nm x = false := fun q _ x => rfl
  have VI := fun a (h : 0 ≤ a) => valid_iff (a := a) T.w hm0 h e1
  have LD := look_due (b := 1) (hs := [⟨1, y, hours, (qs ++ [p]).map Prs.nm⟩]) (qs := qs ++ [p]) (hours := hours) (lo := lo + 2000) (last := hi + 2000 - hours) (due := due) ((VI due (by lia)).mpr ⟨fun q hq => by have := hst q hq; lia, F2⟩) (by lia) fun a' h1 h2 => by
    obtain ⟨k1, k2⟩ := (VI a' (by lia)).mp h2
    refine F3 a' ?_ k2
    rcases List.mem_cons.mp hd1 with e | e
    · lia
    · refine e1_2 (List.mem_map.mp e) fun q hq e => ?_
      have := k1 q hq; lia
  have go : ∀ (o : Option Int), o = (if due ≤ hi + 2000 - hours then some due else none) → wpSs Θr (f_l_taken.body.drop 7) [some (.ref k.b), some (.ref s), some (.int y), some (.int hours), some (.tup [.int lo, .int hi]), some (.ref H.length), some (.tup [.int (k.g + 1), .int y]), some (.int (lo + 2000)), some (intO o), t9', none, none, none] H5 (fun fl x H1 => Q (retV fl) H1) (fun x x_1 H1 => X x H1) := fun o ho => by
    have B6 : BkAt H5 k2 ps [⟨1, y, hours, (qs ++ [p]).map Prs.nm⟩] := by
      have := B5
      rw [T.g] at this; exact this
    rw [T.g, ← hb2, show (0 : Int) + 1 = 1 from rfl]
    refine zs_cons ?_
    simp_arith only [↓eq_pair, B6.ns, ↓Tr_mo]
    refine ⟨k2, ps, [], ⟨1, y, hours, (qs ++ [p]).map Prs.nm⟩, qs ++ [p], lo + 2000, hi + 2000, ⟨B6, rfl, S.sub, T.hh, ⟨by lia, by lia⟩, ⟨by lia, by lia⟩, by lia, by lia, Nat.zero_le _⟩, fun hno H6 p6 => ?_, fun z H6 hz f6 B7 => ?_⟩
    · have e : o = none := ho.trans (LD.symm.trans hno)
      subst e
      exact o_go (o := none) rfl (q H6 (f05.trans (Fr.pre (F := []) p6) fun _ h => (nomatch h)))
    · have e : o = some z := ho.trans (LD.symm.trans hz)
      subst e
      exact o_go (o := some z) rfl (q H6 (f05.trans f6 fun i hi => .inl (by rw [← hf2]; exact hi)))
  refine zs_cons ?_
  generalize hK : sqX Θr (_ :: _) = K
  simp_arith only [X_lit]
  subst hK
  refine ⟨fun h => go none (by rw [if_neg (by lia)]), fun h => go (some due) (by rw [if_pos (by lia)])⟩
noncomputable def Θs : Orc := ext "_law_taken" C_taken Θr
end Mine
namespace Mine
open PySem
theorem Ts_as : Θs "_law_asked" = C_asked := rfl
theorem Ts_aa : Θs "_law_asked_again" = C_asked_again := rfl
theorem Ts_bz : Θs "_law_busier" = C_busier := rfl
theorem Ts_tk : Θs "_law_taken" = C_taken := rfl
theorem Ts_ca : Θs "_law_cell_at" = C_cell_at := rfl
theorem Ts_it : Θs "_law_in_time" = C_in_time := rfl
noncomputable def stF : List Rl → Int
  | [.pl (.every s _ _)] => s
  | _ => 0
noncomputable abbrev stP : Prs → Int := fun q => stF q.fr
noncomputable abbrev lawL (ns : List Int) (b : Bool) (kb s w : Nat) (hours lo hi : Int) (t1 t3 t4 t8 t9 t11 t12 t14 t15 t16 t17 t18 t19 t20 : Option V) : Lc := [some (.scr ns), t1, some (.bool b), t3, t4, some (.ref kb), some (.int hours), some (.int lo), t8, t9, some (.int hi), t11, t12, some (.ref s), t14, t15, t16, t17, t18, t19, t20]
section
variable {ns : List Int} {b : Bool} {H : Hp} {k : Bk} {s w r x : Nat} {as : List Ad} {a : Ad} {ps qs : List Prs} {p : Prs} {hs : List Mtg} {hours lo hi : Int} {o : Option Int} {oT : Option Int × List Row} {us : List Int} {t1 t3 t4 t8 t9 t11 t12 t14 t15 t16 t17 t18 t19 t20 : Option V} {Q : V → Hp → Prop} {X : XL}
theorem fin6 (T : Told H r x oT) (lw : listAt H w = some [.int hours, .int lo, .int hi, .ref r]) (q : ∀ H', Q (.bool true) H') :
    wpSs Θs (f_law.body.drop 19) (lawL ns b k.b s w hours lo hi t1 t3 t4 t8 t9 t11 t12 (some (.ref w)) t15 t16 (some (.bool true)) t18 t19 t20) H (fun fl _ H1 => Q (retV fl) H1) (fun x _ H1 => X x H1) := by
  have lr := T.lr
  have ht := toPyT_told T.lx
  have ft := T.fit
  refine zs_cons ?_
  simp_arith only [lw, lr]
  rw [co2_cons]
  simp_arith only [ht]
  refine ⟨ft, lr, ?_⟩
  rw [beq_self_eq_true]
  show [V.bool true].length ≤ 1000000 ∧ oK (listAt (H ++ [.list [.bool true]]) H.length) _
  rw [listAt_new]
  exact ⟨by decide, q _⟩
theorem Told.fr {F : List Nat} {H' : Hp} (T : Told H r x oT) (f : Fr F H H') (h1 : r ∉ F) (h2 : x ∉ F) : Told H' r x oT := ⟨f.list h1 T.lr, f.list h2 T.lx, T.fit⟩
structure Kp (H : Hp) (k : Bk) (s w r x : Nat) (as : List Ad) (oT : Option Int × List Row) (hours lo hi : Int) : Prop where
  t : Told H r x oT
  a : Asks H w r hours lo hi
  df : ∀ i ∈ k.foot, i ≠ w ∧ i ≠ r ∧ i ≠ x
  da : ∀ i ∈ s :: ads as, i ≠ w ∧ i ≠ r ∧ i ≠ x
theorem Kp.fr {F : List Nat} {H' : Hp} {k' : Bk} (K : Kp H k s w r x as oT hours lo hi) (f : Fr F H H') (hf : ∀ i ∈ F, i ∈ k.foot ∨ i ∈ s :: ads as) (hk : ∀ i ∈ k'.foot, i ∈ k.foot ∨ H.length ≤ i) : Kp H' k' s w r x as oT hours lo hi := by
  have d : ∀ i ∈ F, i ≠ w ∧ i ≠ r ∧ i ≠ x := fun i hi => by
    rcases hf i hi with h | h
    · exact K.df i h
    · exact K.da i h
  have l1 := listAt_lt K.t.lr
  have l2 := listAt_lt K.t.lx
  have l3 := listAt_lt K.a.lw
  refine ⟨K.t.fr f (fun h => (d r h).2.1 rfl) (fun h => (d x h).2.2 rfl), ⟨f.list (fun h => (d w h).1 rfl) K.a.lw, K.a.hh, K.a.h1, K.a.h2, K.a.h3, K.a.h4⟩, fun i hi => ?_, K.da⟩
  rcases hk i hi with h | h
  · exact K.df i h
  · exact ⟨by lia, by lia, by lia⟩
theorem fin5 (hT : b = true → hs = [] ∧ Tk H k s as a ps qs p stP us hours lo hi) (ho : o = (lookF 0 hs (qs ++ [p]) hours lo (hi - hours)).1) (K : Kp H k s w r x (as ++ [a]) oT hours lo hi) (q : ∀ H', Q (.bool true) H') :
    wpSs Θs (f_law.body.drop 18) (lawL ns b k.b s w hours lo hi t1 t3 t4 t8 t9 t11 t12 (some (.ref w)) (some (intO o)) t16 t17 t18 t19 t20) H (fun fl _ H1 => Q (retV fl) H1) (fun x _ H1 => X x H1) := by
  refine zs_cons ?_
  generalize hK : sqX Θs (_ :: _) = K'
  cases b with
  | false =>
    simp_arith only [X_lit]
    subst hK
    exact fin6 K.t K.a.lw q
  | true =>
    obtain ⟨rfl, T⟩ := hT rfl
    simp_arith only [↓Ts_tk]
    subst ho
    refine ⟨k, s, as, a, ps, qs, p, stP, us, hours, lo, hi, T, fun H' f => ?_⟩
    subst hK
    have K2 := K.fr (k' := k) f (fun i hi => .inl hi) fun i hi => .inl hi
    exact fin6 K2.t K2.a.lw q
theorem fin4 (hT : b = true → hs = [] ∧ Tk H k s as a ps qs p stP us hours lo hi) (ho : o = (lookF 0 hs (qs ++ [p]) hours lo (hi - hours)).1) (K : Kp H k s w r x (as ++ [a]) oT hours lo hi) (q : ∀ H', Q (.bool true) H') :
    wpSs Θs (f_law.body.drop 17) (lawL ns b k.b s w hours lo hi t1 t3 t4 t8 t9 t11 t12 (some (.ref w)) (some (intO o)) t16 t17 t18 t19 t20) H (fun fl _ H1 => Q (retV fl) H1) (fun x _ H1 => X x H1) := by
  refine zs_cons ?_
  generalize hK : sqX Θs (_ :: _) = K'
  simp_arith only [X_lit]
  refine m1_go (by rw [ho]; exact look_nn K.a.h1.1) ?_
  subst hK
  exact fin5 hT ho K q
structure Mn (H : Hp) (k : Bk) (s : Nat) (as : List Ad) (a : Ad) (ps qs : List Prs) (p : Prs) (hs : List Mtg) (b : Bool) (lo hi : Int) : Prop where
  S : St H k s (as ++ [a]) ps (qs ++ [p]) hs
  hz : hs.length ≤ 1
  hc : k.c ≤ 60
  bu : p.bu.length ≤ 2
  w : b = true → hs = [] ∧ k.g = 0 ∧ hi + 2000 < 1000000000000 ∧ Wide stP qs p []
theorem addB_nil {xs : List (Option Int)} : addB [] xs = (xs.filterMap id).map onc := by
  induction xs with
  | nil => rfl
  | cons o xs ih =>
    cases o with
    | none => exact ih
    | some x => show onc x :: addB [] xs = _; rw [ih]; rfl
theorem fin3 (hn : ns.length ≤ 1000) (M : Mn H k s as a ps qs p hs b lo hi) (ho : o = (lookF 0 hs (qs ++ [p]) hours lo (hi - hours)).1) (K : Kp H k s w r x (as ++ [a]) oT hours lo hi) (q : ∀ H', Q (.bool true) H') :
    wpSs Θs (f_law.body.drop 16) (lawL ns b k.b s w hours lo hi t1 t3 t4 t8 t9 t11 t12 (some (.ref w)) (some (intO o)) t16 t17 t18 t19 t20) H (fun fl _ H1 => Q (retV fl) H1) (fun x _ H1 => X x H1) := by
  have a1 := K.a.h1.1
  have a2 := K.a.h1.2
  have a3 := K.a.h2.2
  have S := M.S
  refine zs_cons ?_
  generalize hK : sqX Θs (_ :: _) = K'
  simp_arith only [↓Ts_ca, ↓cc_cell, ↓Ts_it, ↓cc_int]
  refine ⟨hn, fun h8 => ⟨hn, ?_⟩, fun h8 => ?_⟩
  · have hy : hourOk (min (lo + cell ns 8 / 2 % 12) 999999999999) ∧ min (lo + cell ns 8 / 2 % 12) 999999999999 < lo + 2000 := ⟨⟨by lia, by lia⟩, by lia⟩
    generalize min (lo + cell ns 8 / 2 % 12) 999999999999 = y at *
    have lm := S.rcd.lm
    have p1 : H <+: H ++ [.list [intO o, .int y]] := pre_new
    have ln : listAt (H ++ [.list [intO o, .int y]]) H.length = some ([o, some y].map intO) := listAt_new
    simp_arith only [lm, idx_last, ↓Ts_bz]
    generalize H ++ [O.list [intO o, .int y]] = H1 at *
    have S1 := S.pre p1
    have lu := listAt_lt S.rcd.lu
    have hnf : H.length ∉ a.u :: k.ul := fun h => by
      rcases List.mem_cons.mp h with h | h
      · lia
      · have := S.book.lt _ (ft_ul h); lia
    have bl := M.bu
    refine ⟨k, s, H.length, as, a, ps, qs, p, hs, [o, some y], S1, ln, hnf, by show p.bu.length + 2 ≤ 9; lia, fun x hx => ?_, fun ps' H2 f2 S2 => ?_⟩
    · rcases List.mem_cons.mp hx with h | h
      · have := (lookF_ok (hs := hs) (qs := qs ++ [p]) (hours := hours) (lo := lo) (last := hi - hours)).yes x (by rw [← ho]; exact h.symm)
        have := K.a.hh.1
        exact ⟨by lia, by lia⟩
      · rw [Option.some.inj (List.mem_singleton.mp h)]; exact hy.1
    · have K1 := K.fr (k' := k) (Fr.pre (F := []) p1) (fun _ h => (nomatch h)) fun i hi => .inl hi
      have K2 := K1.fr (k' := k) f2 (fun i hi => by
        rcases List.mem_cons.mp hi with h | h
        · rw [h]; exact .inr m_u
        · exact .inl (ft_ul h)) fun i hi => .inl hi
      simp_arith only [↓Ts_as]
      refine ⟨k, s, w, r, _, ps', _, hs, hours, lo, hi, S2, K2.a, .inr ⟨⟨_, K2.t.lr⟩, fun H3 f3 => ?_⟩⟩
      subst hK
      refine fin4 (as := as) (a := a) (ps := ps') (us := [o, some y].filterMap id) (fun hb => ?_) rfl (K2.fr f3 (fun _ h => (nomatch h)) fun i hi => .inl hi) q
      refine e0_4 (M.w hb) fun e1 e2 e3 W => ?_
      subst e1
      have S3 := S2.fr f3 (fun _ _ h => (nomatch h)) fun _ _ h => (nomatch h)
      refine ⟨rfl, S3, e2, by have := M.hc; lia, K.a.hh, a1, e3, K.a.h3, K.a.h4, ⟨fun q' hq' => ?_, W.bu, ?_⟩, ⟨?_⟩⟩
      · rcases List.mem_append.mp hq' with h | h
        · exact W.fr q' (List.mem_append_left _ h)
        · rw [List.mem_singleton.mp h]; exact W.fr p (List.mem_append_right _ (.head _))
      · show p.bu ++ addB [] [o, some y] = _
        rw [W.last, addB_nil]; rfl
      · cases o with
        | none => exact ⟨[], [y], rfl, Nat.zero_le _, fun g hg => by rw [List.mem_singleton.mp hg]; exact hy.2⟩
        | some f => exact ⟨[f], [y], rfl, Nat.le_refl _, fun g hg => by rw [List.mem_singleton.mp hg]; exact hy.2⟩
  · subst hK
    refine fin4 (ps := ps) (us := []) (fun hb => ?_) ho K q
    refine e0_4 (M.w hb) fun e1 e2 e3 e4 => ?_
    exact ⟨e1, by rw [e1] at S; exact S, e2, by have := M.hc; lia, K.a.hh, a1, e3, K.a.h3, K.a.h4, e4, ⟨[], [], rfl, Nat.zero_le _, fun _ h => (nomatch h)⟩⟩
theorem fin1 (hn : ns.length ≤ 1000) (M : Mn H k s as a ps qs p hs b lo hi) (hc0 : k.c ≤ 50) (hh : sizeOk1 hours) (h1 : hourOk lo) (h2 : hourOk hi) (h3 : lo ≤ hi) (h4 : hi ≤ lo + 10000) (q : ∀ H', Q (.bool true) H') :
    wpSs Θs (f_law.body.drop 13) (lawL ns b k.b s w hours lo hi t1 t3 t4 t8 t9 t11 t12 t14 t15 t16 t17 t18 t19 t20) H (fun fl _ H1 => Q (retV fl) H1) (fun x _ H1 => X x H1) := by
  have S := M.S
  refine zs_cons ?_
  generalize hK : sqX Θs (_ :: _) = K'
  simp_arith only [X_lit]
  subst hK
  have p1 : H <+: H ++ [.list []] := pre_new
  have lr1 := listAt_new (H := H) (l := [])
  have e1 : (H ++ [O.list []]).length = H.length + 1 := List.length_append
  generalize H ++ [O.list []] = H1 at *
  have p2 : H1 <+: H1 ++ [.list [.int hours, .int lo, .int hi, .ref H.length]] := pre_new
  have lw2 := listAt_new (H := H1) (l := [.int hours, .int lo, .int hi, .ref H.length])
  have e2 : (H1 ++ [O.list [.int hours, .int lo, .int hi, .ref H.length]]).length = H.length + 2 := by rw [List.length_append, e1]; rfl
  have lr2 := listAt_pre p2 lr1
  rw [e1] at lw2 ⊢
  generalize H1 ++ [O.list [.int hours, .int lo, .int hi, .ref H.length]] = H2 at *
  have S2 := S.pre (p1.trans p2)
  have flt := S.book.lt
  have alt := S.lt
  refine zs_cons ?_
  generalize hK : sqX Θs (_ :: _) = K'
  simp_arith only [↓Ts_as]
  refine ⟨k, s, H.length + 1, H.length, _, ps, _, hs, hours, lo, hi, S2, ⟨lw2, hh, h1, h2, h3, h4⟩, .inl ⟨lr2, fun x H3 f3 hx T3 => ?_⟩⟩
  subst hK
  have S3 := S2.fr f3 (fun i hi => nin1 (by have := flt i hi; lia)) fun i hi => nin1 (by have := alt i hi; lia)
  have lw3 := f3.list (nin1 (by lia)) lw2
  have K3 : Kp H3 k s (H.length + 1) H.length x (as ++ [a]) _ hours lo hi := ⟨T3, ⟨lw3, hh, h1, h2, h3, h4⟩, fun i hi => by have := flt i hi; exact ⟨by lia, by lia, by lia⟩, fun i hi => by have := alt i hi; exact ⟨by lia, by lia, by lia⟩⟩
  refine zs_cons ?_
  generalize hK : sqX Θs (_ :: _) = K'
  simp_arith only [X_lit]
  refine m1_go (look_nn h1.1) ?_
  cases b with
  | true =>
    simp_arith only [X_lit]
    subst hK
    exact fin3 hn (p := p) (a := a) ⟨S3, M.hz, M.hc, M.bu, M.w⟩ rfl K3 q
  | false =>
    simp_arith only [↓Ts_aa]
    have G : Ag H3 H3 k s (H.length + 1) H.length as a ps qs p hs hs k a.e hours lo hi _ := ⟨S3, K3.a, Fr.refl, S3.rcd, S3.book, fun i hi => .inl hi, rfl, T3.lr, fun i hi => by
      rcases List.mem_cons.mp hi with h | h
      · have := K3.da i (by rw [h]; exact m_i); exact ⟨this.1, this.2.1⟩
      · have := K3.df i h; exact ⟨this.1, this.2.1⟩⟩
    refine ⟨ns, k, s, _, _, as, a, ps, qs, p, hs, hours, lo, hi, _, hn, G, M.hz, by have := M.hc; lia, fun H4 k4 G4 hc4 => ?_⟩
    simp_arith only [X_lit]
    subst hK
    have K4 := K3.fr G4.fr (fun i hi => by
      rcases List.mem_cons.mp hi with h | h
      · rw [h]; exact .inr m_i
      · exact .inl h) G4.foot
    rw [← G4.kb]
    exact fin3 hn ⟨G4.st1, M.hz, by lia, M.bu, fun h => (by cases h)⟩ rfl K4 q
end
end Mine
namespace Mine
open PySem
theorem cut_from {l : List V} {k : Int} (h0 : 0 ≤ k) (h1 : k ≤ (l.length : Int)) : cutL (.int k) .none l = some (l.drop k.toNat) := by
  have e1 : cutLo (.int k) = some k.toNat := cutLo_nn h0
  have e2 : cutHi l.length .none = some l.length := rfl
  unfold cutL
  rw [e1, Option.bind_some, e2, Option.bind_some, if_pos ⟨by lia, Nat.le_refl _⟩, List.take_of_length_le (by rw [List.length_drop]; exact Nat.le_refl _)]
theorem PsAt.drop {H : Hp} {me : Prs → List (Int × Int)} : ∀ {as : List Ad} {ps : List Prs} (c : Nat), PsAt H me as ps → PsAt H me (as.drop c) (ps.drop c)
  | _, _, 0, h => h
  | [], ps, c + 1, h => by rw [show ps = [] from h]; exact rfl
  | _ :: as, _, c + 1, ⟨p, qs, e, _, r⟩ => by rw [e]; exact r.drop c
theorem refs_drop (as : List Ad) (c : Nat) : (refs as).drop c = refs (as.drop c) := List.map_drop.symm
theorem refs_rev (as : List Ad) : (refs as).reverse = refs as.reverse := by unfold refs; rw [List.map_reverse]
theorem ads_rev : ∀ as : List Ad, (ads as.reverse).Perm (ads as)
  | [] => .nil
  | a :: as => by
    rw [List.reverse_cons]
    show (List.flatMap Ad.all (as.reverse ++ [a])).Perm (a.all ++ ads as)
    rw [List.flatMap_append, show List.flatMap Ad.all [a] = a.all from List.append_nil _]
    exact List.perm_append_comm.trans (List.Perm.append_left _ (ads_rev as))
section
variable {H : Hp} {k : Bk} {n : Nat} {as : List Ad} {ps qs : List Prs} {hs : List Mtg}
theorem ads_drop {c i : Nat} (h : i ∈ ads (as.drop c)) : i ∈ ads as := by
  refine e1_2 (List.mem_flatMap.mp h) fun a ha hi => ?_
  exact List.mem_flatMap.mpr ⟨a, List.mem_of_mem_drop ha, hi⟩
theorem St.drop (S : St H k n as ps qs hs) (c : Nat) (hc : c < qs.length) : St (H ++ [.list (refs (as.drop c))]) k H.length (as.drop c) ps (qs.drop c) hs := by
  have p1 : H <+: H ++ [.list (refs (as.drop c))] := pre_new
  have lt := S.lt
  have nd := (List.nodup_cons.mp S.nd).2
  rw [← List.take_append_drop c as] at nd
  have e : ads (as.take c ++ as.drop c) = ads (as.take c) ++ ads (as.drop c) := List.flatMap_append
  rw [e] at nd
  refine ⟨S.book.pre p1, listAt_new, (S.at'.drop c).pre p1, List.nodup_cons.mpr ⟨fun h => ?_, (List.nodup_append.mp nd).2.1⟩, fun i hi => ?_, fun q hq => S.sub q (List.mem_of_mem_drop hq), fun h => ?_, ?_, ?_, fun q hq => S.sm q (List.mem_of_mem_drop hq), S.hl, S.hm⟩
  · have := lt _ (.tail _ (ads_drop h)); lia
  · rcases List.mem_cons.mp hi with h | h
    · intro h'
      have := S.book.lt _ h'; lia
    · exact S.dis i (.tail _ (ads_drop h))
  · have := congrArg List.length h
    rw [List.length_drop, List.length_nil] at this; lia
  · rw [List.map_drop]
    have nm := S.nms
    rw [← List.take_append_drop c (qs.map Prs.nm)] at nm
    exact (List.nodup_append.mp nm).2.1
  · have := S.len
    rw [List.length_drop]; lia
theorem St.rev (S : St H k n as ps qs hs) : St (H ++ [.list (refs as.reverse)]) k H.length as.reverse ps qs.reverse hs := by
  have p1 : H <+: H ++ [.list (refs as.reverse)] := pre_new
  have lt := S.lt
  have pm := ads_rev as
  refine ⟨S.book.pre p1, listAt_new, S.at'.reverse.pre p1, List.nodup_cons.mpr ⟨fun h => ?_, pm.symm.nodup (List.nodup_cons.mp S.nd).2⟩, fun i hi => ?_, fun q hq => S.sub q (List.mem_reverse.mp hq), fun h => S.ne (List.reverse_eq_nil_iff.mp h), ?_, ?_, fun q hq => S.sm q (List.mem_reverse.mp hq), S.hl, S.hm⟩
  · have := lt _ (.tail _ (pm.subset h)); lia
  · rcases List.mem_cons.mp hi with h | h
    · intro h'
      have := S.book.lt _ h'; lia
    · exact S.dis i (.tail _ (pm.subset h))
  · rw [List.map_reverse]; exact (List.reverse_perm _).symm.nodup S.nms
  · rw [List.length_reverse]; exact S.len
end
structure Pn (H : Hp) (k : Bk) (n : Nat) (as : List Ad) (ps qs : List Prs) (hs : List Mtg) (b : Bool) (hi : Int) : Prop where
  S : St H k n as ps qs hs
  hz : hs.length ≤ 1
  hc : k.c ≤ 50
  bu : ∀ q ∈ qs, q.bu.length ≤ 2
  w : b = true → hs = [] ∧ k.g = 0 ∧ hi + 2000 < 1000000000000 ∧ ∀ q ∈ qs, q.fr = [evr (stF q.fr)] ∧ q.bu = []
section
variable {ns : List Int} {b : Bool} {H : Hp} {k : Bk} {n : Nat} {as : List Ad} {ps qs : List Prs} {hs : List Mtg} {hours lo hi : Int} {t1 t3 t8 t9 t11 t12 t13 t14 t15 t16 t17 t18 t19 t20 : Option V} {Q : V → Hp → Prop} {X : XL}
theorem Pn.mn (P : Pn H k n as ps qs hs b hi) : ∃ as0 a qs0 p, as = as0 ++ [a] ∧ qs = qs0 ++ [p] ∧ Mn H k n as0 a ps qs0 p hs b lo hi := by
  obtain ⟨as0, a, qs0, p, rfl, rfl⟩ := P.S.at'.last P.S.ne
  refine ⟨as0, a, qs0, p, rfl, rfl, P.S, P.hz, by have := P.hc; lia, P.bu p (List.mem_append_right _ (.head _)), fun h => ?_⟩
  refine e0_4 (P.w h) fun e1 e2 e3 e4 => ?_
  exact ⟨e1, e2, e3, fun q hq => (e4 q hq).1, fun q hq => (e4 q (List.mem_append_left _ hq)).2, (e4 p (List.mem_append_right _ (.head _))).2⟩
theorem fin12 (hn : ns.length ≤ 1000) {s : Nat} (P : Pn H k s as ps qs hs b hi) (hh : sizeOk1 hours) (h1 : hourOk lo) (h2 : hourOk hi) (h3 : lo ≤ hi) (h4 : hi ≤ lo + 10000) (q : ∀ H', Q (.bool true) H') :
    wpSs Θs (f_law.body.drop 13) (lawL ns b k.b s 0 hours lo hi t1 t3 (some (.ref n)) t8 t9 t11 t12 t14 t15 t16 t17 t18 t19 t20) H (fun fl _ H1 => Q (retV fl) H1) (fun x _ H1 => X x H1) := by
  obtain ⟨as0, a, qs0, p, rfl, rfl, M⟩ := P.mn (lo := lo)
  exact fin1 hn M P.hc hh h1 h2 h3 h4 q
theorem rev_go {Φ : Orc} {j s : Nat} {L : Lc} {l : List V} {QF : QS} {XF : XS} (hj : L[j]? = some (some (.ref s))) (hl : listAt H s = some l) (h : QF .next (L.set j (some (.ref H.length))) (H ++ [.list l.reverse])) : wpS Φ (.assign j (.rev (.loc j))) L H QF XF := by
  rw [Z_assign, X_rev, X_loc, hj, oKK_some, q_revl, hl, oK_some]
  exact h
theorem fin11 (hn : ns.length ≤ 1000) {s : Nat} (P1 : Pn H k s as ps qs hs b hi) (hh : sizeOk1 hours) (h1 : hourOk lo) (h2 : hourOk hi) (h3 : lo ≤ hi) (h4 : hi ≤ lo + 10000) (q : ∀ H', Q (.bool true) H') :
    wpSs Θs (f_law.body.drop 12) (lawL ns b k.b s 0 hours lo hi t1 t3 (some (.ref n)) t8 t9 t11 t12 t14 t15 t16 t17 t18 t19 t20) H (fun fl _ H1 => Q (retV fl) H1) (fun x _ H1 => X x H1) := by
  have lm1 := P1.S.lm
  refine zs_cons ?_
  generalize hK : sqX Θs (_ :: _) = K'
  generalize hB : [IS.assign 13 (IE.rev (.loc 13))] = B
  simp_arith only [↓Ts_ca, ↓cc_cell]
  subst hK
  refine ⟨hn, fun _ => ?_, fun _ => ?_⟩
  · subst hB
    refine zs_cons (rev_go rfl lm1 ?_)
    rw [refs_rev, sqX_next, Zs_nil, sqX_next]
    refine fin12 hn ⟨P1.S.rev, P1.hz, P1.hc, fun q hq => P1.bu q (List.mem_reverse.mp hq), fun h => ?_⟩ hh h1 h2 h3 h4 q
    refine e0_4 (P1.w h) fun e1 e2 e3 e4 => ?_
    exact ⟨e1, e2, e3, fun q hq => e4 q (List.mem_reverse.mp hq)⟩
  · rw [sqX_next]
    exact fin12 hn P1 hh h1 h2 h3 h4 q
theorem fin0 (hn : ns.length ≤ 1000) (P : Pn H k n as ps qs hs b hi) (hh : sizeOk1 hours) (h1 : hourOk lo) (h2 : hourOk hi) (h3 : lo ≤ hi) (h4 : hi ≤ lo + 10000) (q : ∀ H', Q (.bool true) H') :
    wpSs Θs (f_law.body.drop 11) [some (.scr ns), t1, some (.bool b), t3, some (.ref n), some (.ref k.b), some (.int hours), some (.int lo), t8, t9, some (.int hi), t11, t12, t13, t14, t15, t16, t17, t18, t19, t20] H (fun fl _ H1 => Q (retV fl) H1) (fun x _ H1 => X x H1) := by
  have lm := P.S.lm
  have hl := P.S.at'.len
  have hpos := List.length_pos_iff.mpr P.S.ne
  have el : (refs as).length = as.length := List.length_map _
  refine zs_cons ?_
  generalize hK : sqX Θs (_ :: _) = K'
  simp_arith only [lm, ↓Ts_ca, ↓cc_cell, el]
  have hm0 : 0 ≤ cell ns 2 % (as.length : Int) := Int.emod_nonneg _ (by lia)
  have hm1 : cell ns 2 % (as.length : Int) < as.length := Int.emod_lt_of_pos _ (by lia)
  have hlen := P.S.len
  refine ⟨hn, ⟨by lia, by lia⟩, ?_⟩
  rw [cut_from hm0 (by lia), refs_drop, oK_some]
  subst hK
  obtain ⟨c, hc⟩ : ∃ c, c = (cell ns 2 % (as.length : Int)).toNat := ⟨_, rfl⟩
  rw [← hc, sqX_next]
  exact fin11 hn ⟨P.S.drop c (by lia), P.hz, P.hc, fun q hq => P.bu q (List.mem_of_mem_drop hq), fun h => by
    refine e0_4 (P.w h) fun e1 e2 e3 e4 => ?_
    exact ⟨e1, e2, e3, fun q hq => e4 q (List.mem_of_mem_drop hq)⟩⟩ hh h1 h2 h3 h4 q
end
end Mine
namespace Mine
open PySem
theorem Ts_co : Θs (Str.ofString "Book." ++ Str.ofString "come") = C_come := rfl
theorem uz_all : ∀ k : Fin 6, idxP (Str.ofString "uvwxyz").cps.toList (k.val : Int) = some (117 + k.val) := by decide +kernel
theorem uz_at {i : Int} (h1 : 0 ≤ i) (h2 : i < 6) : idxP (Str.ofString "uvwxyz").cps.toList i = some (117 + i.toNat) := by
  have := uz_all ⟨i.toNat, by lia⟩
  simp only [Int.toNat_of_nonneg h1] at this
  exact this
theorem z_one : Str.ofString "z" = ⟨#[122]⟩ := by decide +kernel
theorem z_app (c : Nat) : Str.ofString "z" ++ (⟨#[c]⟩ : Str) = zN c := by rw [z_one]; rfl
theorem zN_ok {c : Nat} (h1 : 117 ≤ c) (h2 : c ≤ 122) : nameOk (zN c) := ⟨by show 1 ≤ 2; decide, by show 2 ≤ 12; decide, fun d hd => by
  rcases List.mem_cons.mp (show d ∈ [122, c] from hd) with q | q
  · lia
  · have := List.mem_singleton.mp q; lia⟩
theorem zN_inj {c d : Nat} (h : zN c = zN d) : c = d := by
  have := congrArg (fun x : Str => x.cps.toList) h
  exact (List.cons.inj (List.cons.inj this).2).1
noncomputable def zP (j : Nat) (st : Int) : Prs := ⟨zN (117 + j), [evr st], []⟩
structure Wi (H0 H : Hp) (k : Bk) (n : Nat) (as : List Ad) (ps0 qs : List Prs) (j : Nat) : Prop where
  fr : H0.length ≤ H0.length
  book : BkAt H k (ps0 ++ qs) []
  g : k.g = 0
  c : k.c = 5
  pp : Ppl H n as qs (fun _ => [])
  dis : ∀ i ∈ n :: ads as, i ∉ k.foot
  len : qs.length = j
  at' : ∀ q ∈ qs, ∃ i st, q = zP i st ∧ i < j ∧ hourOk st
  nms : (qs.map Prs.nm).Nodup
noncomputable abbrev wiB : List IS := bdy ((bdy (f_law.body.getD 10 .fail)).getD 3 .fail)
theorem wi_loop {XF : XS} {ns : List Int} {n b : Nat} {lo : Int} {ps0 : List Prs} {v1 v2 v3 v6 v10 : V} {t8 t9 t13 t14 t15 t16 t17 t18 t19 t20 : Option V} {H0 : Hp} {Q : QS} (hn : ns.length ≤ 1000) (h0 : 0 ≤ lo) (h1 : lo + 9000 < 1000000000000) (hps : ps0.length ≤ 100) (hz : ∀ p ∈ ps0, ∀ c, 117 ≤ c → p.nm ≠ zN c) (m : Nat) (hm : m ≤ 6)
    (q : ∀ k as qs H' t11 t12, k.b = b → Wi H0 H' k n as ps0 qs m → Q .next [some (.scr ns), some v1, some v2, some v3, some (.ref n), some (.ref b), some v6, some (.int lo), t8, t9, some v10, t11, t12, t13, t14, t15, t16, t17, t18, t19, t20] H') :
    ∀ (d j : Nat) (k : Bk) (as : List Ad) (qs : List Prs) (H : Hp) (t11 t12 : Option V), j + d = m → k.b = b → Wi H0 H k n as ps0 qs j →
    forGo (whBX Θs wiB XF) (fun _ => True) 11 ((rangeJ (j : Int) (m : Int)).map V.int) [some (.scr ns), some v1, some v2, some v3, some (.ref n), some (.ref b), some v6, some (.int lo), t8, t9, some v10, t11, t12, t13, t14, t15, t16, t17, t18, t19, t20] H Q := by
  intro d
  induction d with
  | zero =>
    intro j k as qs H t11 t12 hj hb W
    have e : rangeJ (j : Int) (m : Int) = [] := by unfold rangeJ; rw [show ((m : Int) - (j : Int)).toNat = 0 by lia]; rfl
    rw [e]
    have hj : j = m := by lia
    subst hj
    exact q k as qs H t11 t12 hb W
  | succ d ih =>
    intro j k as qs H t11 t12 hj hb W
    subst hb
    rw [rangeJ_cons (by lia), List.map_cons, foX_cons]
    refine zs_cons ?_
    generalize hK : sqX Θs (_ :: _) = K
    simp_arith only [↓Ts_ca, ↓cc_cell]
    refine ⟨hn, ?_⟩
    subst hK
    have hst : hourOk (lo + cell ns (7 + 2 * (j : Int)) / 192 % 9000) := ⟨by lia, by lia⟩
    generalize lo + cell ns (7 + 2 * (j : Int)) / 192 % 9000 = st at *
    have ln := W.pp.ln
    refine zs_cons ?_
    generalize hK : sqX Θs (_ :: _) = K
    simp_arith only [↓sV_str, ↓q_lenstr, ↓q_sstr, ↓q_ins, ↓q_nins, ↓u_str, ↓q_adds, ln, uz_at (show (0 : Int) ≤ (j : Int) by lia) (show (j : Int) < 6 by lia), z_app]
    rw [Int.toNat_natCast]
    have e4 : H ++ [O.list [V.tup [V.str (Str.ofString "every"), V.int st, V.int 1, V.int 1]]] ++ [O.list []] ++ [O.list []] = H ++ [O.list [rv (evr st)], O.list [], O.list []] := by rw [List.append_assoc, List.append_assoc]; rfl
    have e1 : (H ++ [O.list [V.tup [V.str (Str.ofString "every"), V.int st, V.int 1, V.int 1]]]).length = H.length + 1 := List.length_append
    have e2 : (H ++ [O.list [V.tup [V.str (Str.ofString "every"), V.int st, V.int 1, V.int 1]]] ++ [O.list []]).length = H.length + 2 := by rw [List.length_append, e1]; rfl
    have e3 : (H ++ [O.list [rv (evr st)], O.list [], O.list []]).length = H.length + 3 := List.length_append
    rw [e1, e2, e4, e3, List.append_assoc]
    have p4 : H <+: H ++ ([O.list [rv (evr st)], O.list [], O.list []] ++ [O.list [V.str (zN (117 + j)), V.ref H.length, V.ref (H.length + 1), V.ref (H.length + 2)]]) := List.prefix_append _ _
    have lf : listAt (H ++ ([O.list [rv (evr st)], O.list [], O.list []] ++ [O.list [V.str (zN (117 + j)), V.ref H.length, V.ref (H.length + 1), V.ref (H.length + 2)]])) H.length = some [rv (evr st)] := list_off (k := 0)
    have lu : listAt (H ++ ([O.list [rv (evr st)], O.list [], O.list []] ++ [O.list [V.str (zN (117 + j)), V.ref H.length, V.ref (H.length + 1), V.ref (H.length + 2)]])) (H.length + 1) = some [] := list_off
    have le : listAt (H ++ ([O.list [rv (evr st)], O.list [], O.list []] ++ [O.list [V.str (zN (117 + j)), V.ref H.length, V.ref (H.length + 1), V.ref (H.length + 2)]])) (H.length + 2) = some [] := list_off
    have li : listAt (H ++ ([O.list [rv (evr st)], O.list [], O.list []] ++ [O.list [V.str (zN (117 + j)), V.ref H.length, V.ref (H.length + 1), V.ref (H.length + 2)]])) (H.length + 3) = some [V.str (zN (117 + j)), V.ref H.length, V.ref (H.length + 1), V.ref (H.length + 2)] := list_off
    generalize H ++ ([O.list [rv (evr st)], O.list [], O.list []] ++ [O.list [V.str (zN (117 + j)), V.ref H.length, V.ref (H.length + 1), V.ref (H.length + 2)]]) = H4 at *
    have hql := W.pp.at'.len
    have wl := W.len
    have nlt := W.pp.lt n List.mem_cons_self
    have elr : (refs as).length = as.length := List.length_map _
    have ln4 := listAt_pre p4 ln
    have n1 : (Str.ofString "z").length + (⟨#[117 + j]⟩ : Str).length ≤ 1000000 := by rw [z_one]; show 1 + 1 ≤ 1000000; decide
    refine ⟨⟨_, ln⟩, n1, ?_⟩
    rw [ln4, oK_some]
    refine ⟨by lia, ?_⟩
    have f5 : Fr [n] H4 (H4.set n (.list (refs as ++ [.ref (H.length + 3)]))) := Fr.set
    have ln5 : listAt (H4.set n (.list (refs as ++ [.ref (H.length + 3)]))) n = some (refs as ++ [.ref (H.length + 3)]) := listAt_set ln4
    have e5 : (H4.set n (.list (refs as ++ [.ref (H.length + 3)]))).length = H4.length := List.length_set
    generalize H4.set n (.list (refs as ++ [.ref (H.length + 3)])) = H5 at *
    subst hK
    have f05 : Fr [n] H H5 := (Fr.pre (F := [n]) p4).trans f5 fun i hi => .inl hi
    have p4l := listAt_lt li
    have PAn : PA H5 ⟨H.length + 3, H.length, H.length + 1, H.length + 2⟩ (zP j st) [] := ⟨f5.list (nin1 (show H.length + 3 ≠ n by lia)) li, f5.list (nin1 (show H.length ≠ n by lia)) lf, f5.list (nin1 (show H.length + 1 ≠ n by lia)) lu, f5.list (nin1 (show H.length + 2 ≠ n by lia)) le⟩
    have B5 := W.book.fr f05 fun i hi => nin1 fun q => W.dis n List.mem_cons_self (q ▸ hi)
    have P5 : Ppl H5 n (as ++ [⟨H.length + 3, H.length, H.length + 1, H.length + 2⟩]) (qs ++ [zP j st]) (fun _ => []) := W.pp.snoc f05 ln5 PAn (fun x hx => by
      rcases List.mem_cons.mp hx with h | hx
      · rw [h]; exact Nat.le_add_right _ _
      rcases List.mem_cons.mp hx with h | hx
      · rw [h]; exact Nat.le_refl _
      rcases List.mem_cons.mp hx with h | hx
      · rw [h]; exact Nat.le_add_right _ _
      · rw [List.mem_singleton.mp hx]; exact Nat.le_add_right _ _) (by
        show [H.length + 3, H.length, H.length + 1, H.length + 2].Nodup
        simp)
    have blt := W.book.lt
    refine zs_cons ?_
    generalize hK : sqX Θs [] = K
    have li5 := PAn.li
    simp_arith only [B5.ns, ln5, idx_last, li5, ↓Ts_co]
    have efine : (evr st).fine := ⟨hst, one_ok, by decide, by decide⟩
    have hnq : zN (117 + j) ∉ qs.map Prs.nm := fun h => by
      refine e1_2 (List.mem_map.mp h) fun x hx e => ?_
      refine e2_3 (W.at' x hx) fun i s' e_251 hi _ => ?_
      obtain rfl := e_251
      have := zN_inj (show zN (117 + i) = zN (117 + j) from e)
      lia
    refine ⟨k, ps0 ++ qs, [], zN (117 + j), H5.length, [evr st], B5.pre pre_new, listAt_new, fun h => by have := B5.lt _ h; lia, zN_ok (by lia) (by lia), fun h => ?_, by show 1 ≤ 20; decide, fun r hr => by rw [List.mem_singleton.mp hr]; exact efine, by rw [List.length_append]; lia, fun H7 k7 f7 hb7 hg7 hc7 hk7 B7 => ?_⟩
    · rw [List.map_append] at h
      rcases List.mem_append.mp h with h | h
      · refine e1_2 (List.mem_map.mp h) fun x hx e => ?_
        exact hz x hx _ (by lia) e
      · exact hnq h
    · subst hK
      have p6 : H5 <+: H5 ++ [O.list [V.tup [V.str (Str.ofString "every"), V.int st, V.int 1, V.int 1]]] := pre_new
      have l6 : (H5 ++ [O.list [V.tup [V.str (Str.ofString "every"), V.int st, V.int 1, V.int 1]]]).length = H5.length + 1 := List.length_append
      have P6 := P5.pre p6
      have lt5 := P5.lt
      have dis5 : ∀ i ∈ n :: ads (as ++ [⟨H.length + 3, H.length, H.length + 1, H.length + 2⟩]), i ∉ k.foot := fun i hi h => by
        rw [ads_snoc] at hi
        have hb := blt i h
        rcases List.mem_cons.mp hi with h' | hi
        · exact W.dis n List.mem_cons_self (h' ▸ h)
        rcases List.mem_append.mp hi with h' | hi
        · exact W.dis i (.tail _ h') h
        rcases List.mem_cons.mp hi with h' | hi
        · have h' : i = H.length + 3 := h'; lia
        rcases List.mem_cons.mp hi with h' | hi
        · have h' : i = H.length := h'; lia
        rcases List.mem_cons.mp hi with h' | hi
        · have h' : i = H.length + 1 := h'; lia
        · have h' : i = H.length + 2 := List.mem_singleton.mp hi; lia
      have W7 : Wi H0 H7 k7 n (as ++ [⟨H.length + 3, H.length, H.length + 1, H.length + 2⟩]) ps0 (qs ++ [zP j st]) (j + 1) := by
        refine ⟨Nat.le_refl _, by rw [← List.append_assoc]; exact B7, hg7.trans W.g, hc7.trans W.c, P6.fr f7 fun i hi => dis5 i hi, fun i hi h => ?_, by rw [List.length_append, wl]; rfl, fun x hx => ?_, ?_⟩
        · rcases hk7 i h with h' | h'
          · exact dis5 i hi h'
          · have := lt5 i hi; lia
        · rcases List.mem_append.mp hx with h | h
          · refine e2_3 (W.at' x h) fun i s' e hi hs => ?_
            exact ⟨i, s', e, by lia, hs⟩
          · exact ⟨j, st, List.mem_singleton.mp h, Nat.lt_succ_self _, hst⟩
        · rw [List.map_append]
          refine List.nodup_append.mpr ⟨W.nms, List.nodup_cons.mpr ⟨List.not_mem_nil, List.nodup_nil⟩, fun x hx y hy e => ?_⟩
          rw [List.mem_singleton.mp hy] at e
          rw [e] at hx
          exact hnq hx
      have := ih (j + 1) k7 _ _ H7 (some (.int (j : Int))) (some (.tup [.str (Str.ofString "every"), .int st, .int 1, .int 1])) (by lia) hb7 W7
      exact ⟨trivial, this⟩
theorem ppl_st {H : Hp} {k : Bk} {n : Nat} {as : List Ad} {ps qs : List Prs} (B : BkAt H k ps []) (P : Ppl H n as qs (fun _ => [])) (dis : ∀ i ∈ n :: ads as, i ∉ k.foot) (sub : ∀ q ∈ qs, q ∈ ps ∧ q.fine) (ne : qs ≠ []) (nms : (qs.map Prs.nm).Nodup) (len : qs.length ≤ 100) (sm : ∀ q ∈ qs, q.fr.length ≤ 2 ∧ q.bu.length ≤ 2 ∧ nameOk q.nm) : St H k n as ps qs [] :=
  ⟨B, P.ln, P.at', P.nd, dis, sub, ne, nms, len, fun q hq => ⟨(sm q hq).1, by have := (sm q hq).2.1; lia, (sm q hq).2.2.2.1, (sm q hq).2.2.2.2⟩, Nat.zero_le _, fun _ h => (nomatch h)⟩
end Mine
namespace Mine
open PySem
section
variable {ns : List Int} {H : Hp} {k : Bk} {n : Nat} {as : List Ad} {ps0 ps qs : List Prs} {hs : List Mtg} {hours lo hi : Int} {v1 v3 : V} {v4 : V} {t8 t9 t11 t12 t13 t14 t15 t16 t17 t18 t19 t20 : Option V} {Q : V → Hp → Prop} {X : XL}
theorem st10n (hn : ns.length ≤ 1000) (P : Pn H k n as ps qs hs false hi) (hh : sizeOk1 hours) (h1 : hourOk lo) (h2 : hourOk hi) (h3 : lo ≤ hi) (h4 : hi ≤ lo + 10000) (q : ∀ H', Q (.bool true) H') :
    wpSs Θs (f_law.body.drop 10) [some (.scr ns), some v1, some (.bool false), some v3, some (.ref n), some (.ref k.b), some (.int hours), some (.int lo), t8, t9, some (.int hi), t11, t12, t13, t14, t15, t16, t17, t18, t19, t20] H (fun fl _ H1 => Q (retV fl) H1) (fun x _ H1 => X x H1) := by
  refine zs_cons ?_
  generalize hK : sqX Θs (_ :: _) = K'
  have go : K' (fun fl _ H1 => Q (retV fl) H1) (fun x _ H1 => X x H1) .next [some (.scr ns), some v1, some (.bool false), some v3, some (.ref n), some (.ref k.b), some (.int hours), some (.int lo), t8, t9, some (.int hi), t11, t12, t13, t14, t15, t16, t17, t18, t19, t20] H := by
    subst hK
    rw [sqX_next]
    exact fin0 hn P hh h1 h2 h3 h4 q
  rw [Z_ite]
  exact go
theorem st10w (hn : ns.length ≤ 1000) (B : BkAt H k ps0 []) (hg : k.g = 0) (hc : k.c = 5) (hps : ps0.length ≤ 100) (hz : ∀ p ∈ ps0, ∀ c, 117 ≤ c → p.nm ≠ zN c) (h1 : 0 ≤ lo) (h2 : lo < 999999980060) (q : ∀ H', Q (.bool true) H') :
    wpSs Θs (f_law.body.drop 10) [some (.scr ns), some v1, some (.bool true), some v3, some v4, some (.ref k.b), some (.int hours), some (.int lo), t8, t9, some (.int hi), t11, t12, t13, t14, t15, t16, t17, t18, t19, t20] H (fun fl _ H1 => Q (retV fl) H1) (fun x _ H1 => X x H1) := by
  refine zs_cons ?_
  generalize hK : sqX Θs (_ :: _) = K'
  rw [Z_ite]
  refine zs_cons ?_
  generalize hK2 : sqX Θs (_ :: _) = K2
  simp_arith only [↓Ts_ca, ↓cc_cell]
  refine ⟨hn, ?_⟩
  subst hK2
  refine zs_cons ?_
  generalize hK2 : sqX Θs (_ :: _) = K2
  simp_arith only [↓Ts_ca, ↓cc_cell]
  refine ⟨hn, ?_⟩
  subst hK2
  refine zs_cons ?_
  generalize hK2 : sqX Θs (_ :: _) = K2
  simp_arith only [X_lit]
  subst hK2
  have e7 : 0 ≤ cell ns 7 / 8 % 24 ∧ cell ns 7 / 8 % 24 < 24 := ⟨by lia, by lia⟩
  have e5 : 0 ≤ cell ns 5 % 10001 ∧ cell ns 5 % 10001 < 10001 := ⟨by lia, by lia⟩
  have e1 : 0 ≤ cell ns 1 % 6 ∧ cell ns 1 % 6 < 6 := ⟨by lia, by lia⟩
  have B1 := B.pre (pre_new (o := .list []))
  have ln1 := listAt_new (H := H) (l := [])
  have hnf : H.length ∉ k.foot := fun h => by have := B.lt _ h; lia
  generalize H ++ [O.list []] = H1 at *
  refine zs_cons ?_
  generalize hK2 : sqX Θs [] = K2
  simp_arith only [↓Ts_ca, ↓cc_cell]
  refine ⟨hn, ⟨by lia, by lia⟩, ?_⟩
  rw [rangeL_J]
  subst hK2
  obtain ⟨m, hm⟩ : ∃ m : Nat, (m : Int) = 1 + cell ns 1 % 6 := ⟨(1 + cell ns 1 % 6).toNat, by lia⟩
  rw [← hm]
  have W0 : Wi H1 H1 k H.length [] ps0 [] 0 := ⟨Nat.le_refl _, by rw [List.append_nil]; exact B1, hg, hc, ⟨ln1, rfl, List.nodup_cons.mpr ⟨List.not_mem_nil, List.nodup_nil⟩⟩, fun i hi => by rw [List.mem_singleton.mp hi]; exact hnf, rfl, fun _ h => (nomatch h), List.nodup_nil⟩
  refine wi_loop (H0 := H1) hn h1 (by lia) hps hz m (by lia) (fun k2 as qs H2 t11 t12 hb W => ?_) m 0 k [] [] H1 _ _ (by lia) rfl W0
  rw [sqX_next, Zs_nil]
  subst hK
  rw [sqX_next, ← hb]
  have wl := W.len
  refine fin0 hn ⟨ppl_st W.book W.pp W.dis (fun x hx => ?_) (fun h => ?_) W.nms (by lia) (fun x hx => ?_), Nat.zero_le _, by have := W.c; lia, fun x hx => ?_, fun _ => ⟨rfl, W.g, by lia, fun x hx => ?_⟩⟩ ⟨by lia, by lia⟩ ⟨h1, by lia⟩ ⟨by lia, by lia⟩ (by lia) (by lia) q
  · refine e2_3 (W.at' x hx) fun i st e_252 hi hs => ?_
    obtain rfl := e_252
    exact ⟨List.mem_append_right _ hx, fun r hr => by rw [List.mem_singleton.mp hr]; exact ⟨hs, one_ok, by decide, by decide⟩, fun _ h => (nomatch h)⟩
  · rw [h] at wl
    have wl : 0 = m := wl
    lia
  · refine e2_3 (W.at' x hx) fun i st e_253 hi hs => ?_
    obtain rfl := e_253
    exact ⟨by show 1 ≤ 2; decide, Nat.zero_le _, zN_ok (by lia) (by lia)⟩
  · refine e2_3 (W.at' x hx) fun i st e_254 hi hs => ?_
    obtain rfl := e_254
    exact Nat.zero_le _
  · refine e2_3 (W.at' x hx) fun i st e_255 hi hs => ?_
    obtain rfl := e_255
    exact ⟨rfl, rfl⟩
end
end Mine
namespace Mine
open PySem
theorem Ts_me : Θs (Str.ofString "Book." ++ Str.ofString "meet") = C_meet := rfl
theorem St.met {H H2 : Hp} {k k2 : Bk} {n : Nat} {as : List Ad} {a : Ad} {ps qs : List Prs} {p : Prs} {no x z : Int} (S : St H k n (as ++ [a]) ps (qs ++ [p]) []) (f : Fr k.foot H H2) (hf : k2.foot = k.foot) (B : BkAt H2 k2 ps [⟨no, x, z, [p.nm]⟩]) (hx : 0 ≤ x) (hz : 0 ≤ z ∧ z ≤ 48) :
    St (H2.set a.e (.list [metV (x, z)])) k2 n (as ++ [a]) ps (qs ++ [p]) [⟨no, x, z, [p.nm]⟩] := by
  have R := S.rcd.fr f S.dis
  have nd := S.nd
  rw [ads_snoc] at nd
  obtain ⟨n1, n2⟩ := List.nodup_cons.mp nd
  refine e0_3 (List.nodup_append.mp n2) fun _ n3 n4 => ?_
  obtain ⟨n5, n6⟩ := List.nodup_cons.mp n3
  obtain ⟨n7, n8⟩ := List.nodup_cons.mp n6
  obtain ⟨n9, _⟩ := List.nodup_cons.mp n8
  have e1 : n ≠ a.e := fun q => n1 (List.mem_append_right _ (by rw [q]; exact .tail _ (.tail _ (.tail _ (.head _)))))
  have e2 : ∀ i ∈ ads as, i ≠ a.e := fun i hi q => n4 i hi a.e (.tail _ (.tail _ (.tail _ (.head _)))) q
  have e3 : a.i ≠ a.e := fun q => n5 (by rw [q]; exact .tail _ (.tail _ (.head _)))
  have e4 : a.f ≠ a.e := fun q => n7 (by rw [q]; exact .tail _ (.head _))
  have e5 : a.u ≠ a.e := fun q => n9 (by rw [q]; exact .head _)
  have g : Fr [a.e] H2 (H2.set a.e (.list [metV (x, z)])) := Fr.set
  have nms := S.nms
  rw [List.map_append] at nms
  have mp : mets [⟨no, x, z, [p.nm]⟩] p.nm = [(x, z)] := by
    show ([(⟨no, x, z, [p.nm]⟩ : Mtg)].filter fun m => m.who.contains p.nm).map (fun m => (m.hr, m.sz)) = _
    rw [List.filter_cons, show ([p.nm].contains p.nm) = true from List.contains_iff_mem.mpr (.head _)]; rfl
  have mo : ∀ q ∈ qs, mets [⟨no, x, z, [p.nm]⟩] q.nm = [] := fun q hq => by
    show ([(⟨no, x, z, [p.nm]⟩ : Mtg)].filter fun m => m.who.contains q.nm).map (fun m => (m.hr, m.sz)) = _
    have : ([p.nm].contains q.nm) = false := by
      cases h : [p.nm].contains q.nm with
      | false => rfl
      | true => exact absurd (List.mem_singleton.mp (List.contains_iff_mem.mp h)) ((List.nodup_append.mp nms).2.2 q.nm (List.mem_map_of_mem hq) p.nm (.head _))
    rw [List.filter_cons, this]; rfl
  refine ⟨B.fr g fun i hi => nin1 fun q => S.dis a.e m_e (by rw [← hf]; exact q ▸ hi), ?_, (PsAt.congr (fun q hq => (mo q hq).symm) (R.at'.fr g fun i hi => nin1 (e2 i hi))).snoc (a := a) ⟨g.list (nin1 e3) R.li, g.list (nin1 e4) R.lf, g.list (nin1 e5) R.lu, (listAt_set R.le).trans (by rw [mp]; rfl)⟩, S.nd, fun i hi => by rw [hf]; exact S.dis i hi, S.sub, S.ne, S.nms, S.len, S.sm, Nat.le_succ _, fun m hm => by rw [List.mem_singleton.mp hm]; exact ⟨hx, hz⟩⟩
  rw [g.list (nin1 e1) R.lm, refs_snoc]
section
variable {ns : List Int} {H : Hp} {k : Bk} {n : Nat} {as : List Ad} {ps qs : List Prs} {hs : List Mtg} {hours lo : Int} {v1 v3 : V} {t8 t9 t10 t11 t12 t13 t14 t15 t16 t17 t18 t19 t20 : Option V} {Q : V → Hp → Prop} {X : XL}
theorem st9n (hn : ns.length ≤ 1000) (P : ∀ hi, Pn H k n as ps qs hs false hi) (hh : sizeOk1 hours) (h1 : hourOk lo) (q : ∀ H', Q (.bool true) H') :
    wpSs Θs (f_law.body.drop 9) [some (.scr ns), some v1, some (.bool false), some v3, some (.ref n), some (.ref k.b), some (.int hours), some (.int lo), t8, t9, t10, t11, t12, t13, t14, t15, t16, t17, t18, t19, t20] H (fun fl _ H1 => Q (retV fl) H1) (fun x _ H1 => X x H1) := by
  have a1 := h1.1
  have a2 := h1.2
  refine zs_cons ?_
  generalize hK : sqX Θs (_ :: _) = K'
  simp_arith only [↓Ts_ca, ↓cc_cell, ↓Ts_it, ↓cc_int]
  refine ⟨hn, ?_⟩
  subst hK
  rw [sqX_next]
  exact st10n hn (P _) hh h1 ⟨by lia, by lia⟩ (by lia) (by lia) q
theorem st8n (hn : ns.length ≤ 1000) (S : St H k n as ps qs []) (hg : k.g = 0) (hc : k.c = 5) (hb : ∀ q ∈ qs, q.bu.length ≤ 2) (hh : sizeOk1 hours) (h1 : hourOk lo) (q : ∀ H', Q (.bool true) H') :
    wpSs Θs (f_law.body.drop 8) [some (.scr ns), some v1, some (.bool false), some v3, some (.ref n), some (.ref k.b), some (.int hours), some (.int lo), t8, t9, t10, t11, t12, t13, t14, t15, t16, t17, t18, t19, t20] H (fun fl _ H1 => Q (retV fl) H1) (fun x _ H1 => X x H1) := by
  have a1 := h1.1
  have a2 := h1.2
  have pn : ∀ {H' : Hp} {k' : Bk} {hs' : List Mtg}, St H' k' n as ps qs hs' → hs'.length ≤ 1 → k'.c ≤ 50 → ∀ hi, Pn H' k' n as ps qs hs' false hi := fun S' hl hc' hi => ⟨S', hl, hc', hb, fun h => by cases h⟩
  obtain ⟨as0, a, qs0, p, rfl, rfl⟩ := S.at'.last S.ne
  have lm := S.rcd.lm
  have li := S.rcd.li
  refine zs_cons ?_
  generalize hK : sqX Θs (_ :: _) = K'
  have go : ∀ {H' : Hp} {k' : Bk} {hs' : List Mtg} {t8 t9 : Option V}, k'.b = k.b → St H' k' n (as0 ++ [a]) ps (qs0 ++ [p]) hs' → hs'.length ≤ 1 → k'.c ≤ 50 → K' (fun fl _ H1 => Q (retV fl) H1) (fun x _ H1 => X x H1) .next [some (.scr ns), some v1, some (.bool false), some v3, some (.ref n), some (.ref k.b), some (.int hours), some (.int lo), t8, t9, t10, t11, t12, t13, t14, t15, t16, t17, t18, t19, t20] H' := fun hb S' hl hc' => by
    subst hK
    rw [sqX_next, ← hb]
    exact st9n hn (pn S' hl hc') hh h1 q
  generalize hB : ([_, _, _] : List IS) = B
  simp_arith only [↓Ts_ca, ↓cc_cell]
  refine ⟨hn, fun h6 => ?_, fun h6 => go rfl S (Nat.zero_le _) (by lia)⟩
  subst hB
  refine zs_cons ?_
  generalize hK2 : sqX Θs (_ :: _) = K2
  simp_arith only [↓Ts_ca, ↓cc_cell]
  refine ⟨hn, ?_⟩
  subst hK2
  have e6 : 1 ≤ 1 + cell ns 6 / 3 % 3 ∧ 1 + cell ns 6 / 3 % 3 ≤ 3 := ⟨by lia, by lia⟩
  generalize 1 + cell ns 6 / 3 % 3 = z at *
  refine zs_cons ?_
  generalize hK2 : sqX Θs (_ :: _) = K2
  have p1 : H <+: H ++ [.list [.str p.nm]] := pre_new
  have ln := listAt_new (H := H) (l := [V.str p.nm])
  simp_arith only [S.book.ns, lm, idx_last, li, ↓Ts_it, ↓cc_int, ↓Ts_me]
  generalize H ++ [O.list [.str p.nm]] = H1 at *
  have S1 := S.pre p1
  have hp := S.sub p (List.mem_append_right _ (.head _))
  have hnf : H.length ∉ k.foot := fun h => by have := S.book.lt _ h; lia
  refine ⟨k, H.length, ps, [], [p], z, lo, _, ⟨⟨S1.book, ln, fun q hq => by rw [List.mem_singleton.mp hq]; exact hp⟩, List.cons_ne_nil _ _, List.nodup_cons.mpr ⟨List.not_mem_nil, List.nodup_nil⟩, ⟨by lia, by lia⟩, h1, ⟨by lia, by lia⟩, by lia, by lia⟩, hnf, Nat.zero_le _, by lia, fun _ H2 p2 => ?_, fun k2 x H2 hx f2 hf2 hb2 hg2 hc2 B2 => ?_⟩
  · subst hK2
    simp_arith only [isNoneV]
    exact go rfl (S1.pre p2) (Nat.zero_le _) (by lia)
  · subst hK2
    have hx' := look_ge _ _ hx
    have R2 := S1.rcd.fr f2 S.dis
    have le2 : listAt H2 a.e = some [] := R2.le
    simp_arith only [isNoneV, R2.lm, idx_last, R2.li, le2]
    exact ⟨⟨_, le2⟩, go hb2 (S1.met f2 hf2 B2 (by lia) ⟨by lia, by lia⟩) (Nat.le_refl _) (by lia)⟩
end
end Mine
namespace Mine
open PySem
theorem Ts_fa : Θs "_law_far" = C_far := rfl
theorem Ts_pe : Θs "_law_people_by" = C_people_by := rfl
theorem Ts_bo : Θs "_law_book_of" = C_book_of := rfl
section
variable {ns : List Int} {H : Hp} {k : Bk} {n : Nat} {as : List Ad} {ps : List Prs} {hours lo hi far : Int} {v3 : V} {t8 t9 t10 t11 t12 t13 t14 t15 t16 t17 t18 t19 t20 : Option V} {Q : V → Hp → Prop} {X : XL}
theorem st8w (hn : ns.length ≤ 1000) {v1 v4 : V} (B : BkAt H k ps []) (hg : k.g = 0) (hc : k.c = 5) (hps : ps.length ≤ 100) (hz : ∀ p ∈ ps, ∀ c, 117 ≤ c → p.nm ≠ zN c) (h1 : 0 ≤ lo) (h2 : lo < 999999980060) (q : ∀ H', Q (.bool true) H') :
    wpSs Θs (f_law.body.drop 8) [some (.scr ns), some v1, some (.bool true), some v3, some v4, some (.ref k.b), some (.int hours), some (.int lo), t8, t9, t10, t11, t12, t13, t14, t15, t16, t17, t18, t19, t20] H (fun fl _ H1 => Q (retV fl) H1) (fun x _ H1 => X x H1) := by
  refine zs_cons ?_
  generalize hK : sqX Θs (_ :: _) = K'
  generalize hB : ([_, _, _] : List IS) = B0
  have go : K' (fun fl _ H1 => Q (retV fl) H1) (fun x _ H1 => X x H1) .next [some (.scr ns), some v1, some (.bool true), some v3, some v4, some (.ref k.b), some (.int hours), some (.int lo), t8, t9, t10, t11, t12, t13, t14, t15, t16, t17, t18, t19, t20] H := by
    subst hK
    rw [sqX_next]
    refine zs_cons ?_
    generalize hK : sqX Θs (_ :: _) = K'
    simp_arith only [↓Ts_ca, ↓cc_cell, ↓Ts_it, ↓cc_int]
    refine ⟨hn, ?_⟩
    subst hK
    rw [sqX_next]
    exact st10w hn B hg hc hps hz h1 h2 q
  simp_arith only [↓Ts_ca, ↓cc_cell]
  exact ⟨hn, fun _ => go, fun _ => go⟩
end
noncomputable def C_lawT : Ctr := fun vs _ Q _ => ∃ ns : List Int, vs = [.scr ns] ∧ ns.length ≤ 1000 ∧ ∀ H', Q (.bool true) H'
theorem w_lawT : ∀ vs H Q X, C_lawT vs H Q X → wpFn Θs f_law vs H Q X := by
  rintro vs H Q X ⟨ns, rfl, hz, q⟩
  refine fn_of rfl ?_
  change wpSs Θs f_law.body [some (.scr ns), none, none, none, none, none, none, none, none, none, none, none, none, none, none, none, none, none, none, none, none] H _ _
  refine zs_cons ?_
  generalize hK : sqX Θs (_ :: _) = K
  simp_arith only [↓Ts_ca, ↓cc_cell, ↓Ts_fa]
  refine ⟨hz, _, rfl, fun far H0 _ hfar => ?_⟩
  subst hK
  refine zs_cons ?_
  generalize hK : sqX Θs (_ :: _) = K
  have wide : ∀ b : Bool, (b = true → far < 999999980000) → K (fun fl _ H1 => Q (retV fl) H1) (fun x _ H1 => X x H1) .next [some (.scr ns), some (.int far), some (.bool b), none, none, none, none, none, none, none, none, none, none, none, none, none, none, none, none, none, none] H0 := fun b hb => by
    subst hK
    rw [sqX_next]
    refine zs_cons ?_
    generalize hK : sqX Θs (_ :: _) = K
    have many : ∀ m : Int, 1 ≤ m → m ≤ 3 → K (fun fl _ H1 => Q (retV fl) H1) (fun x _ H1 => X x H1) .next [some (.scr ns), some (.int far), some (.bool b), some (.int m), none, none, none, none, none, none, none, none, none, none, none, none, none, none, none, none, none] H0 := fun m hm1 hm2 => by
      subst hK
      rw [sqX_next]
      refine zs_cons ?_
      generalize hK : sqX Θs (_ :: _) = K
      simp_arith only [↓Ts_pe]
      refine ⟨ns, 12, m, far, hz, hm1, hm2, hfar, fun n as ps H1 P hlen hnd hg => ?_⟩
      subst hK
      refine zs_cons ?_
      generalize hK : sqX Θs (_ :: _) = K
      simp_arith only [↓Ts_bo]
      refine ⟨n, as, ps, P, hnd, fun p hp => (hg p hp).1, by lia, fun H2 k M => ?_⟩
      subst hK
      have hfr : ∀ i ∈ n :: ads as, i ∉ k.foot := fun i hi h => by have := P.lt i hi; have := M.foot i h; lia
      have S : St H2 k n as ps ps [] := ppl_st M.book (P.fr M.fr fun _ _ h => (nomatch h)) hfr (fun p hp => ⟨hp, (hg p hp).1.fine⟩) (fun e => by rw [e] at hlen; have hlen : (0 : Int) = m := hlen; lia) hnd (by lia) fun p hp => ⟨(hg p hp).1.fr, (hg p hp).1.bu, (hg p hp).1.nm⟩
      refine zs_cons ?_
      generalize hK : sqX Θs (_ :: _) = K
      simp_arith only [↓Ts_ca, ↓cc_cell]
      refine ⟨hz, ?_⟩
      subst hK
      have hh : sizeOk1 (1 + cell ns 3 % 4) := ⟨by lia, by lia⟩
      generalize 1 + cell ns 3 % 4 = hours at *
      refine zs_cons ?_
      generalize hK : sqX Θs (_ :: _) = K
      simp_arith only [↓Ts_ca, ↓cc_cell]
      refine ⟨hz, ?_⟩
      subst hK
      have f1 := hfar.1
      have f2 := hfar.2
      refine zs_cons ?_
      generalize hK : sqX Θs (_ :: _) = K
      have fin : ∀ lo : Int, hourOk lo → (b = true → lo < 999999980060) → K (fun fl _ H1 => Q (retV fl) H1) (fun x _ H1 => X x H1) .next [some (.scr ns), some (.int far), some (.bool b), some (.int m), some (.ref n), some (.ref k.b), some (.int hours), some (.int lo), none, none, none, none, none, none, none, none, none, none, none, none, none] H2 := fun lo hlo hw => by
        subst hK
        rw [sqX_next]
        cases b with
        | true => exact st8w hz M.book M.g M.c (by lia) (fun p hp => (hg p hp).2) hlo.1 (hw rfl) q
        | false => exact st8n hz S M.g M.c (fun p hp => (hg p hp).1.bu) hh hlo q
      simp_arith only [↓Ts_ca, ↓cc_cell]
      have low : hourOk (far + cell ns 4 % 60) := ⟨by lia, by lia⟩
      have lw : b = true → far + cell ns 4 % 60 < 999999980060 := fun e => by have := hb e; lia
      refine ⟨fun h => ⟨hz, fun _ => ⟨hz, fin _ ⟨by lia, by lia⟩ fun e => by have := hb e; lia⟩, fun _ => fin _ low lw⟩, fun h => fin _ low lw⟩
    cases b with
    | true =>
      simp_arith only [↓Ts_ca, ↓cc_cell]
      rw [if_neg Bool.false_ne_true]
      exact ⟨hz, .inl ⟨by lia, by lia⟩, many _ (by lia) (by lia)⟩
    | false =>
      simp_arith only [↓Ts_ca, ↓cc_cell]
      rw [if_pos trivial]
      exact ⟨hz, .inl ⟨by lia, by lia⟩, many _ (by lia) (by lia)⟩
  simp_arith only [↓Ts_ca, ↓cc_cell]
  exact ⟨hz, fun _ => wide _ of_decide_eq_true, fun h => wide _ fun e => absurd (of_decide_eq_true e) h⟩
end Mine
namespace Mine
open PySem
noncomputable def G10 : List (Str × V) := ("FOUR_YEARS", .int 1461) :: ("BEFORE_YEAR", .tup [.int 0, .int 366, .int 731, .int 1096]) :: ("MONTHS", .tup [.int 31, .int 28, .int 31, .int 30, .int 31, .int 30, .int 31, .int 31, .int 30, .int 31, .int 30, .int 31]) :: ("TIMES", .int 1000000000000) :: ("DAYS", .int 100000000000) :: ("LONGEST", .int 48) :: ("MOST_STEP", .int 1000000) :: ("DEEPEST", .int 8) :: ("OUTER", .tup [.str "from", .str "until", .str "also", .str "but"]) :: ("LETTERS", .str "abcdefghijklmnopqrstuvwxyz") :: ("LONGEST_NAME", .int 12) :: ("MOST_RULES", .int 20) :: ("MOST_STRETCH", .int 10000) :: ("isinstance", .bi .isinstance) :: ("len", .bi .len) :: ("any", .bi .any) :: ("all", .bi .all) :: ("max", .bi .max) :: ("min", .bi .min) :: ("repr", .bi .repr) :: ("int", .ty .int) :: ("bool", .ty .bool) :: ("str", .ty .str) :: ("tuple", .ty .tuple) :: ("list", .ty .list) :: ("range", .ty .range) :: ("reversed", .ty .reversed) :: ("Book", .bk) :: ("month_length", .fn "month_length") :: ("date_of", .fn "date_of") :: ("from_end", .fn "from_end") :: ("is_whole", .fn "is_whole") :: ("is_between", .fn "is_between") :: ("is_time", .fn "is_time") :: ("are_rising", .fn "are_rising") :: ("is_plain", .fn "is_plain") :: ("is_rule", .fn "is_rule") :: ("innermost", .fn "innermost") :: ("length_of", .fn "length_of") :: ("begins_plain", .fn "begins_plain") :: ("begins", .fn "begins") :: ("covers", .fn "covers") :: ("some_covers", .fn "some_covers") :: ("need_stretch", .fn "need_stretch") :: ("is_name", .fn "is_name") :: ("_law_cell_at", .fn "_law_cell_at") :: ("_law_whole", .fn "_law_whole") :: ("_law_days", .fn "_law_days") :: ("_law_in_month", .fn "_law_in_month") :: ("_law_plain_begins", .fn "_law_plain_begins") :: ("_law_bearing", .fn "_law_bearing") :: ("_law_heads", .fn "_law_heads") :: ("_law_begun", .fn "_law_begun") :: ("_law_size", .fn "_law_size") :: ("_law_weekdays", .fn "_law_weekdays") :: ("_law_plain_by", .fn "_law_plain_by") :: ("_law_head_by", .fn "_law_head_by") :: ("_law_far", .fn "_law_far") :: ("_law_in_time", .fn "_law_in_time") :: ("_law_free_by", .fn "_law_free_by") :: ("_law_name_by", .fn "_law_name_by") :: ("_law_people_by", .fn "_law_people_by") :: ("_law_book_of", .fn "_law_book_of") :: ("_law_lasts", .fn "_law_lasts") :: ("_law_open", .fn "_law_open") :: ("_law_is_told", .fn "_law_is_told") :: ("_law_row_holds", .fn "_law_row_holds") :: ("_law_all_open", .fn "_law_all_open") :: ("_law_holds", .fn "_law_holds") :: ("_law_asked", .fn "_law_asked") :: ("_law_asked_again", .fn "_law_asked_again") :: ("_law_busier", .fn "_law_busier") :: ("_law_taken", .fn "_law_taken") :: []
noncomputable def mts10 : List Str := "come" :: "need_somebody" :: "busy" :: "meets_at" :: "free_at" :: "need_all" :: "bar" :: "look" :: "first" :: "meet" :: "place_of" :: "drop" :: "move" :: []
noncomputable def ΦL10 : Orc := ext "law" C_lawT Θs
end Mine

open PySem PySem.W PyProof.Rows Mine
namespace Mine
noncomputable def K10 (P : Params) : Frag := [(3, { cls := Value.type "dict", data := Data.dict #[{ hash := PyData.keyHash P (Str.ofString "__name__"), key := Value.str (Str.ofString "__name__") 165, val := Value.str (Str.ofString "law_uf010016_11") 761 }, { hash := PyData.keyHash P (Str.ofString "__doc__"), key := Value.str (Str.ofString "__doc__") 166, val := Value.none }, { hash := PyData.keyHash P (Str.ofString "__package__"), key := Value.str (Str.ofString "__package__") 167, val := Value.none }, { hash := PyData.keyHash P (Str.ofString "__loader__"), key := Value.str (Str.ofString "__loader__") 168, val := Value.builtin "__main__.__loader__#opaque" }, { hash := PyData.keyHash P (Str.ofString "__spec__"), key := Value.str (Str.ofString "__spec__") 169, val := Value.none }, { hash := PyData.keyHash P (Str.ofString "__annotations__"), key := Value.str (Str.ofString "__annotations__") 170, val := Value.ref 6 }, { hash := PyData.keyHash P (Str.ofString "__builtins__"), key := Value.str (Str.ofString "__builtins__") 171, val := Value.ref 4 }, { hash := PyData.keyHash P (Str.ofString "__file__"), key := Value.str (Str.ofString "__file__") 173, val := Value.str (Str.ofString "/claim/cut.py") 172 }, { hash := PyData.keyHash P (Str.ofString "__cached__"), key := Value.str (Str.ofString "__cached__") 174, val := Value.none }, { hash := PyData.keyHash P (Str.ofString "_wall"), key := Value.str (Str.ofString "_wall") 193, val := Value.ref 21 }, { hash := PyData.keyHash P (Str.ofString "HourError"), key := Value.str (Str.ofString "HourError") 213, val := Value.ref 31 }, { hash := PyData.keyHash P (Str.ofString "NoRule"), key := Value.str (Str.ofString "NoRule") 229, val := Value.ref 44 }, { hash := PyData.keyHash P (Str.ofString "NoName"), key := Value.str (Str.ofString "NoName") 245, val := Value.ref 56 }, { hash := PyData.keyHash P (Str.ofString "Taken"), key := Value.str (Str.ofString "Taken") 261, val := Value.ref 68 }, { hash := PyData.keyHash P (Str.ofString "Stranger"), key := Value.str (Str.ofString "Stranger") 277, val := Value.ref 80 }, { hash := PyData.keyHash P (Str.ofString "Twice"), key := Value.str (Str.ofString "Twice") 293, val := Value.ref 92 }, { hash := PyData.keyHash P (Str.ofString "NoTime"), key := Value.str (Str.ofString "NoTime") 309, val := Value.ref 104 }, { hash := PyData.keyHash P (Str.ofString "NoMeeting"), key := Value.str (Str.ofString "NoMeeting") 325, val := Value.ref 116 }, { hash := PyData.keyHash P (Str.ofString "Clash"), key := Value.str (Str.ofString "Clash") 341, val := Value.ref 128 }, { hash := PyData.keyHash P (Str.ofString "FOUR_YEARS"), key := Value.str (Str.ofString "FOUR_YEARS") 345, val := Value.int 1461 344 }, { hash := PyData.keyHash P (Str.ofString "BEFORE_YEAR"), key := Value.str (Str.ofString "BEFORE_YEAR") 350, val := Value.ref 131 }, { hash := PyData.keyHash P (Str.ofString "MONTHS"), key := Value.str (Str.ofString "MONTHS") 363, val := Value.ref 132 }, { hash := PyData.keyHash P (Str.ofString "is_whole"), key := Value.str (Str.ofString "is_whole") 370, val := Value.ref 139 }, { hash := PyData.keyHash P (Str.ofString "month_length"), key := Value.str (Str.ofString "month_length") 378, val := Value.ref 146 }, { hash := PyData.keyHash P (Str.ofString "date_of"), key := Value.str (Str.ofString "date_of") 389, val := Value.ref 153 }, { hash := PyData.keyHash P (Str.ofString "from_end"), key := Value.str (Str.ofString "from_end") 397, val := Value.ref 160 }, { hash := PyData.keyHash P (Str.ofString "TIMES"), key := Value.str (Str.ofString "TIMES") 403, val := Value.int 1000000000000 402 }, { hash := PyData.keyHash P (Str.ofString "DAYS"), key := Value.str (Str.ofString "DAYS") 407, val := Value.int 100000000000 406 }, { hash := PyData.keyHash P (Str.ofString "LONGEST"), key := Value.str (Str.ofString "LONGEST") 409, val := Value.int 48 408 }, { hash := PyData.keyHash P (Str.ofString "MOST_STEP"), key := Value.str (Str.ofString "MOST_STEP") 411, val := Value.int 1000000 410 }, { hash := PyData.keyHash P (Str.ofString "DEEPEST"), key := Value.str (Str.ofString "DEEPEST") 413, val := Value.int 8 412 }, { hash := PyData.keyHash P (Str.ofString "OUTER"), key := Value.str (Str.ofString "OUTER") 418, val := Value.ref 161 }, { hash := PyData.keyHash P (Str.ofString "is_between"), key := Value.str (Str.ofString "is_between") 427, val := Value.ref 168 }, { hash := PyData.keyHash P (Str.ofString "is_time"), key := Value.str (Str.ofString "is_time") 434, val := Value.ref 175 }, { hash := PyData.keyHash P (Str.ofString "are_rising"), key := Value.str (Str.ofString "are_rising") 445, val := Value.ref 182 }, { hash := PyData.keyHash P (Str.ofString "is_plain"), key := Value.str (Str.ofString "is_plain") 453, val := Value.ref 189 }, { hash := PyData.keyHash P (Str.ofString "is_rule"), key := Value.str (Str.ofString "is_rule") 461, val := Value.ref 196 }, { hash := PyData.keyHash P (Str.ofString "innermost"), key := Value.str (Str.ofString "innermost") 468, val := Value.ref 203 }, { hash := PyData.keyHash P (Str.ofString "length_of"), key := Value.str (Str.ofString "length_of") 476, val := Value.ref 210 }, { hash := PyData.keyHash P (Str.ofString "begins_plain"), key := Value.str (Str.ofString "begins_plain") 485, val := Value.ref 217 }, { hash := PyData.keyHash P (Str.ofString "begins"), key := Value.str (Str.ofString "begins") 493, val := Value.ref 224 }, { hash := PyData.keyHash P (Str.ofString "covers"), key := Value.str (Str.ofString "covers") 502, val := Value.ref 231 }, { hash := PyData.keyHash P (Str.ofString "LETTERS"), key := Value.str (Str.ofString "LETTERS") 506, val := Value.str (Str.ofString "abcdefghijklmnopqrstuvwxyz") 505 }, { hash := PyData.keyHash P (Str.ofString "LONGEST_NAME"), key := Value.str (Str.ofString "LONGEST_NAME") 508, val := Value.int 12 507 }, { hash := PyData.keyHash P (Str.ofString "MOST_RULES"), key := Value.str (Str.ofString "MOST_RULES") 510, val := Value.int 20 509 }, { hash := PyData.keyHash P (Str.ofString "MOST_STRETCH"), key := Value.str (Str.ofString "MOST_STRETCH") 512, val := Value.int 10000 511 }, { hash := PyData.keyHash P (Str.ofString "is_name"), key := Value.str (Str.ofString "is_name") 520, val := Value.ref 238 }, { hash := PyData.keyHash P (Str.ofString "some_covers"), key := Value.str (Str.ofString "some_covers") 529, val := Value.ref 245 }, { hash := PyData.keyHash P (Str.ofString "need_stretch"), key := Value.str (Str.ofString "need_stretch") 538, val := Value.ref 252 }, { hash := PyData.keyHash P (Str.ofString "Book"), key := Value.str (Str.ofString "Book") 760, val := Value.ref 402 }, { hash := PyData.keyHash P (Str.ofString "_law_cell_at"), key := Value.str (Str.ofString "_law_cell_at") 770, val := Value.ref 413 }, { hash := PyData.keyHash P (Str.ofString "_law_whole"), key := Value.str (Str.ofString "_law_whole") 777, val := Value.ref 420 }, { hash := PyData.keyHash P (Str.ofString "_law_days"), key := Value.str (Str.ofString "_law_days") 786, val := Value.ref 427 }, { hash := PyData.keyHash P (Str.ofString "_law_in_month"), key := Value.str (Str.ofString "_law_in_month") 796, val := Value.ref 434 }, { hash := PyData.keyHash P (Str.ofString "_law_plain_begins"), key := Value.str (Str.ofString "_law_plain_begins") 804, val := Value.ref 441 }, { hash := PyData.keyHash P (Str.ofString "_law_bearing"), key := Value.str (Str.ofString "_law_bearing") 810, val := Value.ref 448 }, { hash := PyData.keyHash P (Str.ofString "_law_heads"), key := Value.str (Str.ofString "_law_heads") 818, val := Value.ref 455 }, { hash := PyData.keyHash P (Str.ofString "_law_begun"), key := Value.str (Str.ofString "_law_begun") 829, val := Value.ref 462 }, { hash := PyData.keyHash P (Str.ofString "_law_size"), key := Value.str (Str.ofString "_law_size") 837, val := Value.ref 469 }, { hash := PyData.keyHash P (Str.ofString "_law_weekdays"), key := Value.str (Str.ofString "_law_weekdays") 846, val := Value.ref 476 }, { hash := PyData.keyHash P (Str.ofString "_law_plain_by"), key := Value.str (Str.ofString "_law_plain_by") 859, val := Value.ref 483 }, { hash := PyData.keyHash P (Str.ofString "_law_head_by"), key := Value.str (Str.ofString "_law_head_by") 865, val := Value.ref 488 }, { hash := PyData.keyHash P (Str.ofString "_law_far"), key := Value.str (Str.ofString "_law_far") 872, val := Value.ref 495 }, { hash := PyData.keyHash P (Str.ofString "_law_in_time"), key := Value.str (Str.ofString "_law_in_time") 879, val := Value.ref 502 }, { hash := PyData.keyHash P (Str.ofString "_law_name_by"), key := Value.str (Str.ofString "_law_name_by") 892, val := Value.ref 509 }, { hash := PyData.keyHash P (Str.ofString "_law_free_by"), key := Value.str (Str.ofString "_law_free_by") 902, val := Value.ref 516 }, { hash := PyData.keyHash P (Str.ofString "_law_people_by"), key := Value.str (Str.ofString "_law_people_by") 908, val := Value.ref 521 }, { hash := PyData.keyHash P (Str.ofString "_law_book_of"), key := Value.str (Str.ofString "_law_book_of") 918, val := Value.ref 528 }, { hash := PyData.keyHash P (Str.ofString "_law_lasts"), key := Value.str (Str.ofString "_law_lasts") 927, val := Value.ref 535 }, { hash := PyData.keyHash P (Str.ofString "_law_open"), key := Value.str (Str.ofString "_law_open") 933, val := Value.ref 540 }, { hash := PyData.keyHash P (Str.ofString "_law_is_told"), key := Value.str (Str.ofString "_law_is_told") 940, val := Value.ref 547 }, { hash := PyData.keyHash P (Str.ofString "_law_row_holds"), key := Value.str (Str.ofString "_law_row_holds") 946, val := Value.ref 552 }, { hash := PyData.keyHash P (Str.ofString "_law_holds"), key := Value.str (Str.ofString "_law_holds") 959, val := Value.ref 559 }, { hash := PyData.keyHash P (Str.ofString "_law_all_open"), key := Value.str (Str.ofString "_law_all_open") 970, val := Value.ref 566 }, { hash := PyData.keyHash P (Str.ofString "_law_busier"), key := Value.str (Str.ofString "_law_busier") 976, val := Value.ref 571 }, { hash := PyData.keyHash P (Str.ofString "_law_taken"), key := Value.str (Str.ofString "_law_taken") 982, val := Value.ref 576 }, { hash := PyData.keyHash P (Str.ofString "_law_asked"), key := Value.str (Str.ofString "_law_asked") 988, val := Value.ref 581 }, { hash := PyData.keyHash P (Str.ofString "_law_asked_again"), key := Value.str (Str.ofString "_law_asked_again") 1004, val := Value.ref 588 }, { hash := PyData.keyHash P (Str.ofString "law"), key := Value.str (Str.ofString "law") 1010, val := Value.ref 593 }] 79 }), (131, { cls := Value.type "tuple", data := Data.seq #[Value.int 0 346, Value.int 366 347, Value.int 731 348, Value.int 1096 349] }), (132, { cls := Value.type "tuple", data := Data.seq #[Value.int 31 351, Value.int 28 352, Value.int 31 353, Value.int 30 354, Value.int 31 355, Value.int 30 356, Value.int 31 357, Value.int 31 358, Value.int 30 359, Value.int 31 360, Value.int 30 361, Value.int 31 362] }), (161, { cls := Value.type "tuple", data := Data.seq #[Value.str (Str.ofString "from") 414, Value.str (Str.ofString "until") 415, Value.str (Str.ofString "also") 416, Value.str (Str.ofString "but") 417] })]
noncomputable def H10 : Hook := kHook K10 [3, 131, 132, 161] (fun _ => rfl)
noncomputable def V10 : Program := viewOf Challenge.pw_uf010016_11
noncomputable def B10 : ClsRec := match (plainsOf V10 (looseW V10 [Str.ofString "TIMES", Str.ofString "DAYS"])).find? (fun c => c.name == Str.ofString "Book") with
  | some c => c
  | none => ⟨Str.ofString "", none, [], [], 0, []⟩
end Mine
namespace Mine.Hd
set_option maxRecDepth 100000
def topT (tb : String → Option Builtin) (p : Program) (w : World) (n₀ : Nat) (ann : Option Value) : Nat → SharedT → Thread → Option SharedT
  | 0, _, _ => none
  | n + 1, s, t => match through t with
    | true => some s
    | false => match stepOk n₀ ann t with
      | false => none
      | true => match stepT (denote tb) p w s t with
        | some (s', t') => topT tb p w n₀ ann n s' t'
        | none => none
theorem topT_of {tb : String → Option Builtin} {p : Program} {w : World} {n₀ : Nat} {ann : Option Value} : ∀ {n : Nat} {s s' : SharedT} {t : Thread}, topT tb p w n₀ ann n s t = some s' → topRun tb p w n₀ ann n s.abs t = some s'.abs
  | 0, _, _, _, h => by cases h
  | n + 1, s, s', t, h => by
    unfold topT at h
    unfold topRun
    cases ht : through t with
    | true => rw [ht] at h; cases h; rfl
    | false =>
      rw [ht] at h
      cases hk : stepOk n₀ ann t with
      | false => rw [hk] at h; cases h
      | true =>
        rw [hk] at h
        cases hs : stepT (denote tb) p w s t with
        | none => rw [hs] at h; cases h
        | some r => obtain ⟨s₂, t₂⟩ := r; rw [hs] at h; rw [stepT_spec hs]; exact topT_of h
def growT : List Obj → Nat → BT → BT
  | [], _, t => t
  | o :: os, n, t => growT os (n + 1) (t.ins n o)
noncomputable def bootT (P : Params) : BT := growT (boot_heap P).objs.toList 0 .nil
noncomputable abbrev P10 : Program := RowW.prog (OpenRow.toRowW Challenge.rw_uf010016_11.row)
noncomputable def b10 : List Stmt := behindTheImports P10
noncomputable def stAt (i : Nat) : Stmt := (b10[i]?).getD (.Pass default)
def stArgs : Stmt → Arguments
  | .FunctionDef _ a .. => a
  | _ => default
def stBody : Stmt → List Stmt
  | .FunctionDef _ _ b .. => b
  | .ClassDef _ _ _ b .. => b
  | _ => default
def stScope : Stmt → Scope
  | .FunctionDef _ _ _ _ _ _ s .. => s
  | _ => default
noncomputable def mtAt (i j : Nat) : Stmt := ((stBody (stAt i))[j]?).getD (.Pass default)
noncomputable def env10 : Env := { scope := P10.main.scope, locals := mainNs, globals := mainNs, cells := [], code := .ref 13, frame := some 14 }
noncomputable def c10 : Code := .body b10 env10
def pos0 : Pos := { line := 0, col := 0, endLine := 0, endCol := 0 }
def shT (l : List Obj) (n k : Nat) (os : OsState) : SharedT := ⟨growT l 0 .nil, n, {}, #[], {}, k, os⟩
def vs (s : String) (n : Nat) : Value := .str (Str.ofString s) n
noncomputable def fnO (n q : String) (st : Stmt) : Obj := { cls := .none, data := .func { name := Str.ofString n, qualname := Str.ofString q, params := stArgs st, body := FuncBody.stmts (stBody st), scope := stScope st, globals := 0, closure := [], defaults := .none, kwdefaults := .none } }
def tuO (a : Array Value) : Obj := { cls := .type "tuple", data := .seq a }
def coO (a : Array Value) : Obj := { cls := .type "code", data := .fields a }
abbrev cut : String := "/claim/cut.py"
abbrev sm {α : Type} (a : α) : Option α := some a
abbrev nn {α : Type} : Option α := none
abbrev tt : Bool := true
abbrev ff : Bool := false
noncomputable def de (P : Params) (k : String) (n : Nat) (v : Value) : DictEntry := ⟨PyData.keyHash P (Str.ofString k), .str (Str.ofString k) n, v⟩
theorem o1 : opening P10 = plainProg P10.main.scope.names := by kernel_rfl
theorem o2 : ∀ s, fenceModules? P10 s = some s := by intro s; kernel_rfl
theorem sz10 (w : World) : ((boot_heap w.params).isNs mainGlobals && (Array.mk ([] : List GenState)).size == 0, (boot_heap w.params).objs.size, (boot_heap w.params).nsMap mainGlobals "__annotations__") = (true, 11, some (.ref 6)) := by kernel_rfl
noncomputable def SA (P : Params) : List Obj := [boot_o_0 P,boot_o_1 P,boot_o_2 P,boot_o_3 P,boot_o_4 P,boot_o_5 P,boot_o_6 P,boot_o_7 P,boot_o_8 P,boot_o_9 P,boot_o_10 P,tuO #[],{ cls := .none, data := .fields #[] },coO #[vs "<module>" 182, vs "<module>" 183, vs cut 184, .int 1 0, .int 0 0, .int 0 0, .int 0 0, .int 0 0, .ref 11, .bool ff, .int 181 0, .ref 12, .none, .none, .none, .none, .int 185 0, .int 1 0, vs cut 186],{ cls := .type "frame", slots := #[sm (.ref 13), sm (.ref 3), sm (.ref 3), nn, sm (vs "__main__" 164), nn, sm (.ref 0)] }]
noncomputable def M9 (P : Params) : List Obj := [tuO #[],{ cls := .none, data := .fields #[] },tuO #[vs "k" 190],tuO #[],fnO "_wall" "_wall" (stAt 0),coO #[vs "_wall" 187, vs "_wall" 188, vs cut 189, .int 1 0, .int 1 0, .int 0 0, .int 0 0, .int 3 0, .ref 15, .bool tt, .int 181 0, .ref 16, .none, .ref 17, .ref 18, .ref 19, .int 191 0, .int 1 0, vs cut 192],{ cls := .type "function", data := .func { name := Str.ofString "_wall", qualname := Str.ofString "_wall", params := stArgs (stAt 0), body := FuncBody.stmts (stBody (stAt 0)), scope := stScope (stAt 0), globals := 3, closure := [], defaults := .none, kwdefaults := .none, pyModule := vs "__main__" 164, code := .ref 20 } },tuO #[.type "ValueError"],{ cls := .type "builtin_function_or_method", data := .fields #[.builtin "type.__prepare__", .type "type"] },{ cls := .type "dict", data := .dict #[de P "__module__" 203 (vs "freehour.errors" 194), de P "__qualname__" 205 (vs "HourError" 204), de P "__firstlineno__" 207 (.int 5 206), de P "__static_attributes__" 208 (.ref 29)] 4 },tuO #[],{ cls := .none, data := .fields #[] },coO #[vs "HourError" 198, vs "HourError" 199, vs cut 200, .int 5 0, .int 0 0, .int 0 0, .int 0 0, .int 0 0, .ref 25, .bool ff, .int 181 0, .ref 26, .none, .none, .none, .none, .int 201 0, .int 5 0, vs cut 202],{ cls := .type "frame", slots := #[sm (.ref 27), sm (.ref 3), sm (.ref 24), nn, sm (vs "freehour.errors" 194), nn, sm (.ref 0)] },tuO #[],{ cls := .type "dict", data := .dict #[de P "__module__" 203 (vs "freehour.errors" 194), de P "__firstlineno__" 207 (.int 5 206), de P "__static_attributes__" 208 (.ref 29), de P "__weakref__" 210 (.ref 32), de P "__doc__" 211 (.none)] 3 },{ cls := .type "type", data := .cls { name := Str.ofString "HourError", bases := [.type "ValueError"], mro := [.ref 31, .type "ValueError", .type "Exception", .type "BaseException", .type "object"], ns := 30, qualname := Str.ofString "HourError", subclasses := [.ref 44, .ref 56, .ref 68, .ref 80, .ref 92, .ref 104, .ref 116, .ref 128] }, slots := #[sm (.ref 22), nn, sm (vs "HourError" 196), sm (vs "HourError" 204), sm (.builtin "ValueError.__new__"), sm (.bool tt)] },{ cls := .type "getset_descriptor", data := .fields #[vs "__weakref__" 209, .ref 31, .builtin "ExceptionGroup.__weakref__", .none] },{ cls := .type "super", data := .fields #[.ref 31, .ref 31, .ref 31] },{ cls := .type "builtin_function_or_method", data := .fields #[.builtin "object.__init_subclass__", .ref 31] },tuO #[.ref 31],{ cls := .type "builtin_function_or_method", data := .fields #[.builtin "type.__prepare__", .type "type"] },{ cls := .type "dict", data := .dict #[de P "__module__" 221 (vs "freehour.errors" 194), de P "__qualname__" 223 (vs "NoRule" 222), de P "__firstlineno__" 225 (.int 7 224), de P "__static_attributes__" 226 (.ref 42)] 4 },tuO #[],{ cls := .none, data := .fields #[] },coO #[vs "NoRule" 216, vs "NoRule" 217, vs cut 218, .int 7 0, .int 0 0, .int 0 0, .int 0 0, .int 0 0, .ref 38, .bool ff, .int 181 0, .ref 39, .none, .none, .none, .none, .int 219 0, .int 7 0, vs cut 220],{ cls := .type "frame", slots := #[sm (.ref 40), sm (.ref 3), sm (.ref 37), nn, sm (vs "freehour.errors" 194), nn, sm (.ref 0)] },tuO #[],{ cls := .type "dict", data := .dict #[de P "__module__" 221 (vs "freehour.errors" 194), de P "__firstlineno__" 225 (.int 7 224), de P "__static_attributes__" 226 (.ref 42), de P "__doc__" 227 (.none)] 2 },{ cls := .type "type", data := .cls { name := Str.ofString "NoRule", bases := [.ref 31], mro := [.ref 44, .ref 31, .type "ValueError", .type "Exception", .type "BaseException", .type "object"], ns := 43, qualname := Str.ofString "NoRule" }, slots := #[sm (.ref 35), nn, sm (vs "NoRule" 214), sm (vs "NoRule" 222), sm (.builtin "ValueError.__new__"), sm (.bool tt)] },{ cls := .type "super", data := .fields #[.ref 44, .ref 44, .ref 44] },{ cls := .type "builtin_function_or_method", data := .fields #[.builtin "object.__init_subclass__", .ref 44] },tuO #[.ref 31],{ cls := .type "builtin_function_or_method", data := .fields #[.builtin "type.__prepare__", .type "type"] },{ cls := .type "dict", data := .dict #[de P "__module__" 237 (vs "freehour.errors" 194), de P "__qualname__" 239 (vs "NoName" 238), de P "__firstlineno__" 241 (.int 9 240), de P "__static_attributes__" 242 (.ref 54)] 4 },tuO #[],{ cls := .none, data := .fields #[] },coO #[vs "NoName" 232, vs "NoName" 233, vs cut 234, .int 9 0, .int 0 0, .int 0 0, .int 0 0, .int 0 0, .ref 50, .bool ff, .int 181 0, .ref 51, .none, .none, .none, .none, .int 235 0, .int 9 0, vs cut 236],{ cls := .type "frame", slots := #[sm (.ref 52), sm (.ref 3), sm (.ref 49), nn, sm (vs "freehour.errors" 194), nn, sm (.ref 0)] },tuO #[],{ cls := .type "dict", data := .dict #[de P "__module__" 237 (vs "freehour.errors" 194), de P "__firstlineno__" 241 (.int 9 240), de P "__static_attributes__" 242 (.ref 54), de P "__doc__" 243 (.none)] 2 },{ cls := .type "type", data := .cls { name := Str.ofString "NoName", bases := [.ref 31], mro := [.ref 56, .ref 31, .type "ValueError", .type "Exception", .type "BaseException", .type "object"], ns := 55, qualname := Str.ofString "NoName" }, slots := #[sm (.ref 47), nn, sm (vs "NoName" 230), sm (vs "NoName" 238), sm (.builtin "ValueError.__new__"), sm (.bool tt)] },{ cls := .type "super", data := .fields #[.ref 56, .ref 56, .ref 56] },{ cls := .type "builtin_function_or_method", data := .fields #[.builtin "object.__init_subclass__", .ref 56] },tuO #[.ref 31],{ cls := .type "builtin_function_or_method", data := .fields #[.builtin "type.__prepare__", .type "type"] },{ cls := .type "dict", data := .dict #[de P "__module__" 253 (vs "freehour.errors" 194), de P "__qualname__" 255 (vs "Taken" 254), de P "__firstlineno__" 257 (.int 11 256), de P "__static_attributes__" 258 (.ref 66)] 4 },tuO #[],{ cls := .none, data := .fields #[] },coO #[vs "Taken" 248, vs "Taken" 249, vs cut 250, .int 11 0, .int 0 0, .int 0 0, .int 0 0, .int 0 0, .ref 62, .bool ff, .int 181 0, .ref 63, .none, .none, .none, .none, .int 251 0, .int 11 0, vs cut 252],{ cls := .type "frame", slots := #[sm (.ref 64), sm (.ref 3), sm (.ref 61), nn, sm (vs "freehour.errors" 194), nn, sm (.ref 0)] },tuO #[],{ cls := .type "dict", data := .dict #[de P "__module__" 253 (vs "freehour.errors" 194), de P "__firstlineno__" 257 (.int 11 256), de P "__static_attributes__" 258 (.ref 66), de P "__doc__" 259 (.none)] 2 },{ cls := .type "type", data := .cls { name := Str.ofString "Taken", bases := [.ref 31], mro := [.ref 68, .ref 31, .type "ValueError", .type "Exception", .type "BaseException", .type "object"], ns := 67, qualname := Str.ofString "Taken" }, slots := #[sm (.ref 59), nn, sm (vs "Taken" 246), sm (vs "Taken" 254), sm (.builtin "ValueError.__new__"), sm (.bool tt)] },{ cls := .type "super", data := .fields #[.ref 68, .ref 68, .ref 68] },{ cls := .type "builtin_function_or_method", data := .fields #[.builtin "object.__init_subclass__", .ref 68] },tuO #[.ref 31],{ cls := .type "builtin_function_or_method", data := .fields #[.builtin "type.__prepare__", .type "type"] },{ cls := .type "dict", data := .dict #[de P "__module__" 269 (vs "freehour.errors" 194), de P "__qualname__" 271 (vs "Stranger" 270), de P "__firstlineno__" 273 (.int 13 272), de P "__static_attributes__" 274 (.ref 78)] 4 },tuO #[],{ cls := .none, data := .fields #[] },coO #[vs "Stranger" 264, vs "Stranger" 265, vs cut 266, .int 13 0, .int 0 0, .int 0 0, .int 0 0, .int 0 0, .ref 74, .bool ff, .int 181 0, .ref 75, .none, .none, .none, .none, .int 267 0, .int 13 0, vs cut 268],{ cls := .type "frame", slots := #[sm (.ref 76), sm (.ref 3), sm (.ref 73), nn, sm (vs "freehour.errors" 194), nn, sm (.ref 0)] },tuO #[],{ cls := .type "dict", data := .dict #[de P "__module__" 269 (vs "freehour.errors" 194), de P "__firstlineno__" 273 (.int 13 272), de P "__static_attributes__" 274 (.ref 78), de P "__doc__" 275 (.none)] 2 },{ cls := .type "type", data := .cls { name := Str.ofString "Stranger", bases := [.ref 31], mro := [.ref 80, .ref 31, .type "ValueError", .type "Exception", .type "BaseException", .type "object"], ns := 79, qualname := Str.ofString "Stranger" }, slots := #[sm (.ref 71), nn, sm (vs "Stranger" 262), sm (vs "Stranger" 270), sm (.builtin "ValueError.__new__"), sm (.bool tt)] },{ cls := .type "super", data := .fields #[.ref 80, .ref 80, .ref 80] },{ cls := .type "builtin_function_or_method", data := .fields #[.builtin "object.__init_subclass__", .ref 80] },tuO #[.ref 31],{ cls := .type "builtin_function_or_method", data := .fields #[.builtin "type.__prepare__", .type "type"] },{ cls := .type "dict", data := .dict #[de P "__module__" 285 (vs "freehour.errors" 194), de P "__qualname__" 287 (vs "Twice" 286), de P "__firstlineno__" 289 (.int 15 288), de P "__static_attributes__" 290 (.ref 90)] 4 },tuO #[],{ cls := .none, data := .fields #[] },coO #[vs "Twice" 280, vs "Twice" 281, vs cut 282, .int 15 0, .int 0 0, .int 0 0, .int 0 0, .int 0 0, .ref 86, .bool ff, .int 181 0, .ref 87, .none, .none, .none, .none, .int 283 0, .int 15 0, vs cut 284],{ cls := .type "frame", slots := #[sm (.ref 88), sm (.ref 3), sm (.ref 85), nn, sm (vs "freehour.errors" 194), nn, sm (.ref 0)] },tuO #[],{ cls := .type "dict", data := .dict #[de P "__module__" 285 (vs "freehour.errors" 194), de P "__firstlineno__" 289 (.int 15 288), de P "__static_attributes__" 290 (.ref 90), de P "__doc__" 291 (.none)] 2 },{ cls := .type "type", data := .cls { name := Str.ofString "Twice", bases := [.ref 31], mro := [.ref 92, .ref 31, .type "ValueError", .type "Exception", .type "BaseException", .type "object"], ns := 91, qualname := Str.ofString "Twice" }, slots := #[sm (.ref 83), nn, sm (vs "Twice" 278), sm (vs "Twice" 286), sm (.builtin "ValueError.__new__"), sm (.bool tt)] },{ cls := .type "super", data := .fields #[.ref 92, .ref 92, .ref 92] },{ cls := .type "builtin_function_or_method", data := .fields #[.builtin "object.__init_subclass__", .ref 92] },tuO #[.ref 31],{ cls := .type "builtin_function_or_method", data := .fields #[.builtin "type.__prepare__", .type "type"] },{ cls := .type "dict", data := .dict #[de P "__module__" 301 (vs "freehour.errors" 194), de P "__qualname__" 303 (vs "NoTime" 302), de P "__firstlineno__" 305 (.int 17 304), de P "__static_attributes__" 306 (.ref 102)] 4 },tuO #[],{ cls := .none, data := .fields #[] },coO #[vs "NoTime" 296, vs "NoTime" 297, vs cut 298, .int 17 0, .int 0 0, .int 0 0, .int 0 0, .int 0 0, .ref 98, .bool ff, .int 181 0, .ref 99, .none, .none, .none, .none, .int 299 0, .int 17 0, vs cut 300],{ cls := .type "frame", slots := #[sm (.ref 100), sm (.ref 3), sm (.ref 97), nn, sm (vs "freehour.errors" 194), nn, sm (.ref 0)] },tuO #[],{ cls := .type "dict", data := .dict #[de P "__module__" 301 (vs "freehour.errors" 194), de P "__firstlineno__" 305 (.int 17 304), de P "__static_attributes__" 306 (.ref 102), de P "__doc__" 307 (.none)] 2 },{ cls := .type "type", data := .cls { name := Str.ofString "NoTime", bases := [.ref 31], mro := [.ref 104, .ref 31, .type "ValueError", .type "Exception", .type "BaseException", .type "object"], ns := 103, qualname := Str.ofString "NoTime" }, slots := #[sm (.ref 95), nn, sm (vs "NoTime" 294), sm (vs "NoTime" 302), sm (.builtin "ValueError.__new__"), sm (.bool tt)] },{ cls := .type "super", data := .fields #[.ref 104, .ref 104, .ref 104] },{ cls := .type "builtin_function_or_method", data := .fields #[.builtin "object.__init_subclass__", .ref 104] },tuO #[.ref 31],{ cls := .type "builtin_function_or_method", data := .fields #[.builtin "type.__prepare__", .type "type"] },{ cls := .type "dict", data := .dict #[de P "__module__" 317 (vs "freehour.errors" 194), de P "__qualname__" 319 (vs "NoMeeting" 318), de P "__firstlineno__" 321 (.int 19 320), de P "__static_attributes__" 322 (.ref 114)] 4 },tuO #[],{ cls := .none, data := .fields #[] },coO #[vs "NoMeeting" 312, vs "NoMeeting" 313, vs cut 314, .int 19 0, .int 0 0, .int 0 0, .int 0 0, .int 0 0, .ref 110, .bool ff, .int 181 0, .ref 111, .none, .none, .none, .none, .int 315 0, .int 19 0, vs cut 316],{ cls := .type "frame", slots := #[sm (.ref 112), sm (.ref 3), sm (.ref 109), nn, sm (vs "freehour.errors" 194), nn, sm (.ref 0)] },tuO #[],{ cls := .type "dict", data := .dict #[de P "__module__" 317 (vs "freehour.errors" 194), de P "__firstlineno__" 321 (.int 19 320), de P "__static_attributes__" 322 (.ref 114), de P "__doc__" 323 (.none)] 2 },{ cls := .type "type", data := .cls { name := Str.ofString "NoMeeting", bases := [.ref 31], mro := [.ref 116, .ref 31, .type "ValueError", .type "Exception", .type "BaseException", .type "object"], ns := 115, qualname := Str.ofString "NoMeeting" }, slots := #[sm (.ref 107), nn, sm (vs "NoMeeting" 310), sm (vs "NoMeeting" 318), sm (.builtin "ValueError.__new__"), sm (.bool tt)] },{ cls := .type "super", data := .fields #[.ref 116, .ref 116, .ref 116] },{ cls := .type "builtin_function_or_method", data := .fields #[.builtin "object.__init_subclass__", .ref 116] },tuO #[.ref 31],{ cls := .type "builtin_function_or_method", data := .fields #[.builtin "type.__prepare__", .type "type"] },{ cls := .type "dict", data := .dict #[de P "__module__" 333 (vs "freehour.errors" 194), de P "__qualname__" 335 (vs "Clash" 334), de P "__firstlineno__" 337 (.int 21 336), de P "__static_attributes__" 338 (.ref 126)] 4 },tuO #[],{ cls := .none, data := .fields #[] },coO #[vs "Clash" 328, vs "Clash" 329, vs cut 330, .int 21 0, .int 0 0, .int 0 0, .int 0 0, .int 0 0, .ref 122, .bool ff, .int 181 0, .ref 123, .none, .none, .none, .none, .int 331 0, .int 21 0, vs cut 332],{ cls := .type "frame", slots := #[sm (.ref 124), sm (.ref 3), sm (.ref 121), nn, sm (vs "freehour.errors" 194), nn, sm (.ref 0)] },tuO #[],{ cls := .type "dict", data := .dict #[de P "__module__" 333 (vs "freehour.errors" 194), de P "__firstlineno__" 337 (.int 21 336), de P "__static_attributes__" 338 (.ref 126), de P "__doc__" 339 (.none)] 2 },{ cls := .type "type", data := .cls { name := Str.ofString "Clash", bases := [.ref 31], mro := [.ref 128, .ref 31, .type "ValueError", .type "Exception", .type "BaseException", .type "object"], ns := 127, qualname := Str.ofString "Clash" }, slots := #[sm (.ref 119), nn, sm (vs "Clash" 326), sm (vs "Clash" 334), sm (.builtin "ValueError.__new__"), sm (.bool tt)] },{ cls := .type "super", data := .fields #[.ref 128, .ref 128, .ref 128] },{ cls := .type "builtin_function_or_method", data := .fields #[.builtin "object.__init_subclass__", .ref 128] }]
noncomputable def M42 (P : Params) : List Obj := [tuO #[.int 0 346, .int 366 347, .int 731 348, .int 1096 349],tuO #[.int 31 351, .int 28 352, .int 31 353, .int 30 354, .int 31 355, .int 30 356, .int 31 357, .int 31 358, .int 30 359, .int 31 360, .int 30 361, .int 31 362],tuO #[],{ cls := .none, data := .fields #[] },tuO #[vs "thing" 367],tuO #[],fnO "is_whole" "is_whole" (stAt 15),coO #[vs "is_whole" 364, vs "is_whole" 365, vs cut 366, .int 27 0, .int 1 0, .int 0 0, .int 0 0, .int 3 0, .ref 133, .bool tt, .int 181 0, .ref 134, .none, .ref 135, .ref 136, .ref 137, .int 368 0, .int 27 0, vs cut 369],{ cls := .type "function", data := .func { name := Str.ofString "is_whole", qualname := Str.ofString "is_whole", params := stArgs (stAt 15), body := FuncBody.stmts (stBody (stAt 15)), scope := stScope (stAt 15), globals := 3, closure := [], defaults := .none, kwdefaults := .none, pyModule := vs "freehour.dates" 342, code := .ref 138 } },tuO #[],{ cls := .none, data := .fields #[] },tuO #[vs "year" 374, vs "month" 375],tuO #[],fnO "month_length" "month_length" (stAt 16),coO #[vs "month_length" 371, vs "month_length" 372, vs cut 373, .int 29 0, .int 2 0, .int 0 0, .int 0 0, .int 3 0, .ref 140, .bool tt, .int 181 0, .ref 141, .none, .ref 142, .ref 143, .ref 144, .int 376 0, .int 29 0, vs cut 377],{ cls := .type "function", data := .func { name := Str.ofString "month_length", qualname := Str.ofString "month_length", params := stArgs (stAt 16), body := FuncBody.stmts (stBody (stAt 16)), scope := stScope (stAt 16), globals := 3, closure := [], defaults := .none, kwdefaults := .none, pyModule := vs "freehour.dates" 342, code := .ref 145 } },tuO #[],{ cls := .none, data := .fields #[] },tuO #[vs "day" 382, vs "rest" 383, vs "place" 384, vs "year" 385, vs "month" 386],tuO #[],fnO "date_of" "date_of" (stAt 17),coO #[vs "date_of" 379, vs "date_of" 380, vs cut 381, .int 33 0, .int 1 0, .int 0 0, .int 0 0, .int 3 0, .ref 147, .bool tt, .int 181 0, .ref 148, .none, .ref 149, .ref 150, .ref 151, .int 387 0, .int 33 0, vs cut 388],{ cls := .type "function", data := .func { name := Str.ofString "date_of", qualname := Str.ofString "date_of", params := stArgs (stAt 17), body := FuncBody.stmts (stBody (stAt 17)), scope := stScope (stAt 17), globals := 3, closure := [], defaults := .none, kwdefaults := .none, pyModule := vs "freehour.dates" 342, code := .ref 152 } },tuO #[],{ cls := .none, data := .fields #[] },tuO #[vs "day" 393, vs "date" 394],tuO #[],fnO "from_end" "from_end" (stAt 18),coO #[vs "from_end" 390, vs "from_end" 391, vs cut 392, .int 45 0, .int 1 0, .int 0 0, .int 0 0, .int 3 0, .ref 154, .bool tt, .int 181 0, .ref 155, .none, .ref 156, .ref 157, .ref 158, .int 395 0, .int 45 0, vs cut 396],{ cls := .type "function", data := .func { name := Str.ofString "from_end", qualname := Str.ofString "from_end", params := stArgs (stAt 18), body := FuncBody.stmts (stBody (stAt 18)), scope := stScope (stAt 18), globals := 3, closure := [], defaults := .none, kwdefaults := .none, pyModule := vs "freehour.dates" 342, code := .ref 159 } },tuO #[vs "from" 414, vs "until" 415, vs "also" 416, vs "but" 417],tuO #[],{ cls := .none, data := .fields #[] },tuO #[vs "thing" 422, vs "least" 423, vs "most" 424],tuO #[],fnO "is_between" "is_between" (stAt 26),coO #[vs "is_between" 419, vs "is_between" 420, vs cut 421, .int 55 0, .int 3 0, .int 0 0, .int 0 0, .int 3 0, .ref 162, .bool tt, .int 181 0, .ref 163, .none, .ref 164, .ref 165, .ref 166, .int 425 0, .int 55 0, vs cut 426],{ cls := .type "function", data := .func { name := Str.ofString "is_between", qualname := Str.ofString "is_between", params := stArgs (stAt 26), body := FuncBody.stmts (stBody (stAt 26)), scope := stScope (stAt 26), globals := 3, closure := [], defaults := .none, kwdefaults := .none, pyModule := vs "freehour.rules" 398, code := .ref 167 } },tuO #[],{ cls := .none, data := .fields #[] },tuO #[vs "thing" 431],tuO #[],fnO "is_time" "is_time" (stAt 27),coO #[vs "is_time" 428, vs "is_time" 429, vs cut 430, .int 57 0, .int 1 0, .int 0 0, .int 0 0, .int 3 0, .ref 169, .bool tt, .int 181 0, .ref 170, .none, .ref 171, .ref 172, .ref 173, .int 432 0, .int 57 0, vs cut 433],{ cls := .type "function", data := .func { name := Str.ofString "is_time", qualname := Str.ofString "is_time", params := stArgs (stAt 27), body := FuncBody.stmts (stBody (stAt 27)), scope := stScope (stAt 27), globals := 3, closure := [], defaults := .none, kwdefaults := .none, pyModule := vs "freehour.rules" 398, code := .ref 174 } },tuO #[],{ cls := .none, data := .fields #[] },tuO #[vs "thing" 438, vs "many" 439, vs "most" 440, vs "ahead" 441, vs "number" 442],tuO #[],fnO "are_rising" "are_rising" (stAt 28),coO #[vs "are_rising" 435, vs "are_rising" 436, vs cut 437, .int 59 0, .int 3 0, .int 0 0, .int 0 0, .int 3 0, .ref 176, .bool tt, .int 181 0, .ref 177, .none, .ref 178, .ref 179, .ref 180, .int 443 0, .int 59 0, vs cut 444],{ cls := .type "function", data := .func { name := Str.ofString "are_rising", qualname := Str.ofString "are_rising", params := stArgs (stAt 28), body := FuncBody.stmts (stBody (stAt 28)), scope := stScope (stAt 28), globals := 3, closure := [], defaults := .none, kwdefaults := .none, pyModule := vs "freehour.rules" 398, code := .ref 181 } },tuO #[],{ cls := .none, data := .fields #[] },tuO #[vs "thing" 449, vs "word" 450],tuO #[],fnO "is_plain" "is_plain" (stAt 29),coO #[vs "is_plain" 446, vs "is_plain" 447, vs cut 448, .int 68 0, .int 1 0, .int 0 0, .int 0 0, .int 3 0, .ref 183, .bool tt, .int 181 0, .ref 184, .none, .ref 185, .ref 186, .ref 187, .int 451 0, .int 68 0, vs cut 452],{ cls := .type "function", data := .func { name := Str.ofString "is_plain", qualname := Str.ofString "is_plain", params := stArgs (stAt 29), body := FuncBody.stmts (stBody (stAt 29)), scope := stScope (stAt 29), globals := 3, closure := [], defaults := .none, kwdefaults := .none, pyModule := vs "freehour.rules" 398, code := .ref 188 } },tuO #[],{ cls := .none, data := .fields #[] },tuO #[vs "thing" 457, vs "deep" 458],tuO #[],fnO "is_rule" "is_rule" (stAt 30),coO #[vs "is_rule" 454, vs "is_rule" 455, vs cut 456, .int 81 0, .int 1 0, .int 0 0, .int 0 0, .int 3 0, .ref 190, .bool tt, .int 181 0, .ref 191, .none, .ref 192, .ref 193, .ref 194, .int 459 0, .int 81 0, vs cut 460],{ cls := .type "function", data := .func { name := Str.ofString "is_rule", qualname := Str.ofString "is_rule", params := stArgs (stAt 30), body := FuncBody.stmts (stBody (stAt 30)), scope := stScope (stAt 30), globals := 3, closure := [], defaults := .none, kwdefaults := .none, pyModule := vs "freehour.rules" 398, code := .ref 195 } },tuO #[],{ cls := .none, data := .fields #[] },tuO #[vs "rule" 465],tuO #[],fnO "innermost" "innermost" (stAt 31),coO #[vs "innermost" 462, vs "innermost" 463, vs cut 464, .int 95 0, .int 1 0, .int 0 0, .int 0 0, .int 3 0, .ref 197, .bool tt, .int 181 0, .ref 198, .none, .ref 199, .ref 200, .ref 201, .int 466 0, .int 95 0, vs cut 467],{ cls := .type "function", data := .func { name := Str.ofString "innermost", qualname := Str.ofString "innermost", params := stArgs (stAt 31), body := FuncBody.stmts (stBody (stAt 31)), scope := stScope (stAt 31), globals := 3, closure := [], defaults := .none, kwdefaults := .none, pyModule := vs "freehour.rules" 398, code := .ref 202 } },tuO #[],{ cls := .none, data := .fields #[] },tuO #[vs "rule" 472, vs "inner" 473],tuO #[],fnO "length_of" "length_of" (stAt 32),coO #[vs "length_of" 469, vs "length_of" 470, vs cut 471, .int 99 0, .int 1 0, .int 0 0, .int 0 0, .int 3 0, .ref 204, .bool tt, .int 181 0, .ref 205, .none, .ref 206, .ref 207, .ref 208, .int 474 0, .int 99 0, vs cut 475],{ cls := .type "function", data := .func { name := Str.ofString "length_of", qualname := Str.ofString "length_of", params := stArgs (stAt 32), body := FuncBody.stmts (stBody (stAt 32)), scope := stScope (stAt 32), globals := 3, closure := [], defaults := .none, kwdefaults := .none, pyModule := vs "freehour.rules" 398, code := .ref 209 } },tuO #[],{ cls := .none, data := .fields #[] },tuO #[vs "rule" 480, vs "hour" 481, vs "day" 482],tuO #[],fnO "begins_plain" "begins_plain" (stAt 33),coO #[vs "begins_plain" 477, vs "begins_plain" 478, vs cut 479, .int 104 0, .int 2 0, .int 0 0, .int 0 0, .int 3 0, .ref 211, .bool tt, .int 181 0, .ref 212, .none, .ref 213, .ref 214, .ref 215, .int 483 0, .int 104 0, vs cut 484],{ cls := .type "function", data := .func { name := Str.ofString "begins_plain", qualname := Str.ofString "begins_plain", params := stArgs (stAt 33), body := FuncBody.stmts (stBody (stAt 33)), scope := stScope (stAt 33), globals := 3, closure := [], defaults := .none, kwdefaults := .none, pyModule := vs "freehour.rules" 398, code := .ref 216 } },tuO #[],{ cls := .none, data := .fields #[] },tuO #[vs "rule" 489, vs "hour" 490],tuO #[],fnO "begins" "begins" (stAt 34),coO #[vs "begins" 486, vs "begins" 487, vs cut 488, .int 117 0, .int 2 0, .int 0 0, .int 0 0, .int 3 0, .ref 218, .bool tt, .int 181 0, .ref 219, .none, .ref 220, .ref 221, .ref 222, .int 491 0, .int 117 0, vs cut 492],{ cls := .type "function", data := .func { name := Str.ofString "begins", qualname := Str.ofString "begins", params := stArgs (stAt 34), body := FuncBody.stmts (stBody (stAt 34)), scope := stScope (stAt 34), globals := 3, closure := [], defaults := .none, kwdefaults := .none, pyModule := vs "freehour.rules" 398, code := .ref 223 } },tuO #[],{ cls := .none, data := .fields #[] },tuO #[vs "rule" 497, vs "hour" 498, vs "back" 499],tuO #[],fnO "covers" "covers" (stAt 35),coO #[vs "covers" 494, vs "covers" 495, vs cut 496, .int 131 0, .int 2 0, .int 0 0, .int 0 0, .int 3 0, .ref 225, .bool tt, .int 181 0, .ref 226, .none, .ref 227, .ref 228, .ref 229, .int 500 0, .int 131 0, vs cut 501],{ cls := .type "function", data := .func { name := Str.ofString "covers", qualname := Str.ofString "covers", params := stArgs (stAt 35), body := FuncBody.stmts (stBody (stAt 35)), scope := stScope (stAt 35), globals := 3, closure := [], defaults := .none, kwdefaults := .none, pyModule := vs "freehour.rules" 398, code := .ref 230 } },tuO #[],{ cls := .none, data := .fields #[] },tuO #[vs "thing" 516, vs "sign" 517],tuO #[],fnO "is_name" "is_name" (stAt 41),coO #[vs "is_name" 513, vs "is_name" 514, vs cut 515, .int 143 0, .int 1 0, .int 0 0, .int 0 0, .int 3 0, .ref 232, .bool tt, .int 181 0, .ref 233, .none, .ref 234, .ref 235, .ref 236, .int 518 0, .int 143 0, vs cut 519],{ cls := .type "function", data := .func { name := Str.ofString "is_name", qualname := Str.ofString "is_name", params := stArgs (stAt 41), body := FuncBody.stmts (stBody (stAt 41)), scope := stScope (stAt 41), globals := 3, closure := [], defaults := .none, kwdefaults := .none, pyModule := vs "freehour.book" 503, code := .ref 237 } },tuO #[],{ cls := .none, data := .fields #[] },tuO #[vs "rules" 524, vs "hour" 525, vs "rule" 526],tuO #[],fnO "some_covers" "some_covers" (stAt 42),coO #[vs "some_covers" 521, vs "some_covers" 522, vs cut 523, .int 150 0, .int 2 0, .int 0 0, .int 0 0, .int 3 0, .ref 239, .bool tt, .int 181 0, .ref 240, .none, .ref 241, .ref 242, .ref 243, .int 527 0, .int 150 0, vs cut 528],{ cls := .type "function", data := .func { name := Str.ofString "some_covers", qualname := Str.ofString "some_covers", params := stArgs (stAt 42), body := FuncBody.stmts (stBody (stAt 42)), scope := stScope (stAt 42), globals := 3, closure := [], defaults := .none, kwdefaults := .none, pyModule := vs "freehour.book" 503, code := .ref 244 } },tuO #[],{ cls := .none, data := .fields #[] },tuO #[vs "hours" 533, vs "start" 534, vs "end" 535],tuO #[],fnO "need_stretch" "need_stretch" (stAt 43),coO #[vs "need_stretch" 530, vs "need_stretch" 531, vs cut 532, .int 155 0, .int 3 0, .int 0 0, .int 0 0, .int 3 0, .ref 246, .bool tt, .int 181 0, .ref 247, .none, .ref 248, .ref 249, .ref 250, .int 536 0, .int 155 0, vs cut 537],{ cls := .type "function", data := .func { name := Str.ofString "need_stretch", qualname := Str.ofString "need_stretch", params := stArgs (stAt 43), body := FuncBody.stmts (stBody (stAt 43)), scope := stScope (stAt 43), globals := 3, closure := [], defaults := .none, kwdefaults := .none, pyModule := vs "freehour.book" 503, code := .ref 251 } }]
noncomputable def M67 (P : Params) : List Obj := [tuO #[],{ cls := .type "builtin_function_or_method", data := .fields #[.builtin "type.__prepare__", .type "type"] },{ cls := .type "dict", data := .dict #[de P "__module__" 546 (vs "freehour.book" 503), de P "__qualname__" 548 (vs "Book" 547), de P "__firstlineno__" 550 (.int 160 549), de P "__init__" 557 (.ref 266), de P "come" 567 (.ref 273), de P "need_somebody" 575 (.ref 280), de P "busy" 586 (.ref 287), de P "people" 593 (.ref 294), de P "meets_at" 604 (.ref 301), de P "free_at" 614 (.ref 308), de P "is_free" 623 (.ref 315), de P "need_all" 632 (.ref 322), de P "bar" 646 (.ref 329), de P "look" 660 (.ref 336), de P "first" 671 (.ref 343), de P "meet" 683 (.ref 350), de P "meetings" 690 (.ref 357), de P "place_of" 699 (.ref 364), de P "drop" 708 (.ref 371), de P "move" 721 (.ref 378), de P "rules_of" 729 (.ref 385), de P "quiet_from" 737 (.ref 392), de P "ever" 747 (.ref 399), de P "__static_attributes__" 753 (.ref 400)] 24 },tuO #[],{ cls := .none, data := .fields #[.int 162 0, .int 4 0, .ref 265, .int 169 0, .int 4 0, .ref 272, .int 183 0, .int 4 0, .ref 279, .int 187 0, .int 4 0, .ref 286, .int 198 0, .int 4 0, .ref 293, .int 201 0, .int 4 0, .ref 300, .int 207 0, .int 4 0, .ref 307, .int 212 0, .int 4 0, .ref 314, .int 215 0, .int 4 0, .ref 321, .int 224 0, .int 4 0, .ref 328, .int 232 0, .int 4 0, .ref 335, .int 242 0, .int 4 0, .ref 342, .int 247 0, .int 4 0, .ref 349, .int 255 0, .int 4 0, .ref 356, .int 258 0, .int 4 0, .ref 363, .int 265 0, .int 4 0, .ref 370, .int 269 0, .int 4 0, .ref 377, .int 278 0, .int 4 0, .ref 384, .int 281 0, .int 4 0, .ref 391, .int 284 0, .int 4 0, .ref 398] },coO #[vs "Book" 541, vs "Book" 542, vs cut 543, .int 160 0, .int 0 0, .int 0 0, .int 0 0, .int 0 0, .ref 256, .bool ff, .int 181 0, .ref 257, .none, .none, .none, .none, .int 544 0, .int 160 0, vs cut 545],{ cls := .type "frame", slots := #[sm (.ref 258), sm (.ref 3), sm (.ref 255), nn, sm (vs "freehour.book" 503), nn, sm (.ref 0)] },tuO #[],{ cls := .none, data := .fields #[] },tuO #[vs "self" 554],tuO #[],fnO "__init__" "Book.__init__" (mtAt 44 0),coO #[vs "__init__" 551, vs "Book.__init__" 552, vs cut 553, .int 162 0, .int 1 0, .int 0 0, .int 0 0, .int 3 0, .ref 260, .bool tt, .int 181 0, .ref 261, .none, .ref 262, .ref 263, .ref 264, .int 555 0, .int 162 0, vs cut 556],{ cls := .type "function", data := .func { name := Str.ofString "__init__", qualname := Str.ofString "Book.__init__", params := stArgs (mtAt 44 0), body := FuncBody.stmts (stBody (mtAt 44 0)), scope := stScope (mtAt 44 0), globals := 3, closure := [], defaults := .none, kwdefaults := .none, pyModule := vs "freehour.book" 503, code := .ref 265 } },tuO #[],{ cls := .none, data := .fields #[] },tuO #[vs "self" 561, vs "name" 562, vs "free" 563, vs "rule" 564],tuO #[],fnO "come" "Book.come" (mtAt 44 1),coO #[vs "come" 558, vs "Book.come" 559, vs cut 560, .int 169 0, .int 3 0, .int 0 0, .int 0 0, .int 3 0, .ref 267, .bool tt, .int 181 0, .ref 268, .none, .ref 269, .ref 270, .ref 271, .int 565 0, .int 169 0, vs cut 566],{ cls := .type "function", data := .func { name := Str.ofString "come", qualname := Str.ofString "Book.come", params := stArgs (mtAt 44 1), body := FuncBody.stmts (stBody (mtAt 44 1)), scope := stScope (mtAt 44 1), globals := 3, closure := [], defaults := .none, kwdefaults := .none, pyModule := vs "freehour.book" 503, code := .ref 272 } },tuO #[],{ cls := .none, data := .fields #[] },tuO #[vs "self" 571, vs "name" 572],tuO #[],fnO "need_somebody" "Book.need_somebody" (mtAt 44 2),coO #[vs "need_somebody" 568, vs "Book.need_somebody" 569, vs cut 570, .int 183 0, .int 2 0, .int 0 0, .int 0 0, .int 3 0, .ref 274, .bool tt, .int 181 0, .ref 275, .none, .ref 276, .ref 277, .ref 278, .int 573 0, .int 183 0, vs cut 574],{ cls := .type "function", data := .func { name := Str.ofString "need_somebody", qualname := Str.ofString "Book.need_somebody", params := stArgs (mtAt 44 2), body := FuncBody.stmts (stBody (mtAt 44 2)), scope := stScope (mtAt 44 2), globals := 3, closure := [], defaults := .none, kwdefaults := .none, pyModule := vs "freehour.book" 503, code := .ref 279 } },tuO #[],{ cls := .none, data := .fields #[] },tuO #[vs "self" 579, vs "name" 580, vs "rule" 581, vs "meeting" 582, vs "back" 583],tuO #[],fnO "busy" "Book.busy" (mtAt 44 3),coO #[vs "busy" 576, vs "Book.busy" 577, vs cut 578, .int 187 0, .int 3 0, .int 0 0, .int 0 0, .int 3 0, .ref 281, .bool tt, .int 181 0, .ref 282, .none, .ref 283, .ref 284, .ref 285, .int 584 0, .int 187 0, vs cut 585],{ cls := .type "function", data := .func { name := Str.ofString "busy", qualname := Str.ofString "Book.busy", params := stArgs (mtAt 44 3), body := FuncBody.stmts (stBody (mtAt 44 3)), scope := stScope (mtAt 44 3), globals := 3, closure := [], defaults := .none, kwdefaults := .none, pyModule := vs "freehour.book" 503, code := .ref 286 } },tuO #[],{ cls := .none, data := .fields #[] },tuO #[vs "self" 590],tuO #[],fnO "people" "Book.people" (mtAt 44 4),coO #[vs "people" 587, vs "Book.people" 588, vs cut 589, .int 198 0, .int 1 0, .int 0 0, .int 0 0, .int 3 0, .ref 288, .bool tt, .int 181 0, .ref 289, .none, .ref 290, .ref 291, .ref 292, .int 591 0, .int 198 0, vs cut 592],{ cls := .type "function", data := .func { name := Str.ofString "people", qualname := Str.ofString "Book.people", params := stArgs (mtAt 44 4), body := FuncBody.stmts (stBody (mtAt 44 4)), scope := stScope (mtAt 44 4), globals := 3, closure := [], defaults := .none, kwdefaults := .none, pyModule := vs "freehour.book" 503, code := .ref 293 } },tuO #[],{ cls := .none, data := .fields #[] },tuO #[vs "self" 597, vs "name" 598, vs "hour" 599, vs "but" 600, vs "meeting" 601],tuO #[],fnO "meets_at" "Book.meets_at" (mtAt 44 5),coO #[vs "meets_at" 594, vs "Book.meets_at" 595, vs cut 596, .int 201 0, .int 4 0, .int 0 0, .int 0 0, .int 3 0, .ref 295, .bool tt, .int 181 0, .ref 296, .none, .ref 297, .ref 298, .ref 299, .int 602 0, .int 201 0, vs cut 603],{ cls := .type "function", data := .func { name := Str.ofString "meets_at", qualname := Str.ofString "Book.meets_at", params := stArgs (mtAt 44 5), body := FuncBody.stmts (stBody (mtAt 44 5)), scope := stScope (mtAt 44 5), globals := 3, closure := [], defaults := .none, kwdefaults := .none, pyModule := vs "freehour.book" 503, code := .ref 300 } },tuO #[],{ cls := .none, data := .fields #[] },tuO #[vs "self" 608, vs "name" 609, vs "hour" 610, vs "but" 611],tuO #[],fnO "free_at" "Book.free_at" (mtAt 44 6),coO #[vs "free_at" 605, vs "Book.free_at" 606, vs cut 607, .int 207 0, .int 4 0, .int 0 0, .int 0 0, .int 3 0, .ref 302, .bool tt, .int 181 0, .ref 303, .none, .ref 304, .ref 305, .ref 306, .int 612 0, .int 207 0, vs cut 613],{ cls := .type "function", data := .func { name := Str.ofString "free_at", qualname := Str.ofString "Book.free_at", params := stArgs (mtAt 44 6), body := FuncBody.stmts (stBody (mtAt 44 6)), scope := stScope (mtAt 44 6), globals := 3, closure := [], defaults := .none, kwdefaults := .none, pyModule := vs "freehour.book" 503, code := .ref 307 } },tuO #[],{ cls := .none, data := .fields #[] },tuO #[vs "self" 618, vs "name" 619, vs "hour" 620],tuO #[],fnO "is_free" "Book.is_free" (mtAt 44 7),coO #[vs "is_free" 615, vs "Book.is_free" 616, vs cut 617, .int 212 0, .int 3 0, .int 0 0, .int 0 0, .int 3 0, .ref 309, .bool tt, .int 181 0, .ref 310, .none, .ref 311, .ref 312, .ref 313, .int 621 0, .int 212 0, vs cut 622],{ cls := .type "function", data := .func { name := Str.ofString "is_free", qualname := Str.ofString "Book.is_free", params := stArgs (mtAt 44 7), body := FuncBody.stmts (stBody (mtAt 44 7)), scope := stScope (mtAt 44 7), globals := 3, closure := [], defaults := .none, kwdefaults := .none, pyModule := vs "freehour.book" 503, code := .ref 314 } },tuO #[],{ cls := .none, data := .fields #[] },tuO #[vs "self" 627, vs "names" 628, vs "name" 629],tuO #[],fnO "need_all" "Book.need_all" (mtAt 44 8),coO #[vs "need_all" 624, vs "Book.need_all" 625, vs cut 626, .int 215 0, .int 2 0, .int 0 0, .int 0 0, .int 3 0, .ref 316, .bool tt, .int 181 0, .ref 317, .none, .ref 318, .ref 319, .ref 320, .int 630 0, .int 215 0, vs cut 631],{ cls := .type "function", data := .func { name := Str.ofString "need_all", qualname := Str.ofString "Book.need_all", params := stArgs (mtAt 44 8), body := FuncBody.stmts (stBody (mtAt 44 8)), scope := stScope (mtAt 44 8), globals := 3, closure := [], defaults := .none, kwdefaults := .none, pyModule := vs "freehour.book" 503, code := .ref 321 } },tuO #[],{ cls := .none, data := .fields #[] },tuO #[vs "self" 636, vs "names" 637, vs "hours" 638, vs "at" 639, vs "but" 640, vs "back" 641, vs "hour" 642, vs "name" 643],tuO #[],fnO "bar" "Book.bar" (mtAt 44 9),coO #[vs "bar" 633, vs "Book.bar" 634, vs cut 635, .int 224 0, .int 5 0, .int 0 0, .int 0 0, .int 3 0, .ref 323, .bool tt, .int 181 0, .ref 324, .none, .ref 325, .ref 326, .ref 327, .int 644 0, .int 224 0, vs cut 645],{ cls := .type "function", data := .func { name := Str.ofString "bar", qualname := Str.ofString "Book.bar", params := stArgs (mtAt 44 9), body := FuncBody.stmts (stBody (mtAt 44 9)), scope := stScope (mtAt 44 9), globals := 3, closure := [], defaults := .none, kwdefaults := .none, pyModule := vs "freehour.book" 503, code := .ref 328 } },tuO #[],{ cls := .none, data := .fields #[] },tuO #[vs "self" 650, vs "names" 651, vs "hours" 652, vs "at" 653, vs "last" 654, vs "but" 655, vs "rows" 656, vs "found" 657],tuO #[],fnO "look" "Book.look" (mtAt 44 10),coO #[vs "look" 647, vs "Book.look" 648, vs cut 649, .int 232 0, .int 6 0, .int 0 0, .int 0 0, .int 3 0, .ref 330, .bool tt, .int 181 0, .ref 331, .none, .ref 332, .ref 333, .ref 334, .int 658 0, .int 232 0, vs cut 659],{ cls := .type "function", data := .func { name := Str.ofString "look", qualname := Str.ofString "Book.look", params := stArgs (mtAt 44 10), body := FuncBody.stmts (stBody (mtAt 44 10)), scope := stScope (mtAt 44 10), globals := 3, closure := [], defaults := .none, kwdefaults := .none, pyModule := vs "freehour.book" 503, code := .ref 335 } },tuO #[],{ cls := .none, data := .fields #[] },tuO #[vs "self" 664, vs "names" 665, vs "hours" 666, vs "start" 667, vs "end" 668],tuO #[],fnO "first" "Book.first" (mtAt 44 11),coO #[vs "first" 661, vs "Book.first" 662, vs cut 663, .int 242 0, .int 5 0, .int 0 0, .int 0 0, .int 3 0, .ref 337, .bool tt, .int 181 0, .ref 338, .none, .ref 339, .ref 340, .ref 341, .int 669 0, .int 242 0, vs cut 670],{ cls := .type "function", data := .func { name := Str.ofString "first", qualname := Str.ofString "Book.first", params := stArgs (mtAt 44 11), body := FuncBody.stmts (stBody (mtAt 44 11)), scope := stScope (mtAt 44 11), globals := 3, closure := [], defaults := .none, kwdefaults := .none, pyModule := vs "freehour.book" 503, code := .ref 342 } },tuO #[],{ cls := .none, data := .fields #[] },tuO #[vs "self" 675, vs "names" 676, vs "hours" 677, vs "start" 678, vs "end" 679, vs "hour" 680],tuO #[],fnO "meet" "Book.meet" (mtAt 44 12),coO #[vs "meet" 672, vs "Book.meet" 673, vs cut 674, .int 247 0, .int 5 0, .int 0 0, .int 0 0, .int 3 0, .ref 344, .bool tt, .int 181 0, .ref 345, .none, .ref 346, .ref 347, .ref 348, .int 681 0, .int 247 0, vs cut 682],{ cls := .type "function", data := .func { name := Str.ofString "meet", qualname := Str.ofString "Book.meet", params := stArgs (mtAt 44 12), body := FuncBody.stmts (stBody (mtAt 44 12)), scope := stScope (mtAt 44 12), globals := 3, closure := [], defaults := .none, kwdefaults := .none, pyModule := vs "freehour.book" 503, code := .ref 349 } },tuO #[],{ cls := .none, data := .fields #[] },tuO #[vs "self" 687],tuO #[],fnO "meetings" "Book.meetings" (mtAt 44 13),coO #[vs "meetings" 684, vs "Book.meetings" 685, vs cut 686, .int 255 0, .int 1 0, .int 0 0, .int 0 0, .int 3 0, .ref 351, .bool tt, .int 181 0, .ref 352, .none, .ref 353, .ref 354, .ref 355, .int 688 0, .int 255 0, vs cut 689],{ cls := .type "function", data := .func { name := Str.ofString "meetings", qualname := Str.ofString "Book.meetings", params := stArgs (mtAt 44 13), body := FuncBody.stmts (stBody (mtAt 44 13)), scope := stScope (mtAt 44 13), globals := 3, closure := [], defaults := .none, kwdefaults := .none, pyModule := vs "freehour.book" 503, code := .ref 356 } },tuO #[],{ cls := .none, data := .fields #[] },tuO #[vs "self" 694, vs "number" 695, vs "place" 696],tuO #[],fnO "place_of" "Book.place_of" (mtAt 44 14),coO #[vs "place_of" 691, vs "Book.place_of" 692, vs cut 693, .int 258 0, .int 2 0, .int 0 0, .int 0 0, .int 3 0, .ref 358, .bool tt, .int 181 0, .ref 359, .none, .ref 360, .ref 361, .ref 362, .int 697 0, .int 258 0, vs cut 698],{ cls := .type "function", data := .func { name := Str.ofString "place_of", qualname := Str.ofString "Book.place_of", params := stArgs (mtAt 44 14), body := FuncBody.stmts (stBody (mtAt 44 14)), scope := stScope (mtAt 44 14), globals := 3, closure := [], defaults := .none, kwdefaults := .none, pyModule := vs "freehour.book" 503, code := .ref 363 } },tuO #[],{ cls := .none, data := .fields #[] },tuO #[vs "self" 703, vs "number" 704, vs "place" 705],tuO #[],fnO "drop" "Book.drop" (mtAt 44 15),coO #[vs "drop" 700, vs "Book.drop" 701, vs cut 702, .int 265 0, .int 2 0, .int 0 0, .int 0 0, .int 3 0, .ref 365, .bool tt, .int 181 0, .ref 366, .none, .ref 367, .ref 368, .ref 369, .int 706 0, .int 265 0, vs cut 707],{ cls := .type "function", data := .func { name := Str.ofString "drop", qualname := Str.ofString "Book.drop", params := stArgs (mtAt 44 15), body := FuncBody.stmts (stBody (mtAt 44 15)), scope := stScope (mtAt 44 15), globals := 3, closure := [], defaults := .none, kwdefaults := .none, pyModule := vs "freehour.book" 503, code := .ref 370 } },tuO #[],{ cls := .none, data := .fields #[] },tuO #[vs "self" 712, vs "number" 713, vs "start" 714, vs "end" 715, vs "place" 716, vs "meeting" 717, vs "hour" 718],tuO #[],fnO "move" "Book.move" (mtAt 44 16),coO #[vs "move" 709, vs "Book.move" 710, vs cut 711, .int 269 0, .int 4 0, .int 0 0, .int 0 0, .int 3 0, .ref 372, .bool tt, .int 181 0, .ref 373, .none, .ref 374, .ref 375, .ref 376, .int 719 0, .int 269 0, vs cut 720],{ cls := .type "function", data := .func { name := Str.ofString "move", qualname := Str.ofString "Book.move", params := stArgs (mtAt 44 16), body := FuncBody.stmts (stBody (mtAt 44 16)), scope := stScope (mtAt 44 16), globals := 3, closure := [], defaults := .none, kwdefaults := .none, pyModule := vs "freehour.book" 503, code := .ref 377 } },tuO #[],{ cls := .none, data := .fields #[] },tuO #[vs "self" 725, vs "names" 726],tuO #[],fnO "rules_of" "Book.rules_of" (mtAt 44 17),coO #[vs "rules_of" 722, vs "Book.rules_of" 723, vs cut 724, .int 278 0, .int 2 0, .int 0 0, .int 0 0, .int 3 0, .ref 379, .bool tt, .int 181 0, .ref 380, .none, .ref 381, .ref 382, .ref 383, .int 727 0, .int 278 0, vs cut 728],{ cls := .type "function", data := .func { name := Str.ofString "rules_of", qualname := Str.ofString "Book.rules_of", params := stArgs (mtAt 44 17), body := FuncBody.stmts (stBody (mtAt 44 17)), scope := stScope (mtAt 44 17), globals := 3, closure := [], defaults := .none, kwdefaults := .none, pyModule := vs "freehour.book" 503, code := .ref 384 } },tuO #[],{ cls := .none, data := .fields #[] },tuO #[vs "self" 733, vs "names" 734],tuO #[],fnO "quiet_from" "Book.quiet_from" (mtAt 44 18),coO #[vs "quiet_from" 730, vs "Book.quiet_from" 731, vs cut 732, .int 281 0, .int 2 0, .int 0 0, .int 0 0, .int 3 0, .ref 386, .bool tt, .int 181 0, .ref 387, .none, .ref 388, .ref 389, .ref 390, .int 735 0, .int 281 0, vs cut 736],{ cls := .type "function", data := .func { name := Str.ofString "quiet_from", qualname := Str.ofString "Book.quiet_from", params := stArgs (mtAt 44 18), body := FuncBody.stmts (stBody (mtAt 44 18)), scope := stScope (mtAt 44 18), globals := 3, closure := [], defaults := .none, kwdefaults := .none, pyModule := vs "freehour.book" 503, code := .ref 391 } },tuO #[],{ cls := .none, data := .fields #[] },tuO #[vs "self" 741, vs "names" 742, vs "hours" 743, vs "start" 744],tuO #[],fnO "ever" "Book.ever" (mtAt 44 19),coO #[vs "ever" 738, vs "Book.ever" 739, vs cut 740, .int 284 0, .int 4 0, .int 0 0, .int 0 0, .int 3 0, .ref 393, .bool tt, .int 181 0, .ref 394, .none, .ref 395, .ref 396, .ref 397, .int 745 0, .int 284 0, vs cut 746],{ cls := .type "function", data := .func { name := Str.ofString "ever", qualname := Str.ofString "Book.ever", params := stArgs (mtAt 44 19), body := FuncBody.stmts (stBody (mtAt 44 19)), scope := stScope (mtAt 44 19), globals := 3, closure := [], defaults := .none, kwdefaults := .none, pyModule := vs "freehour.book" 503, code := .ref 398 } },tuO #[vs "busy_rules" 748, vs "free_rules" 749, vs "given" 750, vs "held" 751, vs "names" 752],{ cls := .type "dict", data := .dict #[de P "__module__" 546 (vs "freehour.book" 503), de P "__firstlineno__" 550 (.int 160 549), de P "__init__" 557 (.ref 266), de P "come" 567 (.ref 273), de P "need_somebody" 575 (.ref 280), de P "busy" 586 (.ref 287), de P "people" 593 (.ref 294), de P "meets_at" 604 (.ref 301), de P "free_at" 614 (.ref 308), de P "is_free" 623 (.ref 315), de P "need_all" 632 (.ref 322), de P "bar" 646 (.ref 329), de P "look" 660 (.ref 336), de P "first" 671 (.ref 343), de P "meet" 683 (.ref 350), de P "meetings" 690 (.ref 357), de P "place_of" 699 (.ref 364), de P "drop" 708 (.ref 371), de P "move" 721 (.ref 378), de P "rules_of" 729 (.ref 385), de P "quiet_from" 737 (.ref 392), de P "ever" 747 (.ref 399), de P "__static_attributes__" 753 (.ref 400), de P "__dict__" 755 (.ref 403), de P "__weakref__" 757 (.ref 404), de P "__doc__" 758 (.none)] 4 },{ cls := .type "type", data := .cls { name := Str.ofString "Book", bases := [.type "object"], mro := [.ref 402, .type "object"], ns := 401, qualname := Str.ofString "Book" }, slots := #[nn, nn, sm (vs "Book" 539), sm (vs "Book" 547), sm (.builtin "object.__new__"), sm (.bool tt)] },{ cls := .type "getset_descriptor", data := .fields #[vs "__dict__" 754, .ref 402, .builtin "function.__dict__", .builtin "function.__dict__#set"] },{ cls := .type "getset_descriptor", data := .fields #[vs "__weakref__" 756, .ref 402, .builtin "ExceptionGroup.__weakref__", .none] },{ cls := .type "super", data := .fields #[.ref 402, .ref 402, .ref 402] },{ cls := .type "builtin_function_or_method", data := .fields #[.builtin "object.__init_subclass__", .ref 402] },tuO #[],{ cls := .none, data := .fields #[] },tuO #[vs "_law_script" 766, vs "_law_k" 767],tuO #[],fnO "_law_cell_at" "_law_cell_at" (stAt 46),coO #[vs "_law_cell_at" 763, vs "_law_cell_at" 764, vs cut 765, .int 287 0, .int 2 0, .int 0 0, .int 0 0, .int 3 0, .ref 407, .bool tt, .int 181 0, .ref 408, .none, .ref 409, .ref 410, .ref 411, .int 768 0, .int 287 0, vs cut 769],{ cls := .type "function", data := .func { name := Str.ofString "_law_cell_at", qualname := Str.ofString "_law_cell_at", params := stArgs (stAt 46), body := FuncBody.stmts (stBody (stAt 46)), scope := stScope (stAt 46), globals := 3, closure := [], defaults := .none, kwdefaults := .none, pyModule := vs "law_uf010016_11" 761, code := .ref 412 } },tuO #[],{ cls := .none, data := .fields #[] },tuO #[vs "_law_found" 774],tuO #[],fnO "_law_whole" "_law_whole" (stAt 47),coO #[vs "_law_whole" 771, vs "_law_whole" 772, vs cut 773, .int 291 0, .int 1 0, .int 0 0, .int 0 0, .int 3 0, .ref 414, .bool tt, .int 181 0, .ref 415, .none, .ref 416, .ref 417, .ref 418, .int 775 0, .int 291 0, vs cut 776],{ cls := .type "function", data := .func { name := Str.ofString "_law_whole", qualname := Str.ofString "_law_whole", params := stArgs (stAt 47), body := FuncBody.stmts (stBody (stAt 47)), scope := stScope (stAt 47), globals := 3, closure := [], defaults := .none, kwdefaults := .none, pyModule := vs "law_uf010016_11" 761, code := .ref 419 } },tuO #[],{ cls := .none, data := .fields #[] },tuO #[vs "_law_year" 781, vs "_law_month" 782, vs "_law_sizes" 783],tuO #[],fnO "_law_days" "_law_days" (stAt 48),coO #[vs "_law_days" 778, vs "_law_days" 779, vs cut 780, .int 293 0, .int 2 0, .int 0 0, .int 0 0, .int 3 0, .ref 421, .bool tt, .int 181 0, .ref 422, .none, .ref 423, .ref 424, .ref 425, .int 784 0, .int 293 0, vs cut 785],{ cls := .type "function", data := .func { name := Str.ofString "_law_days", qualname := Str.ofString "_law_days", params := stArgs (stAt 48), body := FuncBody.stmts (stBody (stAt 48)), scope := stScope (stAt 48), globals := 3, closure := [], defaults := .none, kwdefaults := .none, pyModule := vs "law_uf010016_11" 761, code := .ref 426 } },tuO #[],{ cls := .none, data := .fields #[] },tuO #[vs "_law_day" 790, vs "_law_rest" 791, vs "_law_year" 792, vs "_law_month" 793],tuO #[],fnO "_law_in_month" "_law_in_month" (stAt 49),coO #[vs "_law_in_month" 787, vs "_law_in_month" 788, vs cut 789, .int 296 0, .int 1 0, .int 0 0, .int 0 0, .int 3 0, .ref 428, .bool tt, .int 181 0, .ref 429, .none, .ref 430, .ref 431, .ref 432, .int 794 0, .int 296 0, vs cut 795],{ cls := .type "function", data := .func { name := Str.ofString "_law_in_month", qualname := Str.ofString "_law_in_month", params := stArgs (stAt 49), body := FuncBody.stmts (stBody (stAt 49)), scope := stScope (stAt 49), globals := 3, closure := [], defaults := .none, kwdefaults := .none, pyModule := vs "law_uf010016_11" 761, code := .ref 433 } },tuO #[],{ cls := .none, data := .fields #[] },tuO #[vs "_law_rule" 800, vs "_law_hour" 801],tuO #[],fnO "_law_plain_begins" "_law_plain_begins" (stAt 50),coO #[vs "_law_plain_begins" 797, vs "_law_plain_begins" 798, vs cut 799, .int 305 0, .int 2 0, .int 0 0, .int 0 0, .int 3 0, .ref 435, .bool tt, .int 181 0, .ref 436, .none, .ref 437, .ref 438, .ref 439, .int 802 0, .int 305 0, vs cut 803],{ cls := .type "function", data := .func { name := Str.ofString "_law_plain_begins", qualname := Str.ofString "_law_plain_begins", params := stArgs (stAt 50), body := FuncBody.stmts (stBody (stAt 50)), scope := stScope (stAt 50), globals := 3, closure := [], defaults := .none, kwdefaults := .none, pyModule := vs "law_uf010016_11" 761, code := .ref 440 } },tuO #[],{ cls := .none, data := .fields #[] },tuO #[],tuO #[],fnO "_law_bearing" "_law_bearing" (stAt 51),coO #[vs "_law_bearing" 805, vs "_law_bearing" 806, vs cut 807, .int 315 0, .int 0 0, .int 0 0, .int 0 0, .int 3 0, .ref 442, .bool tt, .int 181 0, .ref 443, .none, .ref 444, .ref 445, .ref 446, .int 808 0, .int 315 0, vs cut 809],{ cls := .type "function", data := .func { name := Str.ofString "_law_bearing", qualname := Str.ofString "_law_bearing", params := stArgs (stAt 51), body := FuncBody.stmts (stBody (stAt 51)), scope := stScope (stAt 51), globals := 3, closure := [], defaults := .none, kwdefaults := .none, pyModule := vs "law_uf010016_11" 761, code := .ref 447 } },tuO #[],{ cls := .none, data := .fields #[] },tuO #[vs "_law_rule" 814, vs "_law_heads_here" 815],tuO #[],fnO "_law_heads" "_law_heads" (stAt 52),coO #[vs "_law_heads" 811, vs "_law_heads" 812, vs cut 813, .int 317 0, .int 1 0, .int 0 0, .int 0 0, .int 3 0, .ref 449, .bool tt, .int 181 0, .ref 450, .none, .ref 451, .ref 452, .ref 453, .int 816 0, .int 317 0, vs cut 817],{ cls := .type "function", data := .func { name := Str.ofString "_law_heads", qualname := Str.ofString "_law_heads", params := stArgs (stAt 52), body := FuncBody.stmts (stBody (stAt 52)), scope := stScope (stAt 52), globals := 3, closure := [], defaults := .none, kwdefaults := .none, pyModule := vs "law_uf010016_11" 761, code := .ref 454 } },tuO #[],{ cls := .none, data := .fields #[] },tuO #[vs "_law_rule" 822, vs "_law_hour" 823, vs "_law_heads_here" 824, vs "_law_due" 825, vs "_law_head" 826],tuO #[],fnO "_law_begun" "_law_begun" (stAt 53),coO #[vs "_law_begun" 819, vs "_law_begun" 820, vs cut 821, .int 323 0, .int 2 0, .int 0 0, .int 0 0, .int 3 0, .ref 456, .bool tt, .int 181 0, .ref 457, .none, .ref 458, .ref 459, .ref 460, .int 827 0, .int 323 0, vs cut 828],{ cls := .type "function", data := .func { name := Str.ofString "_law_begun", qualname := Str.ofString "_law_begun", params := stArgs (stAt 53), body := FuncBody.stmts (stBody (stAt 53)), scope := stScope (stAt 53), globals := 3, closure := [], defaults := .none, kwdefaults := .none, pyModule := vs "law_uf010016_11" 761, code := .ref 461 } },tuO #[],{ cls := .none, data := .fields #[] },tuO #[vs "_law_rule" 833, vs "_law_plain" 834],tuO #[],fnO "_law_size" "_law_size" (stAt 54),coO #[vs "_law_size" 830, vs "_law_size" 831, vs cut 832, .int 336 0, .int 1 0, .int 0 0, .int 0 0, .int 3 0, .ref 463, .bool tt, .int 181 0, .ref 464, .none, .ref 465, .ref 466, .ref 467, .int 835 0, .int 336 0, vs cut 836],{ cls := .type "function", data := .func { name := Str.ofString "_law_size", qualname := Str.ofString "_law_size", params := stArgs (stAt 54), body := FuncBody.stmts (stBody (stAt 54)), scope := stScope (stAt 54), globals := 3, closure := [], defaults := .none, kwdefaults := .none, pyModule := vs "law_uf010016_11" 761, code := .ref 468 } },tuO #[],{ cls := .none, data := .fields #[] },tuO #[vs "_law_bits" 841, vs "_law_days_here" 842, vs "_law_k" 843],tuO #[],fnO "_law_weekdays" "_law_weekdays" (stAt 55),coO #[vs "_law_weekdays" 838, vs "_law_weekdays" 839, vs cut 840, .int 341 0, .int 1 0, .int 0 0, .int 0 0, .int 3 0, .ref 470, .bool tt, .int 181 0, .ref 471, .none, .ref 472, .ref 473, .ref 474, .int 844 0, .int 341 0, vs cut 845],{ cls := .type "function", data := .func { name := Str.ofString "_law_weekdays", qualname := Str.ofString "_law_weekdays", params := stArgs (stAt 55), body := FuncBody.stmts (stBody (stAt 55)), scope := stScope (stAt 55), globals := 3, closure := [], defaults := .none, kwdefaults := .none, pyModule := vs "law_uf010016_11" 761, code := .ref 475 } },tuO #[],{ cls := .none, data := .fields #[] },tuO #[vs "_law_cells" 850, vs "_law_far_here" 851, vs "_law_most" 852, vs "_law_kind" 853, vs "_law_size_here" 854, vs "_law_hour" 855, vs "_law_day" 856],tuO #[],fnO "_law_plain_by" "_law_plain_by" (stAt 56),coO #[vs "_law_plain_by" 847, vs "_law_plain_by" 848, vs cut 849, .int 348 0, .int 3 0, .int 0 0, .int 0 0, .int 3 0, .ref 477, .bool tt, .int 181 0, .ref 478, .none, .ref 479, .ref 480, .ref 481, .int 857 0, .int 348 0, vs cut 858],{ cls := .type "function", data := .func { name := Str.ofString "_law_plain_by", qualname := Str.ofString "_law_plain_by", params := stArgs (stAt 56), body := FuncBody.stmts (stBody (stAt 56)), scope := stScope (stAt 56), globals := 3, closure := [], defaults := .none, kwdefaults := .none, pyModule := vs "law_uf010016_11" 761, code := .ref 482 } },tuO #[],{ cls := .none, data := .fields #[] },fnO "_law_head_by" "_law_head_by" (stAt 57),coO #[vs "_law_head_by" 860, vs "_law_head_by" 861, vs cut 862, .int 362 0, .int 3 0, .int 0 0, .int 0 0, .int 3 0, .ref 484, .bool tt, .int 181 0, .ref 485, .none, .none, .none, .ref 486, .int 863 0, .int 362 0, vs cut 864],{ cls := .type "function", data := .func { name := Str.ofString "_law_head_by", qualname := Str.ofString "_law_head_by", params := stArgs (stAt 57), body := FuncBody.stmts (stBody (stAt 57)), scope := stScope (stAt 57), globals := 3, closure := [], defaults := .none, kwdefaults := .none, pyModule := vs "law_uf010016_11" 761, code := .ref 487 } },tuO #[],{ cls := .none, data := .fields #[] },tuO #[vs "_law_cell" 869],tuO #[],fnO "_law_far" "_law_far" (stAt 58),coO #[vs "_law_far" 866, vs "_law_far" 867, vs cut 868, .int 369 0, .int 1 0, .int 0 0, .int 0 0, .int 3 0, .ref 489, .bool tt, .int 181 0, .ref 490, .none, .ref 491, .ref 492, .ref 493, .int 870 0, .int 369 0, vs cut 871],{ cls := .type "function", data := .func { name := Str.ofString "_law_far", qualname := Str.ofString "_law_far", params := stArgs (stAt 58), body := FuncBody.stmts (stBody (stAt 58)), scope := stScope (stAt 58), globals := 3, closure := [], defaults := .none, kwdefaults := .none, pyModule := vs "law_uf010016_11" 761, code := .ref 494 } },tuO #[],{ cls := .none, data := .fields #[] },tuO #[vs "_law_hour" 876],tuO #[],fnO "_law_in_time" "_law_in_time" (stAt 59),coO #[vs "_law_in_time" 873, vs "_law_in_time" 874, vs cut 875, .int 371 0, .int 1 0, .int 0 0, .int 0 0, .int 3 0, .ref 496, .bool tt, .int 181 0, .ref 497, .none, .ref 498, .ref 499, .ref 500, .int 877 0, .int 371 0, vs cut 878],{ cls := .type "function", data := .func { name := Str.ofString "_law_in_time", qualname := Str.ofString "_law_in_time", params := stArgs (stAt 59), body := FuncBody.stmts (stBody (stAt 59)), scope := stScope (stAt 59), globals := 3, closure := [], defaults := .none, kwdefaults := .none, pyModule := vs "law_uf010016_11" 761, code := .ref 501 } },tuO #[],{ cls := .none, data := .fields #[] },tuO #[vs "_law_shape" 883, vs "_law_cell" 884, vs "_law_k" 885, vs "_law_letters" 886, vs "_law_place" 887, vs "_law_name" 888, vs "_law_turn" 889],tuO #[],fnO "_law_name_by" "_law_name_by" (stAt 60),coO #[vs "_law_name_by" 880, vs "_law_name_by" 881, vs cut 882, .int 373 0, .int 3 0, .int 0 0, .int 0 0, .int 3 0, .ref 503, .bool tt, .int 181 0, .ref 504, .none, .ref 505, .ref 506, .ref 507, .int 890 0, .int 373 0, vs cut 891],{ cls := .type "function", data := .func { name := Str.ofString "_law_name_by", qualname := Str.ofString "_law_name_by", params := stArgs (stAt 60), body := FuncBody.stmts (stBody (stAt 60)), scope := stScope (stAt 60), globals := 3, closure := [], defaults := .none, kwdefaults := .none, pyModule := vs "law_uf010016_11" 761, code := .ref 508 } },tuO #[],{ cls := .none, data := .fields #[] },tuO #[vs "_law_cells" 896, vs "_law_far_here" 897, vs "_law_kind" 898, vs "_law_size_here" 899],tuO #[],fnO "_law_free_by" "_law_free_by" (stAt 61),coO #[vs "_law_free_by" 893, vs "_law_free_by" 894, vs cut 895, .int 389 0, .int 2 0, .int 0 0, .int 0 0, .int 3 0, .ref 510, .bool tt, .int 181 0, .ref 511, .none, .ref 512, .ref 513, .ref 514, .int 900 0, .int 389 0, vs cut 901],{ cls := .type "function", data := .func { name := Str.ofString "_law_free_by", qualname := Str.ofString "_law_free_by", params := stArgs (stAt 61), body := FuncBody.stmts (stBody (stAt 61)), scope := stScope (stAt 61), globals := 3, closure := [], defaults := .none, kwdefaults := .none, pyModule := vs "law_uf010016_11" 761, code := .ref 515 } },tuO #[],{ cls := .none, data := .fields #[] },fnO "_law_people_by" "_law_people_by" (stAt 62),coO #[vs "_law_people_by" 903, vs "_law_people_by" 904, vs cut 905, .int 399 0, .int 4 0, .int 0 0, .int 0 0, .int 3 0, .ref 517, .bool tt, .int 181 0, .ref 518, .none, .none, .none, .ref 519, .int 906 0, .int 399 0, vs cut 907],{ cls := .type "function", data := .func { name := Str.ofString "_law_people_by", qualname := Str.ofString "_law_people_by", params := stArgs (stAt 62), body := FuncBody.stmts (stBody (stAt 62)), scope := stScope (stAt 62), globals := 3, closure := [], defaults := .none, kwdefaults := .none, pyModule := vs "law_uf010016_11" 761, code := .ref 520 } },tuO #[],{ cls := .none, data := .fields #[] },tuO #[vs "_law_people" 912, vs "_law_book" 913, vs "_law_one" 914, vs "_law_rule" 915],tuO #[],fnO "_law_book_of" "_law_book_of" (stAt 63),coO #[vs "_law_book_of" 909, vs "_law_book_of" 910, vs cut 911, .int 418 0, .int 1 0, .int 0 0, .int 0 0, .int 3 0, .ref 522, .bool tt, .int 181 0, .ref 523, .none, .ref 524, .ref 525, .ref 526, .int 916 0, .int 418 0, vs cut 917],{ cls := .type "function", data := .func { name := Str.ofString "_law_book_of", qualname := Str.ofString "_law_book_of", params := stArgs (stAt 63), body := FuncBody.stmts (stBody (stAt 63)), scope := stScope (stAt 63), globals := 3, closure := [], defaults := .none, kwdefaults := .none, pyModule := vs "law_uf010016_11" 761, code := .ref 527 } },tuO #[],{ cls := .none, data := .fields #[] },tuO #[vs "_law_rule" 922, vs "_law_hour" 923, vs "_law_back" 924],tuO #[],fnO "_law_lasts" "_law_lasts" (stAt 64),coO #[vs "_law_lasts" 919, vs "_law_lasts" 920, vs cut 921, .int 425 0, .int 2 0, .int 0 0, .int 0 0, .int 3 0, .ref 529, .bool tt, .int 181 0, .ref 530, .none, .ref 531, .ref 532, .ref 533, .int 925 0, .int 425 0, vs cut 926],{ cls := .type "function", data := .func { name := Str.ofString "_law_lasts", qualname := Str.ofString "_law_lasts", params := stArgs (stAt 64), body := FuncBody.stmts (stBody (stAt 64)), scope := stScope (stAt 64), globals := 3, closure := [], defaults := .none, kwdefaults := .none, pyModule := vs "law_uf010016_11" 761, code := .ref 534 } },tuO #[],{ cls := .none, data := .fields #[] },fnO "_law_open" "_law_open" (stAt 65),coO #[vs "_law_open" 928, vs "_law_open" 929, vs cut 930, .int 430 0, .int 2 0, .int 0 0, .int 0 0, .int 3 0, .ref 536, .bool tt, .int 181 0, .ref 537, .none, .none, .none, .ref 538, .int 931 0, .int 430 0, vs cut 932],{ cls := .type "function", data := .func { name := Str.ofString "_law_open", qualname := Str.ofString "_law_open", params := stArgs (stAt 65), body := FuncBody.stmts (stBody (stAt 65)), scope := stScope (stAt 65), globals := 3, closure := [], defaults := .none, kwdefaults := .none, pyModule := vs "law_uf010016_11" 761, code := .ref 539 } },tuO #[],{ cls := .none, data := .fields #[] },tuO #[vs "_law_found" 937],tuO #[],fnO "_law_is_told" "_law_is_told" (stAt 66),coO #[vs "_law_is_told" 934, vs "_law_is_told" 935, vs cut 936, .int 436 0, .int 1 0, .int 0 0, .int 0 0, .int 3 0, .ref 541, .bool tt, .int 181 0, .ref 542, .none, .ref 543, .ref 544, .ref 545, .int 938 0, .int 436 0, vs cut 939],{ cls := .type "function", data := .func { name := Str.ofString "_law_is_told", qualname := Str.ofString "_law_is_told", params := stArgs (stAt 66), body := FuncBody.stmts (stBody (stAt 66)), scope := stScope (stAt 66), globals := 3, closure := [], defaults := .none, kwdefaults := .none, pyModule := vs "law_uf010016_11" 761, code := .ref 546 } },tuO #[],{ cls := .none, data := .fields #[] },fnO "_law_row_holds" "_law_row_holds" (stAt 67),coO #[vs "_law_row_holds" 941, vs "_law_row_holds" 942, vs cut 943, .int 440 0, .int 4 0, .int 0 0, .int 0 0, .int 3 0, .ref 548, .bool tt, .int 181 0, .ref 549, .none, .none, .none, .ref 550, .int 944 0, .int 440 0, vs cut 945],{ cls := .type "function", data := .func { name := Str.ofString "_law_row_holds", qualname := Str.ofString "_law_row_holds", params := stArgs (stAt 67), body := FuncBody.stmts (stBody (stAt 67)), scope := stScope (stAt 67), globals := 3, closure := [], defaults := .none, kwdefaults := .none, pyModule := vs "law_uf010016_11" 761, code := .ref 551 } },tuO #[],{ cls := .none, data := .fields #[] },tuO #[vs "_law_found" 950, vs "_law_some" 951, vs "_law_hours" 952, vs "_law_start" 953, vs "_law_end" 954, vs "_law_place" 955, vs "_law_row" 956],tuO #[],fnO "_law_holds" "_law_holds" (stAt 68),coO #[vs "_law_holds" 947, vs "_law_holds" 948, vs cut 949, .int 448 0, .int 5 0, .int 0 0, .int 0 0, .int 3 0, .ref 553, .bool tt, .int 181 0, .ref 554, .none, .ref 555, .ref 556, .ref 557, .int 957 0, .int 448 0, vs cut 958],{ cls := .type "function", data := .func { name := Str.ofString "_law_holds", qualname := Str.ofString "_law_holds", params := stArgs (stAt 68), body := FuncBody.stmts (stBody (stAt 68)), scope := stScope (stAt 68), globals := 3, closure := [], defaults := .none, kwdefaults := .none, pyModule := vs "law_uf010016_11" 761, code := .ref 558 } },tuO #[],{ cls := .none, data := .fields #[] },tuO #[vs "_law_at" 963, vs "_law_some" 964, vs "_law_hours" 965, vs "_law_one" 966, vs "_law_k" 967],tuO #[],fnO "_law_all_open" "_law_all_open" (stAt 69),coO #[vs "_law_all_open" 960, vs "_law_all_open" 961, vs cut 962, .int 459 0, .int 3 0, .int 0 0, .int 0 0, .int 3 0, .ref 560, .bool tt, .int 181 0, .ref 561, .none, .ref 562, .ref 563, .ref 564, .int 968 0, .int 459 0, vs cut 969],{ cls := .type "function", data := .func { name := Str.ofString "_law_all_open", qualname := Str.ofString "_law_all_open", params := stArgs (stAt 69), body := FuncBody.stmts (stBody (stAt 69)), scope := stScope (stAt 69), globals := 3, closure := [], defaults := .none, kwdefaults := .none, pyModule := vs "law_uf010016_11" 761, code := .ref 565 } },tuO #[],{ cls := .none, data := .fields #[] },fnO "_law_busier" "_law_busier" (stAt 70),coO #[vs "_law_busier" 971, vs "_law_busier" 972, vs cut 973, .int 465 0, .int 3 0, .int 0 0, .int 0 0, .int 3 0, .ref 567, .bool tt, .int 181 0, .ref 568, .none, .none, .none, .ref 569, .int 974 0, .int 465 0, vs cut 975],{ cls := .type "function", data := .func { name := Str.ofString "_law_busier", qualname := Str.ofString "_law_busier", params := stArgs (stAt 70), body := FuncBody.stmts (stBody (stAt 70)), scope := stScope (stAt 70), globals := 3, closure := [], defaults := .none, kwdefaults := .none, pyModule := vs "law_uf010016_11" 761, code := .ref 570 } },tuO #[],{ cls := .none, data := .fields #[] },fnO "_law_taken" "_law_taken" (stAt 71),coO #[vs "_law_taken" 977, vs "_law_taken" 978, vs cut 979, .int 473 0, .int 5 0, .int 0 0, .int 0 0, .int 3 0, .ref 572, .bool tt, .int 181 0, .ref 573, .none, .none, .none, .ref 574, .int 980 0, .int 473 0, vs cut 981],{ cls := .type "function", data := .func { name := Str.ofString "_law_taken", qualname := Str.ofString "_law_taken", params := stArgs (stAt 71), body := FuncBody.stmts (stBody (stAt 71)), scope := stScope (stAt 71), globals := 3, closure := [], defaults := .none, kwdefaults := .none, pyModule := vs "law_uf010016_11" 761, code := .ref 575 } },tuO #[],{ cls := .none, data := .fields #[] },fnO "_law_asked" "_law_asked" (stAt 72),coO #[vs "_law_asked" 983, vs "_law_asked" 984, vs cut 985, .int 486 0, .int 3 0, .int 0 0, .int 0 0, .int 3 0, .ref 577, .bool tt, .int 181 0, .ref 578, .none, .none, .none, .ref 579, .int 986 0, .int 486 0, vs cut 987],{ cls := .type "function", data := .func { name := Str.ofString "_law_asked", qualname := Str.ofString "_law_asked", params := stArgs (stAt 72), body := FuncBody.stmts (stBody (stAt 72)), scope := stScope (stAt 72), globals := 3, closure := [], defaults := .none, kwdefaults := .none, pyModule := vs "law_uf010016_11" 761, code := .ref 580 } },tuO #[],{ cls := .none, data := .fields #[] },tuO #[vs "_law_script" 992, vs "_law_book" 993, vs "_law_some" 994, vs "_law_hour" 995, vs "_law_asked_here" 996, vs "_law_one" 997, vs "_law_ahead" 998, vs "_law_met" 999, vs "_law_at" 1000, vs "_law_later" 1001],tuO #[],fnO "_law_asked_again" "_law_asked_again" (stAt 73),coO #[vs "_law_asked_again" 989, vs "_law_asked_again" 990, vs cut 991, .int 498 0, .int 5 0, .int 0 0, .int 0 0, .int 3 0, .ref 582, .bool tt, .int 181 0, .ref 583, .none, .ref 584, .ref 585, .ref 586, .int 1002 0, .int 498 0, vs cut 1003],{ cls := .type "function", data := .func { name := Str.ofString "_law_asked_again", qualname := Str.ofString "_law_asked_again", params := stArgs (stAt 73), body := FuncBody.stmts (stBody (stAt 73)), scope := stScope (stAt 73), globals := 3, closure := [], defaults := .none, kwdefaults := .none, pyModule := vs "law_uf010016_11" 761, code := .ref 587 } },tuO #[],{ cls := .none, data := .fields #[] },fnO "law" "law" (stAt 74),coO #[vs "law" 1005, vs "law" 1006, vs cut 1007, .int 516 0, .int 1 0, .int 0 0, .int 0 0, .int 3 0, .ref 589, .bool tt, .int 181 0, .ref 590, .none, .none, .none, .ref 591, .int 1008 0, .int 516 0, vs cut 1009],{ cls := .type "function", data := .func { name := Str.ofString "law", qualname := Str.ofString "law", params := stArgs (stAt 74), body := FuncBody.stmts (stBody (stAt 74)), scope := stScope (stAt 74), globals := 3, closure := [], defaults := .none, kwdefaults := .none, pyModule := vs "law_uf010016_11" 761, code := .ref 592 } }]
noncomputable def A9 (P : Params) : List Obj := [boot_o_0 P,boot_o_1 P,boot_o_2 P,{ cls := .type "dict", data := .dict #[de P "__name__" 165 (vs "freehour.errors" 194), de P "__doc__" 166 (.none), de P "__package__" 167 (.none), de P "__loader__" 168 (.builtin "__main__.__loader__#opaque"), de P "__spec__" 169 (.none), de P "__annotations__" 170 (.ref 6), de P "__builtins__" 171 (.ref 4), de P "__file__" 173 (vs cut 172), de P "__cached__" 174 (.none), de P "_wall" 193 (.ref 21), de P "HourError" 213 (.ref 31), de P "NoRule" 229 (.ref 44), de P "NoName" 245 (.ref 56), de P "Taken" 261 (.ref 68), de P "Stranger" 277 (.ref 80), de P "Twice" 293 (.ref 92), de P "NoTime" 309 (.ref 104), de P "NoMeeting" 325 (.ref 116), de P "Clash" 341 (.ref 128)] 19 },boot_o_4 P,boot_o_5 P,boot_o_6 P,boot_o_7 P,boot_o_8 P,boot_o_9 P,boot_o_10 P,tuO #[],{ cls := .none, data := .fields #[.int 1 0, .int 0 0, .ref 20, .int 5 0, .int 0 0, .ref 27, .int 7 0, .int 0 0, .ref 40, .int 9 0, .int 0 0, .ref 52, .int 11 0, .int 0 0, .ref 64, .int 13 0, .int 0 0, .ref 76, .int 15 0, .int 0 0, .ref 88, .int 17 0, .int 0 0, .ref 100, .int 19 0, .int 0 0, .ref 112, .int 21 0, .int 0 0, .ref 124] },coO #[vs "<module>" 182, vs "<module>" 183, vs cut 184, .int 1 0, .int 0 0, .int 0 0, .int 0 0, .int 0 0, .ref 11, .bool ff, .int 181 0, .ref 12, .none, .none, .none, .none, .int 185 0, .int 1 0, vs cut 186],{ cls := .type "frame", slots := #[sm (.ref 13), sm (.ref 3), sm (.ref 3), nn, sm (vs "__main__" 164), nn, sm (.ref 0)] }]
noncomputable def A42 (P : Params) : List Obj := [boot_o_0 P,boot_o_1 P,boot_o_2 P,{ cls := .type "dict", data := .dict #[de P "__name__" 165 (vs "freehour.book" 503), de P "__doc__" 166 (.none), de P "__package__" 167 (.none), de P "__loader__" 168 (.builtin "__main__.__loader__#opaque"), de P "__spec__" 169 (.none), de P "__annotations__" 170 (.ref 6), de P "__builtins__" 171 (.ref 4), de P "__file__" 173 (vs cut 172), de P "__cached__" 174 (.none), de P "_wall" 193 (.ref 21), de P "HourError" 213 (.ref 31), de P "NoRule" 229 (.ref 44), de P "NoName" 245 (.ref 56), de P "Taken" 261 (.ref 68), de P "Stranger" 277 (.ref 80), de P "Twice" 293 (.ref 92), de P "NoTime" 309 (.ref 104), de P "NoMeeting" 325 (.ref 116), de P "Clash" 341 (.ref 128), de P "FOUR_YEARS" 345 (.int 1461 344), de P "BEFORE_YEAR" 350 (.ref 131), de P "MONTHS" 363 (.ref 132), de P "is_whole" 370 (.ref 139), de P "month_length" 378 (.ref 146), de P "date_of" 389 (.ref 153), de P "from_end" 397 (.ref 160), de P "TIMES" 403 (.int 1000000000000 402), de P "DAYS" 407 (.int 100000000000 406), de P "LONGEST" 409 (.int 48 408), de P "MOST_STEP" 411 (.int 1000000 410), de P "DEEPEST" 413 (.int 8 412), de P "OUTER" 418 (.ref 161), de P "is_between" 427 (.ref 168), de P "is_time" 434 (.ref 175), de P "are_rising" 445 (.ref 182), de P "is_plain" 453 (.ref 189), de P "is_rule" 461 (.ref 196), de P "innermost" 468 (.ref 203), de P "length_of" 476 (.ref 210), de P "begins_plain" 485 (.ref 217), de P "begins" 493 (.ref 224), de P "covers" 502 (.ref 231), de P "LETTERS" 506 (vs "abcdefghijklmnopqrstuvwxyz" 505), de P "LONGEST_NAME" 508 (.int 12 507), de P "MOST_RULES" 510 (.int 20 509), de P "MOST_STRETCH" 512 (.int 10000 511), de P "is_name" 520 (.ref 238), de P "some_covers" 529 (.ref 245), de P "need_stretch" 538 (.ref 252)] 49 },boot_o_4 P,boot_o_5 P,boot_o_6 P,boot_o_7 P,boot_o_8 P,boot_o_9 P,boot_o_10 P,tuO #[],{ cls := .none, data := .fields #[.int 1 0, .int 0 0, .ref 20, .int 5 0, .int 0 0, .ref 27, .int 7 0, .int 0 0, .ref 40, .int 9 0, .int 0 0, .ref 52, .int 11 0, .int 0 0, .ref 64, .int 13 0, .int 0 0, .ref 76, .int 15 0, .int 0 0, .ref 88, .int 17 0, .int 0 0, .ref 100, .int 19 0, .int 0 0, .ref 112, .int 21 0, .int 0 0, .ref 124, .int 27 0, .int 0 0, .ref 138, .int 29 0, .int 0 0, .ref 145, .int 33 0, .int 0 0, .ref 152, .int 45 0, .int 0 0, .ref 159, .int 55 0, .int 0 0, .ref 167, .int 57 0, .int 0 0, .ref 174, .int 59 0, .int 0 0, .ref 181, .int 68 0, .int 0 0, .ref 188, .int 81 0, .int 0 0, .ref 195, .int 95 0, .int 0 0, .ref 202, .int 99 0, .int 0 0, .ref 209, .int 104 0, .int 0 0, .ref 216, .int 117 0, .int 0 0, .ref 223, .int 131 0, .int 0 0, .ref 230, .int 143 0, .int 0 0, .ref 237, .int 150 0, .int 0 0, .ref 244, .int 155 0, .int 0 0, .ref 251] },coO #[vs "<module>" 182, vs "<module>" 183, vs cut 184, .int 1 0, .int 0 0, .int 0 0, .int 0 0, .int 0 0, .ref 11, .bool ff, .int 181 0, .ref 12, .none, .none, .none, .none, .int 185 0, .int 1 0, vs cut 186],{ cls := .type "frame", slots := #[sm (.ref 13), sm (.ref 3), sm (.ref 3), nn, sm (vs "__main__" 164), nn, sm (.ref 0)] }]
noncomputable def A67 (P : Params) : List Obj := [boot_o_0 P,boot_o_1 P,boot_o_2 P,{ cls := .type "dict", data := .dict #[de P "__name__" 165 (vs "law_uf010016_11" 761), de P "__doc__" 166 (.none), de P "__package__" 167 (.none), de P "__loader__" 168 (.builtin "__main__.__loader__#opaque"), de P "__spec__" 169 (.none), de P "__annotations__" 170 (.ref 6), de P "__builtins__" 171 (.ref 4), de P "__file__" 173 (vs cut 172), de P "__cached__" 174 (.none), de P "_wall" 193 (.ref 21), de P "HourError" 213 (.ref 31), de P "NoRule" 229 (.ref 44), de P "NoName" 245 (.ref 56), de P "Taken" 261 (.ref 68), de P "Stranger" 277 (.ref 80), de P "Twice" 293 (.ref 92), de P "NoTime" 309 (.ref 104), de P "NoMeeting" 325 (.ref 116), de P "Clash" 341 (.ref 128), de P "FOUR_YEARS" 345 (.int 1461 344), de P "BEFORE_YEAR" 350 (.ref 131), de P "MONTHS" 363 (.ref 132), de P "is_whole" 370 (.ref 139), de P "month_length" 378 (.ref 146), de P "date_of" 389 (.ref 153), de P "from_end" 397 (.ref 160), de P "TIMES" 403 (.int 1000000000000 402), de P "DAYS" 407 (.int 100000000000 406), de P "LONGEST" 409 (.int 48 408), de P "MOST_STEP" 411 (.int 1000000 410), de P "DEEPEST" 413 (.int 8 412), de P "OUTER" 418 (.ref 161), de P "is_between" 427 (.ref 168), de P "is_time" 434 (.ref 175), de P "are_rising" 445 (.ref 182), de P "is_plain" 453 (.ref 189), de P "is_rule" 461 (.ref 196), de P "innermost" 468 (.ref 203), de P "length_of" 476 (.ref 210), de P "begins_plain" 485 (.ref 217), de P "begins" 493 (.ref 224), de P "covers" 502 (.ref 231), de P "LETTERS" 506 (vs "abcdefghijklmnopqrstuvwxyz" 505), de P "LONGEST_NAME" 508 (.int 12 507), de P "MOST_RULES" 510 (.int 20 509), de P "MOST_STRETCH" 512 (.int 10000 511), de P "is_name" 520 (.ref 238), de P "some_covers" 529 (.ref 245), de P "need_stretch" 538 (.ref 252), de P "Book" 760 (.ref 402), de P "_law_cell_at" 770 (.ref 413), de P "_law_whole" 777 (.ref 420), de P "_law_days" 786 (.ref 427), de P "_law_in_month" 796 (.ref 434), de P "_law_plain_begins" 804 (.ref 441), de P "_law_bearing" 810 (.ref 448), de P "_law_heads" 818 (.ref 455), de P "_law_begun" 829 (.ref 462), de P "_law_size" 837 (.ref 469), de P "_law_weekdays" 846 (.ref 476), de P "_law_plain_by" 859 (.ref 483), de P "_law_head_by" 865 (.ref 488), de P "_law_far" 872 (.ref 495), de P "_law_in_time" 879 (.ref 502), de P "_law_name_by" 892 (.ref 509), de P "_law_free_by" 902 (.ref 516), de P "_law_people_by" 908 (.ref 521), de P "_law_book_of" 918 (.ref 528), de P "_law_lasts" 927 (.ref 535), de P "_law_open" 933 (.ref 540), de P "_law_is_told" 940 (.ref 547), de P "_law_row_holds" 946 (.ref 552), de P "_law_holds" 959 (.ref 559), de P "_law_all_open" 970 (.ref 566), de P "_law_busier" 976 (.ref 571), de P "_law_taken" 982 (.ref 576), de P "_law_asked" 988 (.ref 581), de P "_law_asked_again" 1004 (.ref 588), de P "law" 1010 (.ref 593)] 79 },boot_o_4 P,boot_o_5 P,boot_o_6 P,boot_o_7 P,boot_o_8 P,boot_o_9 P,boot_o_10 P,tuO #[],{ cls := .none, data := .fields #[.int 1 0, .int 0 0, .ref 20, .int 5 0, .int 0 0, .ref 27, .int 7 0, .int 0 0, .ref 40, .int 9 0, .int 0 0, .ref 52, .int 11 0, .int 0 0, .ref 64, .int 13 0, .int 0 0, .ref 76, .int 15 0, .int 0 0, .ref 88, .int 17 0, .int 0 0, .ref 100, .int 19 0, .int 0 0, .ref 112, .int 21 0, .int 0 0, .ref 124, .int 27 0, .int 0 0, .ref 138, .int 29 0, .int 0 0, .ref 145, .int 33 0, .int 0 0, .ref 152, .int 45 0, .int 0 0, .ref 159, .int 55 0, .int 0 0, .ref 167, .int 57 0, .int 0 0, .ref 174, .int 59 0, .int 0 0, .ref 181, .int 68 0, .int 0 0, .ref 188, .int 81 0, .int 0 0, .ref 195, .int 95 0, .int 0 0, .ref 202, .int 99 0, .int 0 0, .ref 209, .int 104 0, .int 0 0, .ref 216, .int 117 0, .int 0 0, .ref 223, .int 131 0, .int 0 0, .ref 230, .int 143 0, .int 0 0, .ref 237, .int 150 0, .int 0 0, .ref 244, .int 155 0, .int 0 0, .ref 251, .int 160 0, .int 0 0, .ref 258, .int 287 0, .int 0 0, .ref 412, .int 291 0, .int 0 0, .ref 419, .int 293 0, .int 0 0, .ref 426, .int 296 0, .int 0 0, .ref 433, .int 305 0, .int 0 0, .ref 440, .int 315 0, .int 0 0, .ref 447, .int 317 0, .int 0 0, .ref 454, .int 323 0, .int 0 0, .ref 461, .int 336 0, .int 0 0, .ref 468, .int 341 0, .int 0 0, .ref 475, .int 348 0, .int 0 0, .ref 482, .int 362 0, .int 0 0, .ref 487, .int 369 0, .int 0 0, .ref 494, .int 371 0, .int 0 0, .ref 501, .int 373 0, .int 0 0, .ref 508, .int 389 0, .int 0 0, .ref 515, .int 399 0, .int 0 0, .ref 520, .int 418 0, .int 0 0, .ref 527, .int 425 0, .int 0 0, .ref 534, .int 430 0, .int 0 0, .ref 539, .int 436 0, .int 0 0, .ref 546, .int 440 0, .int 0 0, .ref 551, .int 448 0, .int 0 0, .ref 558, .int 459 0, .int 0 0, .ref 565, .int 465 0, .int 0 0, .ref 570, .int 473 0, .int 0 0, .ref 575, .int 486 0, .int 0 0, .ref 580, .int 498 0, .int 0 0, .ref 587, .int 516 0, .int 0 0, .ref 592] },coO #[vs "<module>" 182, vs "<module>" 183, vs cut 184, .int 1 0, .int 0 0, .int 0 0, .int 0 0, .int 0 0, .ref 11, .bool ff, .int 181 0, .ref 12, .none, .none, .none, .none, .int 185 0, .int 1 0, vs cut 186],{ cls := .type "frame", slots := #[sm (.ref 13), sm (.ref 3), sm (.ref 3), nn, sm (vs "__main__" 164), nn, sm (.ref 0)] }]
noncomputable def S9 (P : Params) : List Obj := A9 P ++ M9 P
noncomputable def S42 (P : Params) : List Obj := A42 P ++ (M9 P ++ M42 P)
noncomputable def S67 (P : Params) : List Obj := A67 P ++ (M9 P ++ (M42 P ++ M67 P))
def pos9 : Pos := { line := 21, col := 0, endLine := 22, endCol := 8 }
def pos42 : Pos := { line := 155, col := 0, endLine := 159, endCol := 34 }
def pos67 : Pos := { line := 516, col := 0, endLine := 554, endCol := 107 }
noncomputable def Hf (P : Params) : Heap := ⟨(S67 P).toArray, {}⟩
theorem pre10 (w : World) (os : OsState) : topGo treeTable P10 w 11 (some (.ref 6)) 12 ⟨boot_heap w.params, Array.mk [], boot_drawn, boot_toks, os⟩ (topStub P10) = some ((shT (SA w.params) 15 187 os).abs, ⟨denote treeTable c10, c10, pos0, [topFrame pos0]⟩) := by kernel_rfl
theorem blk10 (w : World) (os : OsState) : segRun treeTable P10 w 11 (some (.ref 6)) 1 1 (shT (SA w.params) 15 187 os).abs (blockOf b10 env10 c10 pos0 [topFrame pos0]) = some (.next, (shT (SA w.params) 15 187 os).abs, c10, pos0) := by kernel_rfl
theorem pc1 (w : World) (os : OsState) : segRunT treeTable P10 w 11 (some (.ref 6)) 1 1929 (shT (SA w.params) 15 187 os) (piecesOf (b10.take 11) env10 c10 pos0 [topFrame pos0]) = some (.next, shT (S9 w.params) 131 342 os, c10, pos9) := by kernel_rfl
theorem pc2 (w : World) (os : OsState) : segRunT treeTable P10 w 11 (some (.ref 6)) 1 698 (shT (S9 w.params) 131 342 os) (piecesOf ((b10.drop 11).take 33) env10 c10 pos9 [topFrame pos0]) = some (.next, shT (S42 w.params) 253 539 os, c10, pos42) := by kernel_rfl
theorem pc3 (w : World) (os : OsState) : segRunT treeTable P10 w 11 (some (.ref 6)) 1 1751 (shT (S42 w.params) 253 539 os) (piecesOf ((b10.drop 11).drop 33) env10 c10 pos42 [topFrame pos0]) = some (.next, shT (S67 w.params) 594 1011 os, c10, pos67) := by kernel_rfl
theorem tl10 (w : World) (os : OsState) : topRun treeTable P10 w 11 (some (.ref 6)) 2 (shT (S67 w.params) 594 1011 os).abs ⟨doneF .next, c10, pos67, [topFrame pos0]⟩ = some ⟨Hf w.params, Array.mk [], {}, 1011, os⟩ := by kernel_rfl
theorem lk10 (w : World) : (fun os => ((staticsOk (importedModules P10.main.body) (boot_heap w.params) (Hf w.params) && namesBound P10 (Hf w.params) && gensDone ⟨Hf w.params, Array.mk [], {}, 1011, os⟩ && laidKept (boot_heap w.params) (Hf w.params)), openSeen V10 [Str.ofString "TIMES", Str.ofString "DAYS"] (importedModules P10.main.body) (fun s => xlAt V10 [(Str.ofString "TIMES", .int 1000000000000), (Str.ofString "DAYS", .int 100000000000)] s && recOk (RowW.records (OpenRow.toRowW Challenge.rw_uf010016_11.row)) s) true ⟨Hf w.params, Array.mk [], {}, 1011, os⟩, Hook.obs H10 ⟨Hf w.params, Array.mk [], {}, 1011, os⟩)) = fun _ => (true, openGood V10 [Str.ofString "TIMES", Str.ofString "DAYS"], Hook.val H10 w) := by kernel_rfl
theorem run10 (w : World) (os : OsState) : topRun treeTable P10 w 11 (some (.ref 6)) (12 + (1 + (1929 + (698 + (1751 + 2))))) ⟨boot_heap w.params, Array.mk [], boot_drawn, boot_toks, os⟩ (topStub P10) = some ⟨Hf w.params, Array.mk [], {}, 1011, os⟩ := by
  have h3 := piece_app (rest := []) (segRun_of (pc3 w os)) (piece_nil (tl10 w os))
  rw [List.append_nil] at h3
  have h2 := piece_app (segRun_of (pc2 w os)) h3
  rw [List.take_append_drop] at h2
  have h1 := piece_app (segRun_of (pc1 w os)) h2
  rw [List.take_append_drop] at h1
  exact go_top (pre10 w os) (piece_block (blk10 w os) h1)
theorem hl10 : LeftO P10 V10 [Str.ofString "TIMES", Str.ofString "DAYS"] (fun s => xlAt V10 [(Str.ofString "TIMES", .int 1000000000000), (Str.ofString "DAYS", .int 100000000000)] s && recOk (RowW.records (OpenRow.toRowW Challenge.rw_uf010016_11.row)) s) (Hook.obs H10) (Hook.val H10) 8080 := LeftO.of_pieces (boot_open o1 rfl o2) sz10 run10 rfl lk10
end Mine.Hd
namespace Mine
set_option maxRecDepth 100000
theorem hb10 : (plainsOf V10 (looseW V10 [Str.ofString "TIMES", Str.ofString "DAYS"])).find? (fun c => c.name == Str.ofString "Book") = some B10 := by kernel_rfl
theorem bn10 : B10.name = Str.ofString "Book" := by kernel_rfl
theorem bc10 : bkChk B10 mts10 = true := by kernel_rfl
theorem ini10 : Str.ofString "Book." ++ Str.ofString "__init__" = Str.ofString "Book.__init__" := by decide +kernel
set_option maxHeartbeats 4000000 in
theorem ws10 : Challenge.rw_uf010016_11.wellSaid = true := by
  unfold OpenLaw.wellSaid
  refine look_both (look_both (look_both (look_both (look_both (look_both (look_both (look_both (look_both (look_both (look_both (look_both (look_both (look_both (look_both (look_both (look_both (look_both ?_ ?_) ?_) ?_) ?_) ?_) ?_) ?_) ?_) ?_) ?_) ?_) ?_) ?_) ?_) ?_) ?_) ?_) ?_
  all_goals decide +kernel
theorem nA_FOUR_YEARS (P : Params) : nsIn (K10 P) mainGlobals (Str.ofString "FOUR_YEARS") = some (some (.int 1461 344)) := by kernel_rfl
theorem nA_BEFORE_YEAR (P : Params) : nsIn (K10 P) mainGlobals (Str.ofString "BEFORE_YEAR") = some (some (.ref 131)) := by kernel_rfl
theorem nO_BEFORE_YEAR (P : Params) : (K10 P).lookup 131 = some { cls := Value.type "tuple", data := Data.seq #[Value.int 0 346, Value.int 366 347, Value.int 731 348, Value.int 1096 349] } := by kernel_rfl
theorem nA_MONTHS (P : Params) : nsIn (K10 P) mainGlobals (Str.ofString "MONTHS") = some (some (.ref 132)) := by kernel_rfl
theorem nO_MONTHS (P : Params) : (K10 P).lookup 132 = some { cls := Value.type "tuple", data := Data.seq #[Value.int 31 351, Value.int 28 352, Value.int 31 353, Value.int 30 354, Value.int 31 355, Value.int 30 356, Value.int 31 357, Value.int 31 358, Value.int 30 359, Value.int 31 360, Value.int 30 361, Value.int 31 362] } := by kernel_rfl
theorem nA_TIMES (P : Params) : nsIn (K10 P) mainGlobals (Str.ofString "TIMES") = some (some (.int 1000000000000 402)) := by kernel_rfl
theorem nA_DAYS (P : Params) : nsIn (K10 P) mainGlobals (Str.ofString "DAYS") = some (some (.int 100000000000 406)) := by kernel_rfl
theorem nA_LONGEST (P : Params) : nsIn (K10 P) mainGlobals (Str.ofString "LONGEST") = some (some (.int 48 408)) := by kernel_rfl
theorem nA_MOST_STEP (P : Params) : nsIn (K10 P) mainGlobals (Str.ofString "MOST_STEP") = some (some (.int 1000000 410)) := by kernel_rfl
theorem nA_DEEPEST (P : Params) : nsIn (K10 P) mainGlobals (Str.ofString "DEEPEST") = some (some (.int 8 412)) := by kernel_rfl
theorem nA_OUTER (P : Params) : nsIn (K10 P) mainGlobals (Str.ofString "OUTER") = some (some (.ref 161)) := by kernel_rfl
theorem nO_OUTER (P : Params) : (K10 P).lookup 161 = some { cls := Value.type "tuple", data := Data.seq #[Value.str (Str.ofString "from") 414, Value.str (Str.ofString "until") 415, Value.str (Str.ofString "also") 416, Value.str (Str.ofString "but") 417] } := by kernel_rfl
theorem nA_LETTERS (P : Params) : nsIn (K10 P) mainGlobals (Str.ofString "LETTERS") = some (some (.str (Str.ofString "abcdefghijklmnopqrstuvwxyz") 505)) := by kernel_rfl
theorem nA_LONGEST_NAME (P : Params) : nsIn (K10 P) mainGlobals (Str.ofString "LONGEST_NAME") = some (some (.int 12 507)) := by kernel_rfl
theorem nA_MOST_RULES (P : Params) : nsIn (K10 P) mainGlobals (Str.ofString "MOST_RULES") = some (some (.int 20 509)) := by kernel_rfl
theorem nA_MOST_STRETCH (P : Params) : nsIn (K10 P) mainGlobals (Str.ofString "MOST_STRETCH") = some (some (.int 10000 511)) := by kernel_rfl
theorem nZ_isinstance (P : Params) : nsIn (K10 P) mainGlobals (Str.ofString "isinstance") = some none := by kernel_rfl
theorem nZ_len (P : Params) : nsIn (K10 P) mainGlobals (Str.ofString "len") = some none := by kernel_rfl
theorem nZ_any (P : Params) : nsIn (K10 P) mainGlobals (Str.ofString "any") = some none := by kernel_rfl
theorem nZ_all (P : Params) : nsIn (K10 P) mainGlobals (Str.ofString "all") = some none := by kernel_rfl
theorem nZ_max (P : Params) : nsIn (K10 P) mainGlobals (Str.ofString "max") = some none := by kernel_rfl
theorem nZ_min (P : Params) : nsIn (K10 P) mainGlobals (Str.ofString "min") = some none := by kernel_rfl
theorem nZ_repr (P : Params) : nsIn (K10 P) mainGlobals (Str.ofString "repr") = some none := by kernel_rfl
theorem nZ_int (P : Params) : nsIn (K10 P) mainGlobals (Str.ofString "int") = some none := by kernel_rfl
theorem nZ_bool (P : Params) : nsIn (K10 P) mainGlobals (Str.ofString "bool") = some none := by kernel_rfl
theorem nZ_str (P : Params) : nsIn (K10 P) mainGlobals (Str.ofString "str") = some none := by kernel_rfl
theorem nZ_tuple (P : Params) : nsIn (K10 P) mainGlobals (Str.ofString "tuple") = some none := by kernel_rfl
theorem nZ_list (P : Params) : nsIn (K10 P) mainGlobals (Str.ofString "list") = some none := by kernel_rfl
theorem nZ_range (P : Params) : nsIn (K10 P) mainGlobals (Str.ofString "range") = some none := by kernel_rfl
theorem nZ_reversed (P : Params) : nsIn (K10 P) mainGlobals (Str.ofString "reversed") = some none := by kernel_rfl
theorem nA_month_length (P : Params) : nsIn (K10 P) mainGlobals (Str.ofString "month_length") = some (some (.ref 146)) := by kernel_rfl
theorem nA_date_of (P : Params) : nsIn (K10 P) mainGlobals (Str.ofString "date_of") = some (some (.ref 153)) := by kernel_rfl
theorem nA_from_end (P : Params) : nsIn (K10 P) mainGlobals (Str.ofString "from_end") = some (some (.ref 160)) := by kernel_rfl
theorem nA_is_whole (P : Params) : nsIn (K10 P) mainGlobals (Str.ofString "is_whole") = some (some (.ref 139)) := by kernel_rfl
theorem nA_is_between (P : Params) : nsIn (K10 P) mainGlobals (Str.ofString "is_between") = some (some (.ref 168)) := by kernel_rfl
theorem nA_is_time (P : Params) : nsIn (K10 P) mainGlobals (Str.ofString "is_time") = some (some (.ref 175)) := by kernel_rfl
theorem nA_are_rising (P : Params) : nsIn (K10 P) mainGlobals (Str.ofString "are_rising") = some (some (.ref 182)) := by kernel_rfl
theorem nA_is_plain (P : Params) : nsIn (K10 P) mainGlobals (Str.ofString "is_plain") = some (some (.ref 189)) := by kernel_rfl
theorem nA_is_rule (P : Params) : nsIn (K10 P) mainGlobals (Str.ofString "is_rule") = some (some (.ref 196)) := by kernel_rfl
theorem nA_innermost (P : Params) : nsIn (K10 P) mainGlobals (Str.ofString "innermost") = some (some (.ref 203)) := by kernel_rfl
theorem nA_length_of (P : Params) : nsIn (K10 P) mainGlobals (Str.ofString "length_of") = some (some (.ref 210)) := by kernel_rfl
theorem nA_begins_plain (P : Params) : nsIn (K10 P) mainGlobals (Str.ofString "begins_plain") = some (some (.ref 217)) := by kernel_rfl
theorem nA_begins (P : Params) : nsIn (K10 P) mainGlobals (Str.ofString "begins") = some (some (.ref 224)) := by kernel_rfl
theorem nA_covers (P : Params) : nsIn (K10 P) mainGlobals (Str.ofString "covers") = some (some (.ref 231)) := by kernel_rfl
theorem nA_some_covers (P : Params) : nsIn (K10 P) mainGlobals (Str.ofString "some_covers") = some (some (.ref 245)) := by kernel_rfl
theorem nA_need_stretch (P : Params) : nsIn (K10 P) mainGlobals (Str.ofString "need_stretch") = some (some (.ref 252)) := by kernel_rfl
theorem nA_is_name (P : Params) : nsIn (K10 P) mainGlobals (Str.ofString "is_name") = some (some (.ref 238)) := by kernel_rfl
theorem nA_law_cell_at (P : Params) : nsIn (K10 P) mainGlobals (Str.ofString "_law_cell_at") = some (some (.ref 413)) := by kernel_rfl
theorem nA_law_whole (P : Params) : nsIn (K10 P) mainGlobals (Str.ofString "_law_whole") = some (some (.ref 420)) := by kernel_rfl
theorem nA_law_days (P : Params) : nsIn (K10 P) mainGlobals (Str.ofString "_law_days") = some (some (.ref 427)) := by kernel_rfl
theorem nA_law_in_month (P : Params) : nsIn (K10 P) mainGlobals (Str.ofString "_law_in_month") = some (some (.ref 434)) := by kernel_rfl
theorem nA_law_plain_begins (P : Params) : nsIn (K10 P) mainGlobals (Str.ofString "_law_plain_begins") = some (some (.ref 441)) := by kernel_rfl
theorem nA_law_bearing (P : Params) : nsIn (K10 P) mainGlobals (Str.ofString "_law_bearing") = some (some (.ref 448)) := by kernel_rfl
theorem nA_law_heads (P : Params) : nsIn (K10 P) mainGlobals (Str.ofString "_law_heads") = some (some (.ref 455)) := by kernel_rfl
theorem nA_law_begun (P : Params) : nsIn (K10 P) mainGlobals (Str.ofString "_law_begun") = some (some (.ref 462)) := by kernel_rfl
theorem nA_law_size (P : Params) : nsIn (K10 P) mainGlobals (Str.ofString "_law_size") = some (some (.ref 469)) := by kernel_rfl
theorem nA_law_weekdays (P : Params) : nsIn (K10 P) mainGlobals (Str.ofString "_law_weekdays") = some (some (.ref 476)) := by kernel_rfl
theorem nA_law_plain_by (P : Params) : nsIn (K10 P) mainGlobals (Str.ofString "_law_plain_by") = some (some (.ref 483)) := by kernel_rfl
theorem nA_law_head_by (P : Params) : nsIn (K10 P) mainGlobals (Str.ofString "_law_head_by") = some (some (.ref 488)) := by kernel_rfl
theorem nA_law_far (P : Params) : nsIn (K10 P) mainGlobals (Str.ofString "_law_far") = some (some (.ref 495)) := by kernel_rfl
theorem nA_law_in_time (P : Params) : nsIn (K10 P) mainGlobals (Str.ofString "_law_in_time") = some (some (.ref 502)) := by kernel_rfl
theorem nA_law_free_by (P : Params) : nsIn (K10 P) mainGlobals (Str.ofString "_law_free_by") = some (some (.ref 516)) := by kernel_rfl
theorem nA_law_name_by (P : Params) : nsIn (K10 P) mainGlobals (Str.ofString "_law_name_by") = some (some (.ref 509)) := by kernel_rfl
theorem nA_law_people_by (P : Params) : nsIn (K10 P) mainGlobals (Str.ofString "_law_people_by") = some (some (.ref 521)) := by kernel_rfl
theorem nA_law_book_of (P : Params) : nsIn (K10 P) mainGlobals (Str.ofString "_law_book_of") = some (some (.ref 528)) := by kernel_rfl
theorem nA_law_lasts (P : Params) : nsIn (K10 P) mainGlobals (Str.ofString "_law_lasts") = some (some (.ref 535)) := by kernel_rfl
theorem nA_law_open (P : Params) : nsIn (K10 P) mainGlobals (Str.ofString "_law_open") = some (some (.ref 540)) := by kernel_rfl
theorem nA_law_is_told (P : Params) : nsIn (K10 P) mainGlobals (Str.ofString "_law_is_told") = some (some (.ref 547)) := by kernel_rfl
theorem nA_law_row_holds (P : Params) : nsIn (K10 P) mainGlobals (Str.ofString "_law_row_holds") = some (some (.ref 552)) := by kernel_rfl
theorem nA_law_all_open (P : Params) : nsIn (K10 P) mainGlobals (Str.ofString "_law_all_open") = some (some (.ref 566)) := by kernel_rfl
theorem nA_law_holds (P : Params) : nsIn (K10 P) mainGlobals (Str.ofString "_law_holds") = some (some (.ref 559)) := by kernel_rfl
theorem nA_law_asked (P : Params) : nsIn (K10 P) mainGlobals (Str.ofString "_law_asked") = some (some (.ref 581)) := by kernel_rfl
theorem nA_law_asked_again (P : Params) : nsIn (K10 P) mainGlobals (Str.ofString "_law_asked_again") = some (some (.ref 588)) := by kernel_rfl
theorem nA_law_busier (P : Params) : nsIn (K10 P) mainGlobals (Str.ofString "_law_busier") = some (some (.ref 571)) := by kernel_rfl
theorem nA_law_taken (P : Params) : nsIn (K10 P) mainGlobals (Str.ofString "_law_taken") = some (some (.ref 576)) := by kernel_rfl
theorem ck10_month_length : checkFn G10 mts10 V10 "month_length" = some f_month_length := by kernel_rfl
theorem ck10_date_of : checkFn G10 mts10 V10 "date_of" = some f_date_of := by kernel_rfl
theorem ck10_from_end : checkFn G10 mts10 V10 "from_end" = some f_from_end := by kernel_rfl
theorem ck10_is_whole : checkFn G10 mts10 V10 "is_whole" = some f_is_whole := by kernel_rfl
theorem ck10_is_between : checkFn G10 mts10 V10 "is_between" = some f_is_between := by kernel_rfl
theorem ck10_is_time : checkFn G10 mts10 V10 "is_time" = some f_is_time := by kernel_rfl
theorem ck10_are_rising : checkFn G10 mts10 V10 "are_rising" = some f_are_rising := by kernel_rfl
theorem ck10_is_plain : checkFn G10 mts10 V10 "is_plain" = some f_is_plain := by kernel_rfl
theorem ck10_is_rule : checkFn G10 mts10 V10 "is_rule" = some f_is_rule := by kernel_rfl
theorem ck10_innermost : checkFn G10 mts10 V10 "innermost" = some f_innermost := by kernel_rfl
theorem ck10_length_of : checkFn G10 mts10 V10 "length_of" = some f_length_of := by kernel_rfl
theorem ck10_begins_plain : checkFn G10 mts10 V10 "begins_plain" = some f_begins_plain := by kernel_rfl
theorem ck10_begins : checkFn G10 mts10 V10 "begins" = some f_begins := by kernel_rfl
theorem ck10_covers : checkFn G10 mts10 V10 "covers" = some f_covers := by kernel_rfl
theorem ck10_some_covers : checkFn G10 mts10 V10 "some_covers" = some f_some_covers := by kernel_rfl
theorem ck10_need_stretch : checkFn G10 mts10 V10 "need_stretch" = some f_need_stretch := by kernel_rfl
theorem ck10_is_name : checkFn G10 mts10 V10 "is_name" = some f_is_name := by kernel_rfl
theorem ck10_Bneed_somebody : checkMt G10 mts10 B10 "need_somebody" = some f_B_need_somebody := by kernel_rfl
theorem ck10_Bmeets_at : checkMt G10 mts10 B10 "meets_at" = some f_B_meets_at := by kernel_rfl
theorem ck10_Bfree_at : checkMt G10 mts10 B10 "free_at" = some f_B_free_at := by kernel_rfl
theorem ck10_Bneed_all : checkMt G10 mts10 B10 "need_all" = some f_B_need_all := by kernel_rfl
theorem ck10_Bbar : checkMt G10 mts10 B10 "bar" = some f_B_bar := by kernel_rfl
theorem ck10_Blook : checkMt G10 mts10 B10 "look" = some f_B_look := by kernel_rfl
theorem ck10_Bfirst : checkMt G10 mts10 B10 "first" = some f_B_first := by kernel_rfl
theorem ck10_Bmeet : checkMt G10 mts10 B10 "meet" = some f_B_meet := by kernel_rfl
theorem ck10_Binit : checkMt G10 mts10 B10 "__init__" = some f_B___init__ := by kernel_rfl
theorem ck10_Bcome : checkMt G10 mts10 B10 "come" = some f_B_come := by kernel_rfl
theorem ck10_Bbusy : checkMt G10 mts10 B10 "busy" = some f_B_busy := by kernel_rfl
theorem ck10_Bplace_of : checkMt G10 mts10 B10 "place_of" = some f_B_place_of := by kernel_rfl
theorem ck10_Bdrop : checkMt G10 mts10 B10 "drop" = some f_B_drop := by kernel_rfl
theorem ck10_Bmove : checkMt G10 mts10 B10 "move" = some f_B_move := by kernel_rfl
theorem ck10_law_cell_at : checkFn G10 mts10 V10 "_law_cell_at" = some f_l_cell_at := by kernel_rfl
theorem ck10_law_whole : checkFn G10 mts10 V10 "_law_whole" = some f_l_whole := by kernel_rfl
theorem ck10_law_days : checkFn G10 mts10 V10 "_law_days" = some f_l_days := by kernel_rfl
theorem ck10_law_in_month : checkFn G10 mts10 V10 "_law_in_month" = some f_l_in_month := by kernel_rfl
theorem ck10_law_plain_begins : checkFn G10 mts10 V10 "_law_plain_begins" = some f_l_plain_begins := by kernel_rfl
theorem ck10_law_bearing : checkFn G10 mts10 V10 "_law_bearing" = some f_l_bearing := by kernel_rfl
theorem ck10_law_heads : checkFn G10 mts10 V10 "_law_heads" = some f_l_heads := by kernel_rfl
theorem ck10_law_begun : checkFn G10 mts10 V10 "_law_begun" = some f_l_begun := by kernel_rfl
theorem ck10_law_size : checkFn G10 mts10 V10 "_law_size" = some f_l_size := by kernel_rfl
theorem ck10_law_weekdays : checkFn G10 mts10 V10 "_law_weekdays" = some f_l_weekdays := by kernel_rfl
theorem ck10_law_plain_by : checkFn G10 mts10 V10 "_law_plain_by" = some f_l_plain_by := by kernel_rfl
theorem ck10_law_head_by : checkFn G10 mts10 V10 "_law_head_by" = some f_l_head_by := by kernel_rfl
theorem ck10_law_far : checkFn G10 mts10 V10 "_law_far" = some f_l_far := by kernel_rfl
theorem ck10_law_in_time : checkFn G10 mts10 V10 "_law_in_time" = some f_l_in_time := by kernel_rfl
theorem ck10_law_free_by : checkFn G10 mts10 V10 "_law_free_by" = some f_l_free_by := by kernel_rfl
theorem ck10_law_name_by : checkFn G10 mts10 V10 "_law_name_by" = some f_l_name_by := by kernel_rfl
theorem ck10_law_people_by : checkFn G10 mts10 V10 "_law_people_by" = some f_l_people_by := by kernel_rfl
theorem ck10_law_book_of : checkFn G10 mts10 V10 "_law_book_of" = some f_l_book_of := by kernel_rfl
theorem ck10_law_lasts : checkFn G10 mts10 V10 "_law_lasts" = some f_l_lasts := by kernel_rfl
theorem ck10_law_open : checkFn G10 mts10 V10 "_law_open" = some f_l_open := by kernel_rfl
theorem ck10_law_is_told : checkFn G10 mts10 V10 "_law_is_told" = some f_l_is_told := by kernel_rfl
theorem ck10_law_row_holds : checkFn G10 mts10 V10 "_law_row_holds" = some f_l_row_holds := by kernel_rfl
theorem ck10_law_all_open : checkFn G10 mts10 V10 "_law_all_open" = some f_l_all_open := by kernel_rfl
theorem ck10_law_holds : checkFn G10 mts10 V10 "_law_holds" = some f_l_holds := by kernel_rfl
theorem ck10_law_asked : checkFn G10 mts10 V10 "_law_asked" = some f_l_asked := by kernel_rfl
theorem ck10_law_asked_again : checkFn G10 mts10 V10 "_law_asked_again" = some f_l_asked_again := by kernel_rfl
theorem ck10_law_busier : checkFn G10 mts10 V10 "_law_busier" = some f_l_busier := by kernel_rfl
theorem ck10_law_taken : checkFn G10 mts10 V10 "_law_taken" = some f_l_taken := by kernel_rfl
theorem ck10_law : checkFn G10 mts10 V10 "law" = some f_law := by kernel_rfl
end Mine
set_option maxRecDepth 100000 in
set_option maxHeartbeats 8000000 in
theorem PySem.Challenge.cw_uf010016_11_holds : PySem.Challenge.rw_uf010016_11.Holds := by
  w_on
  refine holds_law ws10 fun said => ?_
  refine holds_open (q := V10) (loose := [Str.ofString "TIMES", Str.ofString "DAYS"]) (Xt := fun s => xlAt V10 [(Str.ofString "TIMES", .int 1000000000000), (Str.ofString "DAYS", .int 100000000000)] s && recOk (RowW.records (OpenRow.toRowW Challenge.rw_uf010016_11.row)) s) (XP := XL V10 [(Str.ofString "TIMES", .int 1000000000000), (Str.ofString "DAYS", .int 100000000000)]) (Yf := Hook.obs H10) (Ya := Hook.val H10) (YP := Hook.says H10) (N := 8080) ?hl (Hook.of H10) (Hook.keeps H10) (fun s e => xl_of s (Bool.and_eq_true_iff.mp e).1) XL.keeps (by rfl) (by rfl) (by rfl) (fun s e => recFacts_of (Bool.and_eq_true_iff.mp e).2) (by rfl) (by first | assumption | decide +kernel) (by decide +kernel) ⟨rfl, rfl, rfl, rfl, rfl, by decide +kernel⟩ ?hw ?hc
  case hl => exact Hd.hl10
  case hw => w_witness2
  intro w s₀ s₁ mg mb G Y fa o pm cd doc dV kV ho hd hcd hD hmg hg args vals as hpre hlay hrd hwl hlo
  have KX := kIn_of Y
  refine Ground.open G ?_
  intro T B D TE TW
  wrow_args hpre hlay hrd hwl hlo
  obtain ⟨C, N, mN, hC, P0⟩ := TE B10 (List.mem_of_find?_eq_some hb10)
  have P := P0.ofCmp
  rw [bn10] at hC
  have GA : GAll ⟨Challenge.rw_uf010016_11.row.prog, w, s₁.heap, mg, mb, C, mN⟩ G10 := by
    refine ⟨gv_int (mg_of KX T.g (nA_FOUR_YEARS _)), ?_⟩
    refine ⟨gv_tup (vs := [Value.int 0 346, Value.int 366 347, Value.int 731 348, Value.int 1096 349]) (n := 0) (mg_of KX T.g (nA_BEFORE_YEAR _)) (KX _ _ (nO_BEFORE_YEAR _)) (by decide) (fun _ => (reps_int (reps_int (reps_int (reps_int reps_nil))))), ?_⟩
    refine ⟨gv_tup (vs := [Value.int 31 351, Value.int 28 352, Value.int 31 353, Value.int 30 354, Value.int 31 355, Value.int 30 356, Value.int 31 357, Value.int 31 358, Value.int 30 359, Value.int 31 360, Value.int 30 361, Value.int 31 362]) (n := 0) (mg_of KX T.g (nA_MONTHS _)) (KX _ _ (nO_MONTHS _)) (by decide) (fun _ => (reps_int (reps_int (reps_int (reps_int (reps_int (reps_int (reps_int (reps_int (reps_int (reps_int (reps_int (reps_int reps_nil))))))))))))), ?_⟩
    refine ⟨gv_int (mg_of KX T.g (nA_TIMES _)), ?_⟩
    refine ⟨gv_int (mg_of KX T.g (nA_DAYS _)), ?_⟩
    refine ⟨gv_int (mg_of KX T.g (nA_LONGEST _)), ?_⟩
    refine ⟨gv_int (mg_of KX T.g (nA_MOST_STEP _)), ?_⟩
    refine ⟨gv_int (mg_of KX T.g (nA_DEEPEST _)), ?_⟩
    refine ⟨gv_tup (vs := [Value.str (Str.ofString "from") 414, Value.str (Str.ofString "until") 415, Value.str (Str.ofString "also") 416, Value.str (Str.ofString "but") 417]) (n := 0) (mg_of KX T.g (nA_OUTER _)) (KX _ _ (nO_OUTER _)) (by decide) (fun _ => (reps_str ⟨by decide +kernel, by decide +kernel⟩ (reps_str ⟨by decide +kernel, by decide +kernel⟩ (reps_str ⟨by decide +kernel, by decide +kernel⟩ (reps_str ⟨by decide +kernel, by decide +kernel⟩ reps_nil))))), ?_⟩
    refine ⟨gv_str (mg_of KX T.g (nA_LETTERS _)) ⟨by decide +kernel, by decide +kernel⟩, ?_⟩
    refine ⟨gv_int (mg_of KX T.g (nA_LONGEST_NAME _)), ?_⟩
    refine ⟨gv_int (mg_of KX T.g (nA_MOST_RULES _)), ?_⟩
    refine ⟨gv_int (mg_of KX T.g (nA_MOST_STRETCH _)), ?_⟩
    refine ⟨gv_bi (ns_none_of KX T.g (nZ_isinstance _)) ((T.builtins _ (by decide)).trans rfl), ?_⟩
    refine ⟨gv_bi (ns_none_of KX T.g (nZ_len _)) ((T.builtins _ (by decide)).trans rfl), ?_⟩
    refine ⟨gv_bi (ns_none_of KX T.g (nZ_any _)) ((T.builtins _ (by decide)).trans rfl), ?_⟩
    refine ⟨gv_bi (ns_none_of KX T.g (nZ_all _)) ((T.builtins _ (by decide)).trans rfl), ?_⟩
    refine ⟨gv_bi (ns_none_of KX T.g (nZ_max _)) ((T.builtins _ (by decide)).trans rfl), ?_⟩
    refine ⟨gv_bi (ns_none_of KX T.g (nZ_min _)) ((T.builtins _ (by decide)).trans rfl), ?_⟩
    refine ⟨gv_bi (ns_none_of KX T.g (nZ_repr _)) ((T.builtins _ (by decide)).trans rfl), ?_⟩
    refine ⟨gv_ty (ns_none_of KX T.g (nZ_int _)) ((T.builtins _ (by decide)).trans rfl), ?_⟩
    refine ⟨gv_ty (ns_none_of KX T.g (nZ_bool _)) ((T.builtins _ (by decide)).trans rfl), ?_⟩
    refine ⟨gv_ty (ns_none_of KX T.g (nZ_str _)) ((T.builtins _ (by decide)).trans rfl), ?_⟩
    refine ⟨gv_ty (ns_none_of KX T.g (nZ_tuple _)) ((T.builtins _ (by decide)).trans rfl), ?_⟩
    refine ⟨gv_ty (ns_none_of KX T.g (nZ_list _)) ((T.builtins _ (by decide)).trans rfl), ?_⟩
    refine ⟨gv_ty (ns_none_of KX T.g (nZ_range _)) ((T.builtins _ (by decide)).trans rfl), ?_⟩
    refine ⟨gv_ty (ns_none_of KX T.g (nZ_reversed _)) ((T.builtins _ (by decide)).trans rfl), ?_⟩
    refine ⟨gv_bk hC, ?_⟩
    refine ⟨gv_fn (by decide +kernel) (mg_of KX T.g (nA_month_length _)), ?_⟩
    refine ⟨gv_fn (by decide +kernel) (mg_of KX T.g (nA_date_of _)), ?_⟩
    refine ⟨gv_fn (by decide +kernel) (mg_of KX T.g (nA_from_end _)), ?_⟩
    refine ⟨gv_fn (by decide +kernel) (mg_of KX T.g (nA_is_whole _)), ?_⟩
    refine ⟨gv_fn (by decide +kernel) (mg_of KX T.g (nA_is_between _)), ?_⟩
    refine ⟨gv_fn (by decide +kernel) (mg_of KX T.g (nA_is_time _)), ?_⟩
    refine ⟨gv_fn (by decide +kernel) (mg_of KX T.g (nA_are_rising _)), ?_⟩
    refine ⟨gv_fn (by decide +kernel) (mg_of KX T.g (nA_is_plain _)), ?_⟩
    refine ⟨gv_fn (by decide +kernel) (mg_of KX T.g (nA_is_rule _)), ?_⟩
    refine ⟨gv_fn (by decide +kernel) (mg_of KX T.g (nA_innermost _)), ?_⟩
    refine ⟨gv_fn (by decide +kernel) (mg_of KX T.g (nA_length_of _)), ?_⟩
    refine ⟨gv_fn (by decide +kernel) (mg_of KX T.g (nA_begins_plain _)), ?_⟩
    refine ⟨gv_fn (by decide +kernel) (mg_of KX T.g (nA_begins _)), ?_⟩
    refine ⟨gv_fn (by decide +kernel) (mg_of KX T.g (nA_covers _)), ?_⟩
    refine ⟨gv_fn (by decide +kernel) (mg_of KX T.g (nA_some_covers _)), ?_⟩
    refine ⟨gv_fn (by decide +kernel) (mg_of KX T.g (nA_need_stretch _)), ?_⟩
    refine ⟨gv_fn (by decide +kernel) (mg_of KX T.g (nA_is_name _)), ?_⟩
    refine ⟨gv_fn (by decide +kernel) (mg_of KX T.g (nA_law_cell_at _)), ?_⟩
    refine ⟨gv_fn (by decide +kernel) (mg_of KX T.g (nA_law_whole _)), ?_⟩
    refine ⟨gv_fn (by decide +kernel) (mg_of KX T.g (nA_law_days _)), ?_⟩
    refine ⟨gv_fn (by decide +kernel) (mg_of KX T.g (nA_law_in_month _)), ?_⟩
    refine ⟨gv_fn (by decide +kernel) (mg_of KX T.g (nA_law_plain_begins _)), ?_⟩
    refine ⟨gv_fn (by decide +kernel) (mg_of KX T.g (nA_law_bearing _)), ?_⟩
    refine ⟨gv_fn (by decide +kernel) (mg_of KX T.g (nA_law_heads _)), ?_⟩
    refine ⟨gv_fn (by decide +kernel) (mg_of KX T.g (nA_law_begun _)), ?_⟩
    refine ⟨gv_fn (by decide +kernel) (mg_of KX T.g (nA_law_size _)), ?_⟩
    refine ⟨gv_fn (by decide +kernel) (mg_of KX T.g (nA_law_weekdays _)), ?_⟩
    refine ⟨gv_fn (by decide +kernel) (mg_of KX T.g (nA_law_plain_by _)), ?_⟩
    refine ⟨gv_fn (by decide +kernel) (mg_of KX T.g (nA_law_head_by _)), ?_⟩
    refine ⟨gv_fn (by decide +kernel) (mg_of KX T.g (nA_law_far _)), ?_⟩
    refine ⟨gv_fn (by decide +kernel) (mg_of KX T.g (nA_law_in_time _)), ?_⟩
    refine ⟨gv_fn (by decide +kernel) (mg_of KX T.g (nA_law_free_by _)), ?_⟩
    refine ⟨gv_fn (by decide +kernel) (mg_of KX T.g (nA_law_name_by _)), ?_⟩
    refine ⟨gv_fn (by decide +kernel) (mg_of KX T.g (nA_law_people_by _)), ?_⟩
    refine ⟨gv_fn (by decide +kernel) (mg_of KX T.g (nA_law_book_of _)), ?_⟩
    refine ⟨gv_fn (by decide +kernel) (mg_of KX T.g (nA_law_lasts _)), ?_⟩
    refine ⟨gv_fn (by decide +kernel) (mg_of KX T.g (nA_law_open _)), ?_⟩
    refine ⟨gv_fn (by decide +kernel) (mg_of KX T.g (nA_law_is_told _)), ?_⟩
    refine ⟨gv_fn (by decide +kernel) (mg_of KX T.g (nA_law_row_holds _)), ?_⟩
    refine ⟨gv_fn (by decide +kernel) (mg_of KX T.g (nA_law_all_open _)), ?_⟩
    refine ⟨gv_fn (by decide +kernel) (mg_of KX T.g (nA_law_holds _)), ?_⟩
    refine ⟨gv_fn (by decide +kernel) (mg_of KX T.g (nA_law_asked _)), ?_⟩
    refine ⟨gv_fn (by decide +kernel) (mg_of KX T.g (nA_law_asked_again _)), ?_⟩
    refine ⟨gv_fn (by decide +kernel) (mg_of KX T.g (nA_law_busier _)), ?_⟩
    refine ⟨gv_fn (by decide +kernel) (mg_of KX T.g (nA_law_taken _)), ?_⟩
    exact trivial
  have g : GOk ⟨Challenge.rw_uf010016_11.row.prog, w, s₁.heap, mg, mb, C, mN⟩ G10 mts10 := gok T GA P bc10
  have o1 : OrcOk _ 1 Φ1 := ext_ok g noΦ_ok (fnOk_of_top T (x := "month_length") (f := f_month_length) (by decide +kernel) ck10_month_length) w_month_length
  have o2 : OrcOk _ 2 Φ2 := ext_ok g o1 (fnOk_of_top T (x := "date_of") (f := f_date_of) (by decide +kernel) ck10_date_of) w_date_of
  have o3 : OrcOk _ 3 Φ3 := ext_ok g o2 (fnOk_of_top T (x := "from_end") (f := f_from_end) (by decide +kernel) ck10_from_end) w_from_end
  have o4 : OrcOk _ 4 Φ4 := ext_ok g o3 (fnOk_of_top T (x := "is_whole") (f := f_is_whole) (by decide +kernel) ck10_is_whole) w_is_whole
  have o5 : OrcOk _ 5 Φ5 := ext_ok g o4 (fnOk_of_top T (x := "is_between") (f := f_is_between) (by decide +kernel) ck10_is_between) w_is_between
  have o6 : OrcOk _ 6 Φ6 := ext_ok g o5 (fnOk_of_top T (x := "is_time") (f := f_is_time) (by decide +kernel) ck10_is_time) w_is_time
  have o7 : OrcOk _ 7 Φ7 := ext_ok g o6 (fnOk_of_top T (x := "are_rising") (f := f_are_rising) (by decide +kernel) ck10_are_rising) w_are_rising
  have o8 : OrcOk _ 8 Φ8 := ext_ok g o7 (fnOk_of_top T (x := "is_plain") (f := f_is_plain) (by decide +kernel) ck10_is_plain) w_is_plain
  have o9 : OrcOk _ 9 Φ9 := ext_ok g o8 (fnOk_of_top T (x := "is_rule") (f := f_is_rule) (by decide +kernel) ck10_is_rule) w_is_rule
  have o10 : OrcOk _ 10 Φa := ext_ok g o9 (fnOk_of_top T (x := "innermost") (f := f_innermost) (by decide +kernel) ck10_innermost) w_innermost
  have o11 : OrcOk _ 11 Φb := ext_ok g o10 (fnOk_of_top T (x := "length_of") (f := f_length_of) (by decide +kernel) ck10_length_of) w_length_of
  have o12 : OrcOk _ 12 Φc := ext_ok g o11 (fnOk_of_top T (x := "begins_plain") (f := f_begins_plain) (by decide +kernel) ck10_begins_plain) w_begins_plain
  have o13 : OrcOk _ 13 Φd := ext_ok g o12 (fnOk_of_top T (x := "begins") (f := f_begins) (by decide +kernel) ck10_begins) w_begins
  have o14 : OrcOk _ 14 Φe := ext_ok g o13 (fnOk_of_top T (x := "covers") (f := f_covers) (by decide +kernel) ck10_covers) w_covers
  have o15 : OrcOk _ 15 Φf := ext_ok g o14 (fnOk_of_top T (x := "some_covers") (f := f_some_covers) (by decide +kernel) ck10_some_covers) w_some_covers
  have o16 : OrcOk _ 16 Φg := ext_ok g o15 (fnOk_of_top T (x := "need_stretch") (f := f_need_stretch) (by decide +kernel) ck10_need_stretch) w_need_stretch
  have o17 : OrcOk _ 17 Φh := ext_ok g o16 (fnOk_of_top T (x := "is_name") (f := f_is_name) (by decide +kernel) ck10_is_name) w_is_name
  have o18 : OrcOk _ 18 Ψ1 := ext_ok g o17 (fnOk_of_cls P ck10_Bneed_somebody) w_need_somebody
  have o19 : OrcOk _ 19 Ψ2 := ext_ok g o18 (fnOk_of_cls P ck10_Bmeets_at) w_meets_at
  have o20 : OrcOk _ 20 Ψ3 := ext_ok g o19 (fnOk_of_cls P ck10_Bfree_at) w_free_at
  have o21 : OrcOk _ 21 Ψ4 := ext_ok g o20 (fnOk_of_cls P ck10_Bneed_all) w_need_all
  have o22 : OrcOk _ 22 Ψ5 := ext_ok g o21 (fnOk_of_cls P ck10_Bbar) w_bar
  have o23 : OrcOk _ 23 Ψ6 := ext_ok g o22 (fnOk_of_cls P ck10_Blook) w_look
  have o24 : OrcOk _ 24 Ψ7 := ext_ok g o23 (fnOk_of_cls P ck10_Bfirst) w_first
  have o25 : OrcOk _ 25 Ψ8 := ext_ok g o24 (fnOk_of_cls P ck10_Bmeet) w_meet
  have o26 : OrcOk _ 26 Ψ9 := ext_ok g o25 (ini10 ▸ fnOk_of_cls P ck10_Binit) w_init
  have o27 : OrcOk _ 27 Ψa := ext_ok g o26 (fnOk_of_cls P ck10_Bcome) w_come
  have o28 : OrcOk _ 28 Ψb := ext_ok g o27 (fnOk_of_cls P ck10_Bbusy) w_busy
  have o29 : OrcOk _ 29 Ψc := ext_ok g o28 (fnOk_of_cls P ck10_Bplace_of) w_place_of
  have o30 : OrcOk _ 30 Ψd := ext_ok g o29 (fnOk_of_cls P ck10_Bdrop) w_drop
  have o31 : OrcOk _ 31 Ψe := ext_ok g o30 (fnOk_of_cls P ck10_Bmove) w_move
  have o32 : OrcOk _ 32 Θ1 := ext_ok g o31 (fnOk_of_top T (x := "_law_cell_at") (f := f_l_cell_at) (by decide +kernel) ck10_law_cell_at) w_cell_at
  have o33 : OrcOk _ 33 Θ2 := ext_ok g o32 (fnOk_of_top T (x := "_law_whole") (f := f_l_whole) (by decide +kernel) ck10_law_whole) w_whole
  have o34 : OrcOk _ 34 Θ3 := ext_ok g o33 (fnOk_of_top T (x := "_law_days") (f := f_l_days) (by decide +kernel) ck10_law_days) w_days
  have o35 : OrcOk _ 35 Θ4 := ext_ok g o34 (fnOk_of_top T (x := "_law_in_month") (f := f_l_in_month) (by decide +kernel) ck10_law_in_month) w_in_month
  have o36 : OrcOk _ 36 Θ5 := ext_ok g o35 (fnOk_of_top T (x := "_law_plain_begins") (f := f_l_plain_begins) (by decide +kernel) ck10_law_plain_begins) w_plain_begins
  have o37 : OrcOk _ 37 Θ6 := ext_ok g o36 (fnOk_of_top T (x := "_law_bearing") (f := f_l_bearing) (by decide +kernel) ck10_law_bearing) w_bearing
  have o38 : OrcOk _ 38 Θ7 := ext_ok g o37 (fnOk_of_top T (x := "_law_heads") (f := f_l_heads) (by decide +kernel) ck10_law_heads) w_heads
  have o39 : OrcOk _ 39 Θ8 := ext_ok g o38 (fnOk_of_top T (x := "_law_begun") (f := f_l_begun) (by decide +kernel) ck10_law_begun) w_begun
  have o40 : OrcOk _ 40 Θ9 := ext_ok g o39 (fnOk_of_top T (x := "_law_size") (f := f_l_size) (by decide +kernel) ck10_law_size) w_size
  have o41 : OrcOk _ 41 Θa := ext_ok g o40 (fnOk_of_top T (x := "_law_weekdays") (f := f_l_weekdays) (by decide +kernel) ck10_law_weekdays) w_weekdays
  have o42 : OrcOk _ 42 Θb := ext_ok g o41 (fnOk_of_top T (x := "_law_plain_by") (f := f_l_plain_by) (by decide +kernel) ck10_law_plain_by) w_plain_by
  have o43 : OrcOk _ 43 Θc := ext_ok g o42 (fnOk_of_top T (x := "_law_head_by") (f := f_l_head_by) (by decide +kernel) ck10_law_head_by) w_head_by
  have o44 : OrcOk _ 44 Θd := ext_ok g o43 (fnOk_of_top T (x := "_law_far") (f := f_l_far) (by decide +kernel) ck10_law_far) w_far
  have o45 : OrcOk _ 45 Θe := ext_ok g o44 (fnOk_of_top T (x := "_law_in_time") (f := f_l_in_time) (by decide +kernel) ck10_law_in_time) w_in_time
  have o46 : OrcOk _ 46 Θf := ext_ok g o45 (fnOk_of_top T (x := "_law_free_by") (f := f_l_free_by) (by decide +kernel) ck10_law_free_by) w_free_by
  have o47 : OrcOk _ 47 Θg := ext_ok g o46 (fnOk_of_top T (x := "_law_name_by") (f := f_l_name_by) (by decide +kernel) ck10_law_name_by) w_name_by
  have o48 : OrcOk _ 48 Θh := ext_ok g o47 (fnOk_of_top T (x := "_law_people_by") (f := f_l_people_by) (by decide +kernel) ck10_law_people_by) w_people_by
  have o49 : OrcOk _ 49 Θi := ext_ok g o48 (fnOk_of_top T (x := "_law_book_of") (f := f_l_book_of) (by decide +kernel) ck10_law_book_of) w_book_of
  have o50 : OrcOk _ 50 Θj := ext_ok g o49 (fnOk_of_top T (x := "_law_lasts") (f := f_l_lasts) (by decide +kernel) ck10_law_lasts) w_lasts
  have o51 : OrcOk _ 51 Θk := ext_ok g o50 (fnOk_of_top T (x := "_law_open") (f := f_l_open) (by decide +kernel) ck10_law_open) w_open
  have o52 : OrcOk _ 52 Θl := ext_ok g o51 (fnOk_of_top T (x := "_law_is_told") (f := f_l_is_told) (by decide +kernel) ck10_law_is_told) w_is_told
  have o53 : OrcOk _ 53 Θm := ext_ok g o52 (fnOk_of_top T (x := "_law_row_holds") (f := f_l_row_holds) (by decide +kernel) ck10_law_row_holds) w_row_holds
  have o54 : OrcOk _ 54 Θn := ext_ok g o53 (fnOk_of_top T (x := "_law_all_open") (f := f_l_all_open) (by decide +kernel) ck10_law_all_open) w_all_open
  have o55 : OrcOk _ 55 Θo := ext_ok g o54 (fnOk_of_top T (x := "_law_holds") (f := f_l_holds) (by decide +kernel) ck10_law_holds) w_holds
  have o56 : OrcOk _ 56 Θp := ext_ok g o55 (fnOk_of_top T (x := "_law_asked") (f := f_l_asked) (by decide +kernel) ck10_law_asked) w_asked
  have o57 : OrcOk _ 57 Θq := ext_ok g o56 (fnOk_of_top T (x := "_law_asked_again") (f := f_l_asked_again) (by decide +kernel) ck10_law_asked_again) w_asked_again
  have o58 : OrcOk _ 58 Θr := ext_ok g o57 (fnOk_of_top T (x := "_law_busier") (f := f_l_busier) (by decide +kernel) ck10_law_busier) w_busier
  have o59 : OrcOk _ 59 Θs := ext_ok g o58 (fnOk_of_top T (x := "_law_taken") (f := f_l_taken) (by decide +kernel) ck10_law_taken) w_taken
  have o60 : OrcOk _ 60 ΦL10 := ext_ok g o59 (fnOk_of_top T (x := "law") (f := f_law) (by decide +kernel) ck10_law) w_lawT
  exact law_top o60 (caller_ok (by decide)) (by decide +kernel) hmg (by assumption) (by assumption) ⟨_, rfl, by omega, fun _ => rfl⟩ (by omega) hg (fun _ => rfl) (by first | rfl | wrow_post)
