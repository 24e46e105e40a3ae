import PyProof.Rows.All
import Wide.All
import OpenK.AllK
import Wide.FinOn
import PySem.Eval
import PyProof.P3Statements
import PyProof.ReprReads
import PyProof.StrBlockL
import PyProof.StrBlock2
import KE.IntText
import PyProof.Cells
import PyProof.Seq
import PyProof.InstStore
import PyProof.DictCompW
import PyProof.Rows.Nodes
import PyProof.Rows.Chain
import PyProof.Rows.TupSub
import PyProof.Rows.StrTemp
import PyProof.CallRoads
import PyProof.SliceSyntax
import PyProof.InstLoad
import PyProof.InstStoreFacts
import PyProof.ObjNew
import PyProof.Rows.Exc
import PyProof.Rows.Own
import PyProof.RaisesMany
import PyProof.ExcBaseAll.ValueError
import PyProof.StrOps
import PyProof.Rows.StrItems
import PyProof.Rows.RuleB_small
import PyProof.Rows.RuleB_floordiv
import PyProof.Rows.RuleB_mod
import PyProof.Rows.RuleB_mul
import PyProof.Rows.RuleU_int
import PyProof.Rows.RuleN_isinstance
import PyProof.Rows.IntRules
import PyProof.Rows.StrRules
import PyProof.Rows.TupMore
import PyProof.Rows.Lst
import PyProof.ListOps
import PyProof.TupleOps
import PyProof.TupleIter
import PyProof.ListIndexNeg
import PyProof.DictRoads
import PyProof.DictKinds
import PyProof.ListTruth
import PyProof.Truth
import PyProof.Rows.FactsC_int_ge
import PyProof.Rows.FactsC_int_le
import PyProof.Rows.ListMulCarried
import PyProof.StrOps2
import PyProof.NeData
import PyProof.EqAt
import PyProof.ConsumeWalk
import PyProof.TupleOfSeq
import PyProof.WalkInts
import PyProof.ListCopy
import PyProof.Conv_int_bool
import PyProof.PlainList
import PyProof.Rows.RuleC_int
import PyProof.IsRules
import PyProof.Rows.RuleIs
import PyProof.Rules3
import PyProof.P3In
import PyProof.SeqI3
import PyProof.ReprRoads
import PyProof.Rows.SeqJoint
import PyProof.CallFns
import PyProof.IsiPairs
import PyProof.IsiHeapPairs
import PyProof.IsiNone
import PyProof.Rows.CountFlat
import PyProof.ForAppend
import PyProof.Rows.AttrNodeAny
import PyProof.SliceList
import KE.KSliceW
import KE.KRevSl
import PyProof.RangeFor
import PyProof.CompFree
import KE.KRevIter
import PyProof.StationsW
import PyProof.Rows.Catch
import OpenK.KCall
import KE.KPairComp
import PyProof.IsInstance
import PyProof.ExcArgsOwn
import PyProof.ExcFactsAll.ValueError
import KE.KItem
import PyProof.AssignAttr
import PyProof.RulesAs
import PyProof.NsDelKeeps
import PyProof.Rows.PlainObj
import OpenK.KLine
import PyProof.Rows.Top
import PyProof.Rows.PlainEq
import PyProof.Rows.TupIn
import Wide.BridgeG
import OpenK.KOwn
import PySem.Challenge.RW_uf010016_14
set_option Elab.async false
set_option linter.unusedVariables false
set_option linter.unusedSimpArgs false
set_option maxRecDepth 20000
set_option autoImplicit false
namespace Mine
theorem e0_3  {P0 P1 P2 : Prop} {R : Prop} (h : P0 ∧ P1 ∧ P2) (k : P0 → P1 → P2 → R) : R := by obtain ⟨h0, h1, h2⟩ := h; exact k h0 h1 h2
theorem e0_4  {P0 P1 P2 P3 : Prop} {R : Prop} (h : P0 ∧ P1 ∧ P2 ∧ P3) (k : P0 → P1 → P2 → P3 → R) : R := by obtain ⟨h0, h1, h2, h3⟩ := h; exact k h0 h1 h2 h3
theorem e1_2.{u0} {α0 : Sort u0} {P0 P1 : α0 → Prop} {R : Prop} (h : ∃ x0, P0 x0 ∧ P1 x0) (k : ∀ x0, P0 x0 → P1 x0 → R) : R := by obtain ⟨x0, h0, h1⟩ := h; exact k x0 h0 h1
theorem e1_3.{u0} {α0 : Sort u0} {P0 P1 P2 : α0 → Prop} {R : Prop} (h : ∃ x0, P0 x0 ∧ P1 x0 ∧ P2 x0) (k : ∀ x0, P0 x0 → P1 x0 → P2 x0 → R) : R := by obtain ⟨x0, h0, h1, h2⟩ := h; exact k x0 h0 h1 h2
theorem e1_4.{u0} {α0 : Sort u0} {P0 P1 P2 P3 : α0 → Prop} {R : Prop} (h : ∃ x0, P0 x0 ∧ P1 x0 ∧ P2 x0 ∧ P3 x0) (k : ∀ x0, P0 x0 → P1 x0 → P2 x0 → P3 x0 → R) : R := by obtain ⟨x0, h0, h1, h2, h3⟩ := h; exact k x0 h0 h1 h2 h3
theorem e2_1.{u0, u1} {α0 : Sort u0} {α1 : Sort u1} {P0 : α0 → α1 → Prop} {R : Prop} (h : ∃ x0 x1, P0 x0 x1) (k : ∀ x0 x1, P0 x0 x1 → R) : R := by obtain ⟨x0, x1, h0⟩ := h; exact k x0 x1 h0
theorem e2_2.{u0, u1} {α0 : Sort u0} {α1 : Sort u1} {P0 P1 : α0 → α1 → Prop} {R : Prop} (h : ∃ x0 x1, P0 x0 x1 ∧ P1 x0 x1) (k : ∀ x0 x1, P0 x0 x1 → P1 x0 x1 → R) : R := by obtain ⟨x0, x1, h0, h1⟩ := h; exact k x0 x1 h0 h1
theorem e2_3.{u0, u1} {α0 : Sort u0} {α1 : Sort u1} {P0 P1 P2 : α0 → α1 → Prop} {R : Prop} (h : ∃ x0 x1, P0 x0 x1 ∧ P1 x0 x1 ∧ P2 x0 x1) (k : ∀ x0 x1, P0 x0 x1 → P1 x0 x1 → P2 x0 x1 → R) : R := by obtain ⟨x0, x1, h0, h1, h2⟩ := h; exact k x0 x1 h0 h1 h2
theorem e2_4.{u0, u1} {α0 : Sort u0} {α1 : Sort u1} {P0 P1 P2 P3 : α0 → α1 → Prop} {R : Prop} (h : ∃ x0 x1, P0 x0 x1 ∧ P1 x0 x1 ∧ P2 x0 x1 ∧ P3 x0 x1) (k : ∀ x0 x1, P0 x0 x1 → P1 x0 x1 → P2 x0 x1 → P3 x0 x1 → R) : R := by obtain ⟨x0, x1, h0, h1, h2, h3⟩ := h; exact k x0 x1 h0 h1 h2 h3
theorem e3_1.{u0, u1, u2} {α0 : Sort u0} {α1 : Sort u1} {α2 : Sort u2} {P0 : α0 → α1 → α2 → Prop} {R : Prop} (h : ∃ x0 x1 x2, P0 x0 x1 x2) (k : ∀ x0 x1 x2, P0 x0 x1 x2 → R) : R := by obtain ⟨x0, x1, x2, h0⟩ := h; exact k x0 x1 x2 h0
theorem e3_2.{u0, u1, u2} {α0 : Sort u0} {α1 : Sort u1} {α2 : Sort u2} {P0 P1 : α0 → α1 → α2 → Prop} {R : Prop} (h : ∃ x0 x1 x2, P0 x0 x1 x2 ∧ P1 x0 x1 x2) (k : ∀ x0 x1 x2, P0 x0 x1 x2 → P1 x0 x1 x2 → R) : R := by obtain ⟨x0, x1, x2, h0, h1⟩ := h; exact k x0 x1 x2 h0 h1
theorem e3_3.{u0, u1, u2} {α0 : Sort u0} {α1 : Sort u1} {α2 : Sort u2} {P0 P1 P2 : α0 → α1 → α2 → Prop} {R : Prop} (h : ∃ x0 x1 x2, P0 x0 x1 x2 ∧ P1 x0 x1 x2 ∧ P2 x0 x1 x2) (k : ∀ x0 x1 x2, P0 x0 x1 x2 → P1 x0 x1 x2 → P2 x0 x1 x2 → R) : R := by obtain ⟨x0, x1, x2, h0, h1, h2⟩ := h; exact k x0 x1 x2 h0 h1 h2
theorem e3_4.{u0, u1, u2} {α0 : Sort u0} {α1 : Sort u1} {α2 : Sort u2} {P0 P1 P2 P3 : α0 → α1 → α2 → Prop} {R : Prop} (h : ∃ x0 x1 x2, P0 x0 x1 x2 ∧ P1 x0 x1 x2 ∧ P2 x0 x1 x2 ∧ P3 x0 x1 x2) (k : ∀ x0 x1 x2, P0 x0 x1 x2 → P1 x0 x1 x2 → P2 x0 x1 x2 → P3 x0 x1 x2 → R) : R := by obtain ⟨x0, x1, x2, h0, h1, h2, h3⟩ := h; exact k x0 x1 x2 h0 h1 h2 h3
theorem e4_5.{u0, u1, u2, u3} {α0 : Sort u0} {α1 : Sort u1} {α2 : Sort u2} {α3 : Sort u3} {P0 P1 P2 P3 P4 : α0 → α1 → α2 → α3 → Prop} {R : Prop} (h : ∃ x0 x1 x2 x3, P0 x0 x1 x2 x3 ∧ P1 x0 x1 x2 x3 ∧ P2 x0 x1 x2 x3 ∧ P3 x0 x1 x2 x3 ∧ P4 x0 x1 x2 x3) (k : ∀ x0 x1 x2 x3, P0 x0 x1 x2 x3 → P1 x0 x1 x2 x3 → P2 x0 x1 x2 x3 → P3 x0 x1 x2 x3 → P4 x0 x1 x2 x3 → R) : R := by obtain ⟨x0, x1, x2, x3, h0, h1, h2, h3, h4⟩ := h; exact k x0 x1 x2 x3 h0 h1 h2 h3 h4
theorem e5_9.{u0, u1, u2, u3, u4} {α0 : Sort u0} {α1 : Sort u1} {α2 : Sort u2} {α3 : Sort u3} {α4 : Sort u4} {P0 P1 P2 P3 P4 P5 P6 P7 P8 : α0 → α1 → α2 → α3 → α4 → Prop} {R : Prop} (h : ∃ x0 x1 x2 x3 x4, P0 x0 x1 x2 x3 x4 ∧ P1 x0 x1 x2 x3 x4 ∧ P2 x0 x1 x2 x3 x4 ∧ P3 x0 x1 x2 x3 x4 ∧ P4 x0 x1 x2 x3 x4 ∧ P5 x0 x1 x2 x3 x4 ∧ P6 x0 x1 x2 x3 x4 ∧ P7 x0 x1 x2 x3 x4 ∧ P8 x0 x1 x2 x3 x4) (k : ∀ x0 x1 x2 x3 x4, P0 x0 x1 x2 x3 x4 → P1 x0 x1 x2 x3 x4 → P2 x0 x1 x2 x3 x4 → P3 x0 x1 x2 x3 x4 → P4 x0 x1 x2 x3 x4 → P5 x0 x1 x2 x3 x4 → P6 x0 x1 x2 x3 x4 → P7 x0 x1 x2 x3 x4 → P8 x0 x1 x2 x3 x4 → R) : R := by obtain ⟨x0, x1, x2, x3, x4, h0, h1, h2, h3, h4, h5, h6, h7, h8⟩ := h; exact k x0 x1 x2 x3 x4 h0 h1 h2 h3 h4 h5 h6 h7 h8
theorem e7_10.{u0, u1, u2, u3, u4, u5, u6} {α0 : Sort u0} {α1 : Sort u1} {α2 : Sort u2} {α3 : Sort u3} {α4 : Sort u4} {α5 : Sort u5} {α6 : Sort u6} {P0 P1 P2 P3 P4 P5 P6 P7 P8 P9 : α0 → α1 → α2 → α3 → α4 → α5 → α6 → Prop} {R : Prop} (h : ∃ x0 x1 x2 x3 x4 x5 x6, P0 x0 x1 x2 x3 x4 x5 x6 ∧ P1 x0 x1 x2 x3 x4 x5 x6 ∧ P2 x0 x1 x2 x3 x4 x5 x6 ∧ P3 x0 x1 x2 x3 x4 x5 x6 ∧ P4 x0 x1 x2 x3 x4 x5 x6 ∧ P5 x0 x1 x2 x3 x4 x5 x6 ∧ P6 x0 x1 x2 x3 x4 x5 x6 ∧ P7 x0 x1 x2 x3 x4 x5 x6 ∧ P8 x0 x1 x2 x3 x4 x5 x6 ∧ P9 x0 x1 x2 x3 x4 x5 x6) (k : ∀ x0 x1 x2 x3 x4 x5 x6, P0 x0 x1 x2 x3 x4 x5 x6 → P1 x0 x1 x2 x3 x4 x5 x6 → P2 x0 x1 x2 x3 x4 x5 x6 → P3 x0 x1 x2 x3 x4 x5 x6 → P4 x0 x1 x2 x3 x4 x5 x6 → P5 x0 x1 x2 x3 x4 x5 x6 → P6 x0 x1 x2 x3 x4 x5 x6 → P7 x0 x1 x2 x3 x4 x5 x6 → P8 x0 x1 x2 x3 x4 x5 x6 → P9 x0 x1 x2 x3 x4 x5 x6 → R) : R := by obtain ⟨x0, x1, x2, x3, x4, x5, x6, h0, h1, h2, h3, h4, h5, h6, h7, h8, h9⟩ := h; exact k x0 x1 x2 x3 x4 x5 x6 h0 h1 h2 h3 h4 h5 h6 h7 h8 h9
end Mine
set_option genSizeOf false
set_option genSizeOfSpec false
set_option genInjectivity false
set_option bootstrap.genMatcherCode false
namespace Mine
open PySem
inductive Ty where
  | int | bool | str | tuple | list | range | reversed | valueError
noncomputable def Ty.name : Ty → String
  | .int => "int" | .bool => "bool" | .str => "str" | .tuple => "tuple" | .list => "list" | .range => "range" | .reversed => "reversed" | .valueError => "ValueError"
inductive Bi where
  | len | isinstance | any | all | max | min | repr
noncomputable def Bi.name : Bi → String
  | .len => "len" | .isinstance => "isinstance" | .any => "any" | .all => "all" | .max => "max" | .min => "min" | .repr => "repr"
inductive Mt where
  | append | count | clear | reverse
noncomputable def Mt.name : Mt → Str
  | .append => "append" | .count => "count" | .clear => "clear" | .reverse => "reverse"
inductive V where
  | none
  | bool (b : Bool)
  | int (i : Int)
  | str (s : Str)
  | tup (l : List V)
  | ref (i : Nat)
  | fn (x : Str)
  | ty (n : Ty)
  | bi (n : Bi)
  | scr (ns : List Int)
  | bk
  | opq (s : Str)
  | cls (x : Str) (ups : List Str)
inductive O where
  | list (xs : List V)
  | inst (j : Nat)
  | ns (fs : List (Str × V))
  | dict (es : List (Str × V))
noncomputable abbrev Hp := List O
noncomputable abbrev Lc := List (Option V)
structure Exc where
  cls : Str
  ups : List Str
inductive SrcK where
  | val | range | range2 | rev
inductive IE where
  | lit (v : V)
  | loc (i : Nat)
  | bin (op : Operator) (a b : IE)
  | neg (a : IE)
  | not (a : IE)
  | and (a b : IE)
  | or (a b : IE)
  | cmp (a : IE) (op : CmpOp) (b : IE)
  | cmp2 (a : IE) (op : CmpOp) (b : IE) (op' : CmpOp) (c : IE)
  | ite (t a b : IE)
  | tup (es : List IE)
  | lst (es : List IE)
  | call (f : V) (args : List IE)
  | meth (o : IE) (name : Mt) (args : List IE)
  | sub (o i : IE)
  | slice (o : IE) (lo hi : Option IE)
  | comp (elt : IE) (var : Nat) (k : SrcK) (src : IE)
  | comp2 (elt : IE) (var : Nat) (k : SrcK) (src : IE)
  | rev (o : IE)
  | attr (o : IE) (x : Str)
  | mcall (o : IE) (x : Str) (args : List IE)
  | new
  | dct
inductive HB where
  | ret (e : IE)
  | any (j : Nat) (ys : List Str)
inductive IS where
  | expr (e : IE)
  | assign (i : Nat) (e : IE)
  | setItem (o k v : IE)
  | ret (e : IE)
  | ite (t : IE) (a b : List IS)
  | while (t : IE) (b : List IS)
  | for (var : Nat) (k : SrcK) (src : IE) (b : List IS)
  | setAttr (o : IE) (x : Str) (e : IE)
  | fail
  | cont
  | raise (x : Str) (ups : List Str)
  | tryR (b : List IS) (hs : List (Str × Option Nat × HB))
inductive Fl where
  | next
  | cont
  | ret (v : V)
theorem bnot : ∀ {b : Bool}, (!b) = true → b = false
  | false, _ => rfl
theorem no_some {α : Type} {b : α} {P : Prop} (h : none = some b) : P := nomatch h
noncomputable def idx {α : Type} (l : List α) (k : Int) : Option α :=
  if 0 ≤ k then l[k.toNat]? else if 0 ≤ k + (l.length : Int) then l[(k + (l.length : Int)).toNat]? else none
noncomputable def idxP {α : Type} (l : List α) (k : Int) : Option α := if 0 ≤ k then l[k.toNat]? else none
theorem idxP_some {α : Type} {l : List α} {k : Int} {v : α} (h : idxP l k = some v) : 0 ≤ k ∧ l[k.toNat]? = some v := by
  unfold idxP at h
  by_cases hk : 0 ≤ k
  · rw [if_pos hk] at h; exact ⟨hk, h⟩
  · rw [if_neg hk] at h; exact no_some h
noncomputable def cutLo : V → Option Nat
  | .none => some 0
  | .int k => if 0 ≤ k then some k.toNat else none
  | _ => none
noncomputable def cutHi (n : Nat) : V → Option Nat
  | .none => some n
  | .int k => if 0 ≤ k then some k.toNat else if k = -1 ∧ 0 < n then some (n - 1) else none
  | _ => none
noncomputable def cutL (lo hi : V) (l : List V) : Option (List V) := (cutLo lo).bind fun a => (cutHi l.length hi).bind fun b => if a ≤ l.length ∧ b ≤ l.length then some ((l.drop a).take (b - a)) else none
mutual
noncomputable def toPy : V → Option PyData
  | .none => some .none
  | .bool b => some (.bool b)
  | .int i => some (.int i)
  | .str x => some (.str x)
  | .tup l => (toPys l).map .tuple
  | _ => none
noncomputable def toPys : List V → Option (List PyData)
  | [] => some []
  | v :: r => (toPy v).bind fun d => (toPys r).map (d :: ·)
end
noncomputable def lstO : O → Option (List V)
  | .list xs => some xs
  | _ => none
noncomputable def listAt (H : Hp) (i : Nat) : Option (List V) := H[i]?.bind lstO
noncomputable def insO : O → Option Nat
  | .inst j => some j
  | _ => none
noncomputable def nsO : O → Option (List (Str × V))
  | .ns fs => some fs
  | _ => none
noncomputable def dctO : O → Option (List (Str × V))
  | .dict es => some es
  | _ => none
noncomputable def dictAt (H : Hp) (i : Nat) : Option (List (Str × V)) := H[i]?.bind dctO
noncomputable def nsAt (H : Hp) (i : Nat) : Option (Nat × List (Str × V)) := (H[i]?.bind insO).bind fun j => (H[j]?.bind nsO).map fun fs => (j, fs)
noncomputable def toPyH (H : Hp) : V → Option PyData
  | .ref i => ((listAt H i).bind toPys).map .list
  | v => toPy v
mutual
noncomputable def toPyT (H : Hp) : V → Option PyData
  | .none => some .none
  | .bool b => some (.bool b)
  | .int i => some (.int i)
  | .str x => some (.str x)
  | .ref i => ((listAt H i).bind toPys).map .list
  | .tup l => (toPysT H l).map .tuple
  | _ => none
noncomputable def toPysT (H : Hp) : List V → Option (List PyData)
  | [] => some []
  | v :: r => (toPyT H v).bind fun d => (toPysT H r).map (d :: ·)
end
noncomputable def eqH (H : Hp) (a b : V) : Option Bool :=
  (toPyT H a).bind fun d => (toPyT H b).bind fun e => if d.depth ≤ 60 then some (PyData.eqv d e) else none
noncomputable def memV (x : V) (l : List V) : Option Bool :=
  (toPy x).bind fun d => (toPys l).bind fun ds => if d.depth ≤ 60 then some (ds.any fun e => PyData.eqv e d) else none
noncomputable def oK {α : Type} (t : Option α) (P : α → Prop) : Prop := match t with | some v => P v | none => False
theorem oK_elim {α : Type} {t : Option α} {P : α → Prop} (h : oK t P) : ∃ v, t = some v ∧ P v := by cases t with | some v => exact ⟨v, rfl, h⟩ | none => exact h.elim
noncomputable def oKK {α : Type} (t : Option (Option α)) (P : α → Prop) : Prop := match t with | some (some v) => P v | _ => False
theorem oKK_elim {α : Type} {t : Option (Option α)} {P : α → Prop} (h : oKK t P) : ∃ v, t = some (some v) ∧ P v := by
  cases t with
  | none => exact h.elim
  | some u => cases u with | some v => exact ⟨v, rfl, h⟩ | none => exact h.elim
noncomputable def tX (v : V) (P : Bool → Prop) : Prop := match v with | .bool b => P b | _ => False
theorem tX_elim {v : V} {P : Bool → Prop} (h : tX v P) : ∃ c, v = .bool c ∧ P c := by
  cases v with
  | bool b => exact ⟨b, rfl, h⟩
  | _ => exact h.elim
noncomputable def intV : V → Option Int
  | .int i => some i
  | _ => none
theorem intV_some {v : V} {i : Int} (h : intV v = some i) : v = .int i := by
  cases v with
  | int _ => exact congrArg V.int (Option.some.inj h)
  | _ => exact no_some h
noncomputable def refV : V → Option Nat
  | .ref i => some i
  | _ => none
theorem refV_some {v : V} {i : Nat} (h : refV v = some i) : v = .ref i := by
  cases v with
  | ref _ => exact congrArg V.ref (Option.some.inj h)
  | _ => exact no_some h
noncomputable def tupV : V → Option (List V)
  | .tup l => some l
  | _ => none
theorem tupV_some {v : V} {l : List V} (h : tupV v = some l) : v = .tup l := by
  cases v with
  | tup _ => exact congrArg V.tup (Option.some.inj h)
  | _ => exact no_some h
noncomputable def strV : V → Option Str
  | .str x => some x
  | _ => none
theorem strV_some {v : V} {x : Str} (h : strV v = some x) : v = .str x := by
  cases v with
  | str _ => exact congrArg V.str (Option.some.inj h)
  | _ => exact no_some h
noncomputable def pAdd (a b : V) (H : Hp) (Q : V → Hp → Prop) : Prop := match a with
  | .int i => oK (intV b) fun j => Q (.int (i + j)) H
  | .str x => oK (strV b) fun y => x.length + y.length ≤ 1000000 ∧ Q (.str (x ++ y)) H
  | .ref i => oK (refV b) fun j => oK (listAt H i) fun xs => oK (listAt H j) fun ys => xs.length + ys.length ≤ 1000000 ∧ Q (.ref H.length) (H ++ [.list (xs ++ ys)])
  | _ => False
noncomputable def pInt (a b : V) (P : Int → Int → Prop) : Prop := oK (intV a) fun i => oK (intV b) fun j => P i j
theorem pInt_elim {a b : V} {P : Int → Int → Prop} (h : pInt a b P) : ∃ i j, a = .int i ∧ b = .int j ∧ P i j := by
  refine e1_2 (oK_elim h) fun i h1 h => ?_
  refine e1_2 (oK_elim h) fun j h2 h => ?_
  exact ⟨i, j, intV_some h1, intV_some h2, h⟩
noncomputable def on1P {α : Type} (l : List α) (P : α → Prop) : Prop := match l with
  | [] => False
  | a :: r => (match r with
    | [] => P a
    | _ :: _ => False)
theorem on1P_elim {α : Type} {l : List α} {P : α → Prop} (h : on1P l P) : ∃ a, l = [a] ∧ P a := by
  cases l with
  | nil => exact h.elim
  | cons a r => cases r with
    | nil => exact ⟨a, rfl, h⟩
    | cons _ _ => exact h.elim
noncomputable def on0P {α : Type} (l : List α) (P : Prop) : Prop := match l with
  | [] => P
  | _ :: _ => False
theorem on0P_elim {α : Type} {l : List α} {P : Prop} (h : on0P l P) : l = [] ∧ P := by
  cases l with
  | nil => exact ⟨rfl, h⟩
  | cons _ _ => exact h.elim
noncomputable def on2P {α : Type} (l : List α) (P : α → α → Prop) : Prop := match l with
  | [] => False
  | a :: r => on1P r (P a)
theorem on2P_elim {α : Type} {l : List α} {P : α → α → Prop} (h : on2P l P) : ∃ a b, l = [a, b] ∧ P a b := by
  cases l with
  | nil => exact h.elim
  | cons a r =>
    refine e1_2 (on1P_elim h) fun b e_1 h => ?_
    obtain rfl := e_1
    exact ⟨a, b, rfl, h⟩
noncomputable def repS (x : Str) (n : Nat) : Str := ⟨(List.replicate n x.cps).foldl (· ++ ·) #[]⟩
noncomputable def pMul (a b : V) (H : Hp) (Q : V → Hp → Prop) : Prop := match a with
  | .int i => oK (intV b) fun j => ((-(2 ^ 64) < i ∧ i < 2 ^ 64) ∨ (-(2 ^ 64) < j ∧ j < 2 ^ 64)) ∧ Q (.int (i * j)) H
  | .ref i => oK (listAt H i) fun xs => on1P xs fun x => oK (intV b) fun n => (0 ≤ n ∧ n ≤ 1000000) ∧ Q (.ref H.length) (H ++ [.list (List.replicate n.toNat x)])
  | .str x => oK (intV b) fun n => (1 < n ∧ n ≤ 1000 ∧ 0 < x.length ∧ x.length ≤ 1000 ∧ (repS x n.toNat).length ≤ 2000000 ∧ PyData.strOk (repS x n.toNat) = true) ∧ Q (.str (repS x n.toNat)) H
  | _ => False
noncomputable def pBin (op : Operator) (a b : V) (H : Hp) (Q : V → Hp → Prop) : Prop :=
  match op with
  | .Add => pAdd a b H Q
  | .Sub => pInt a b fun i j => Q (.int (i - j)) H
  | .Mult => pMul a b H Q
  | .FloorDiv => pInt a b fun i j => (0 < j ∧ j < 2 ^ 128) ∧ Q (.int (i / j)) H
  | .Mod => pInt a b fun i j => (0 < j ∧ j < 2 ^ 128) ∧ Q (.int (i % j)) H
  | .Pow => pInt a b fun i j => (0 ≤ j ∧ j ≤ 1000000 ∧ i.natAbs < 2 ^ 64) ∧ Q (.int (i ^ j.toNat)) H
  | _ => False
noncomputable def strsOf : List V → Option (List Str)
  | [] => some []
  | v :: r => (strV v).bind fun y => (strsOf r).map (y :: ·)
noncomputable def isNoneV : V → Bool
  | .none => true
  | _ => false
noncomputable def sameV (a b : V) : Option Bool := match b with
  | .none => some (isNoneV a)
  | .bool d => (match a with
    | .bool c => some (c == d)
    | _ => none)
  | _ => none
noncomputable def eqK (H : Hp) (a b : V) : Option Bool := match a with
  | .opq x => (match b with
    | .opq y => some (x == y)
    | _ => none)
  | a => eqH H a b
theorem eqK_some {H : Hp} {a b : V} {c : Bool} (h : eqK H a b = some c) : (∃ x y, a = .opq x ∧ b = .opq y ∧ c = (x == y)) ∨ eqH H a b = some c := by
  cases a with
  | opq x => cases b with
    | opq y => exact .inl ⟨x, y, rfl, rfl, (Option.some.inj h).symm⟩
    | _ => exact no_some h
  | _ => exact .inr h
noncomputable def pIn (a b : V) (H : Hp) (P : Bool → Prop) : Prop := match b with
  | .str x => oK (strV a) fun y => P (Txt.contains x y)
  | .tup l => oK (memV a l) P
  | .ref i => oK (listAt H i) fun l => oK (memV a l) P
  | _ => False
noncomputable def pCmp (op : CmpOp) (a b : V) (H : Hp) (Q : V → Hp → Prop) : Prop :=
  match op with
  | .Eq => oK (eqK H a b) fun c => Q (.bool c) H
  | .NotEq => oK (eqH H a b) fun c => Q (.bool (!c)) H
  | .Lt => pInt a b fun i j => Q (.bool (decide (i < j))) H
  | .LtE => pInt a b fun i j => Q (.bool (decide (i ≤ j))) H
  | .Gt => pInt a b fun i j => Q (.bool (decide (j < i))) H
  | .GtE => pInt a b fun i j => Q (.bool (decide (j ≤ i))) H
  | .In => pIn a b H fun c => Q (.bool c) H
  | .NotIn => pIn a b H fun c => Q (.bool (!c)) H
  | .Is => oK (sameV a b) fun c => Q (.bool c) H
  | .IsNot => oK (sameV a b) fun c => Q (.bool (!c)) H
noncomputable def pSubI (o : V) (k : Int) (H : Hp) (Q : V → Hp → Prop) : Prop := match o with
  | .tup l => oK (idxP l k) fun v => Q v H
  | .ref j => oK (listAt H j) fun l => oK (idx l k) fun v => Q v H
  | .scr ns => oK (idxP ns k) fun v => Q (.int v) H
  | .str x => oK (idxP x.cps.toList k) fun c => Q (.str ⟨#[c]⟩) H
  | _ => False
noncomputable def pSub (o i : V) (H : Hp) (Q : V → Hp → Prop) : Prop := match i with
  | .int k => pSubI o k H Q
  | .str x => oK (refV o) fun j => oK (dictAt H j) fun es => oK (es.lookup x) fun v => Q v H
  | _ => False
noncomputable def pSlice (o lo hi : V) (H : Hp) (Q : V → Hp → Prop) : Prop := oK (refV o) fun i => oK (listAt H i) fun xs => oK (cutL lo hi xs) fun ys => Q (.ref H.length) (H ++ [.list ys])
noncomputable def pRev (o : V) (H : Hp) (Q : V → Hp → Prop) : Prop := oK (refV o) fun i => oK (listAt H i) fun xs => Q (.ref H.length) (H ++ [.list xs.reverse])
noncomputable def pSet (o k v : V) (H : Hp) (Q : Hp → Prop) : Prop := oK (refV o) fun i => (match k with
  | .int j => oK (listAt H i) fun l => (0 ≤ j ∧ j < (l.length : Int)) ∧ Q (H.set i (.list (l.set j.toNat v)))
  | .str x => oK (dictAt H i) fun es => es.length ≤ 100000 ∧ Q (H.set i (.dict ((x, v) :: es)))
  | _ => False)
noncomputable def fldOk (x : Str) : Bool := x == "names" || x == "free_rules" || x == "busy_rules" || x == "held" || x == "given"
noncomputable def pAttr (o : V) (x : Str) (H : Hp) (Q : V → Hp → Prop) : Prop := oK (refV o) fun i => oK (nsAt H i) fun p => oK (p.2.lookup x) fun v => Q v H
noncomputable def pSetA (o : V) (x : Str) (v : V) (H : Hp) (Q : Hp → Prop) : Prop := oK (refV o) fun i => oK (nsAt H i) fun p => p.2.length ≤ 100000 ∧ Q (H.set p.1 (.ns ((x, v) :: p.2)))
noncomputable def tyOf (H : Hp) : V → Option Ty
  | .bool _ => some .bool
  | .int _ => some .int
  | .str _ => some .str
  | .tup _ => some .tuple
  | .ref i => (listAt H i).map fun _ => .list
  | _ => none
noncomputable def subTy (a b : Ty) : Bool := match b with
  | .int => (match a with
    | .int => true
    | .bool => true
    | _ => false)
  | .bool => (match a with
    | .bool => true
    | _ => false)
  | .str => (match a with
    | .str => true
    | _ => false)
  | .tuple => (match a with
    | .tuple => true
    | _ => false)
  | .list => (match a with
    | .list => true
    | _ => false)
  | _ => false
noncomputable def isiTy : Ty → Bool
  | .int => true
  | .bool => true
  | .str => true
  | .tuple => true
  | .list => true
  | _ => false
noncomputable def isInstH (H : Hp) (v : V) (n : Ty) : Option Bool := match isiTy n with
  | true => (match v with
    | .none => some false
    | v => (tyOf H v).map fun t => subTy t n)
  | false => none
noncomputable def boolV : V → Option Bool
  | .bool b => some b
  | _ => none
noncomputable def allBools : List V → Option (List Bool)
  | [] => some []
  | v :: r => (boolV v).bind fun b => (allBools r).map (b :: ·)
noncomputable abbrev Orc := Str → List V → Hp → (V → Hp → Prop) → (Exc → Hp → Prop) → Prop
noncomputable def tyV : V → Option Ty
  | .ty t => some t
  | _ => none
theorem tyV_some {v : V} {t : Ty} (h : tyV v = some t) : v = .ty t := by
  cases v with
  | ty _ => exact congrArg V.ty (Option.some.inj h)
  | _ => exact no_some h
noncomputable def intsOf : List V → Option (List Int)
  | [] => some []
  | v :: r => (intV v).bind fun i => (intsOf r).map (i :: ·)
noncomputable def pMax (args : List V) (H : Hp) (Q : V → Hp → Prop) : Prop := match args with
  | [] => False
  | a :: r => (match r with
    | [] => oK (refV a) fun i => oK (listAt H i) fun l => oK (intsOf l) fun ns => ns ≠ [] ∧ ∀ m, m ∈ ns → (∀ x ∈ ns, x ≤ m) → Q (.int m) H
    | b :: r => on0P r (pInt a b fun i j => Q (.int (max i j)) H))
noncomputable def pLen (v : V) (H : Hp) (Q : V → Hp → Prop) : Prop := match v with
  | .tup l => Q (.int (l.length : Int)) H
  | .ref i => oK (listAt H i) fun l => Q (.int (l.length : Int)) H
  | .scr ns => Q (.int (ns.length : Int)) H
  | .str x => Q (.int (x.length : Int)) H
  | _ => False
noncomputable def pBi (b : Bi) (args : List V) (H : Hp) (Q : V → Hp → Prop) : Prop :=
  match b with
  | .len => on1P args fun v => pLen v H Q
  | .isinstance => on2P args fun v w => oK (tyV w) fun t => oK (isInstH H v t) fun c => Q (.bool c) H
  | .any => on1P args fun v => oK (refV v) fun i => oK (listAt H i) fun l => oK (allBools l) fun bs => Q (.bool (bs.any id)) H
  | .all => on1P args fun v => oK (refV v) fun i => oK (listAt H i) fun l => oK (allBools l) fun bs => Q (.bool (bs.all id)) H
  | .max => pMax args H Q
  | .min => on2P args fun v w => pInt v w fun i j => Q (.int (min i j)) H
  | .repr => on1P args fun v => oK (toPyT H v) fun d => (d.showable = true ∧ d.depth ≤ 60 ∧ d.shown.length ≤ 16000000) ∧ Q (.opq d.shown) H
noncomputable def pTy1 (b : Ty) (v : V) (H : Hp) (Q : V → Hp → Prop) : Prop := match b with
  | .int => oK (boolV v) fun b => Q (.int (if b then 1 else 0)) H
  | .tuple => oK (refV v) fun i => oK (listAt H i) fun l => Q (.tup l) H
  | .list => oK (refV v) fun i => oK (listAt H i) fun l => Q (.ref H.length) (H ++ [.list l])
  | _ => False
noncomputable def pTy (b : Ty) (args : List V) (H : Hp) (Q : V → Hp → Prop) : Prop := on1P args fun v => pTy1 b v H Q
noncomputable def pCall (Φ : Orc) (f : V) (args : List V) (H : Hp) (Q : V → Hp → Prop) (X : Exc → Hp → Prop) : Prop :=
  match f with
  | .fn x => Φ x args H Q X
  | .bi b => pBi b args H Q
  | .ty t => pTy t args H Q
  | _ => False
noncomputable def okMeth (H : Hp) (o : V) : Prop := match o with
  | .ref i => ∃ l, listAt H i = some l
  | _ => False
noncomputable def pMeth (o : V) (name : Mt) (args : List V) (H : Hp) (Q : V → Hp → Prop) : Prop :=
  oK (refV o) fun i => oK (listAt H i) fun l => (match name with
  | .append => on1P args fun v => l.length ≤ 1000000 ∧ Q .none (H.set i (.list (l ++ [v])))
  | .count => on1P args fun v => oK (strsOf l) fun ys => oK (strV v) fun y => Q (.int ((ys.count y : Nat) : Int)) H
  | .clear => on0P args (Q .none (H.set i (.list [])))
  | .reverse => on0P args (Q .none (H.set i (.list l.reverse))))
noncomputable def rangeL (a b : Int) : List V := (List.range (b - a).toNat).map fun (k : Nat) => V.int (a + (k : Int))
noncomputable def pVal (v : V) (H : Hp) (Q : List V → (Hp → Prop) → Prop) : Prop := match v with
  | .tup l => Q l (fun _ => True)
  | .str x => x.cps.all (· < 128) = true ∧ Q (x.cps.toList.map fun c => V.str ⟨#[c]⟩) (fun _ => True)
  | .ref i => oK (listAt H i) fun l => Q l (fun H' => listAt H' i = some l)
  | _ => False
noncomputable def pSrc (k : SrcK) (v : V) (H : Hp) (Q : List V → (Hp → Prop) → Prop) : Prop :=
  match k with
  | .val => pVal v H Q
  | .range => oK (intV v) fun a => (-(2 ^ 62) ≤ a ∧ a ≤ 1000000) ∧ Q (rangeL 0 a) (fun _ => True)
  | .range2 => oK (tupV v) fun l => on2P l fun v w => pInt v w fun a b => (-(2 ^ 62) ≤ a ∧ a < 2 ^ 62 ∧ -(2 ^ 62) ≤ b ∧ b < 2 ^ 62 ∧ b - a ≤ 1000000) ∧ Q (rangeL a b) (fun _ => True)
  | .rev => oK (refV v) fun i => oK (listAt H i) fun l => Q l.reverse (fun H' => listAt H' i = some l)
noncomputable abbrev XL := Exc → Hp → Prop
noncomputable def ifP (c : Bool) (A B : Prop) : Prop := match c with | true => A | false => B
noncomputable def bd1 (j : Nat) (L : Lc) (x : V) : Option Lc := some (L.set j (some x))
noncomputable def two : List V → Option (V × V)
  | [] => none
  | a :: r => (match r with
    | [] => none
    | b :: r => (match r with
      | [] => some (a, b)
      | _ :: _ => none))
noncomputable def bd2 (j : Nat) (L : Lc) (x : V) : Option Lc := ((tupV x).bind two).map fun p => (L.set j (some p.1)).set (j + 1) (some p.2)
noncomputable def compGoB (el : Lc → Hp → (V → Hp → Prop) → Prop) (st : Hp → Prop) (bd : V → Option Lc) : List V → List V → Hp → (List V → Hp → Prop) → Prop
  | [], acc, H, Q => Q acc H
  | x :: r, acc, H, Q => oK (bd x) fun L => el L H (fun y H2 => st H2 ∧ compGoB el st bd r (acc ++ [y]) H2 Q)
noncomputable abbrev compGo (el : Lc → Hp → (V → Hp → Prop) → Prop) (st : Hp → Prop) (j : Nat) (L : Lc) : List V → List V → Hp → (List V → Hp → Prop) → Prop := compGoB el st (bd1 j L)
noncomputable abbrev noX : XL := fun _ _ => False
noncomputable abbrev noXS : Exc → Lc → Hp → Prop := fun _ _ _ => False
structure ET where
  E : Lc → Hp → (V → Hp → Prop) → XL → Prop
  T : Lc → Hp → (Bool → Hp → Prop) → XL → Prop
noncomputable def ET.of (E : Lc → Hp → (V → Hp → Prop) → XL → Prop) : ET :=
  ⟨E, fun L H Q X => E L H (fun v H1 => tX v fun c => Q c H1) X⟩
mutual
noncomputable def wp2 (Φ : Orc) : IE → ET
  | .lit v => .of fun _ H Q _ => Q v H
  | .loc i => .of fun L H Q _ => oKK L[i]? fun v => Q v H
  | .bin op a b => .of fun L H Q X => (wp2 Φ a).E L H (fun va H1 => (wp2 Φ b).E L H1 (fun vb H2 => pBin op va vb H2 Q) X) X
  | .neg a => .of fun L H Q X => (wp2 Φ a).E L H (fun v H1 => oK (intV v) fun i => Q (.int (-i)) H1) X
  | .not a => ⟨fun L H Q X => (wp2 Φ a).E L H (fun v H1 => tX v fun c => Q (.bool (!c)) H1) X,
      fun L H Q X => (wp2 Φ a).T L H (fun c H1 => Q (!c) H1) X⟩
  | .and a b => ⟨fun L H Q X => (wp2 Φ a).E L H (fun v H1 => tX v fun c => ifP c ((wp2 Φ b).E L H1 Q X) (Q v H1)) X,
      fun L H Q X => (wp2 Φ a).T L H (fun c H1 => ifP c ((wp2 Φ b).T L H1 Q X) (Q false H1)) X⟩
  | .or a b => ⟨fun L H Q X => (wp2 Φ a).E L H (fun v H1 => tX v fun c => ifP c (Q v H1) ((wp2 Φ b).E L H1 Q X)) X,
      fun L H Q X => (wp2 Φ a).T L H (fun c H1 => ifP c (Q true H1) ((wp2 Φ b).T L H1 Q X)) X⟩
  | .cmp a op b => .of fun L H Q X => (wp2 Φ a).E L H (fun va H1 => (wp2 Φ b).E L H1 (fun vb H2 => pCmp op va vb H2 Q) X) X
  | .cmp2 a op b op' c => .of fun L H Q X => (wp2 Φ a).E L H (fun va H1 => (wp2 Φ b).E L H1 (fun vb H2 => pCmp op va vb H2 (fun r H3 =>
      tX r fun t => ifP t ((wp2 Φ c).E L H3 (fun vc H4 => pCmp op' vb vc H4 Q) X) (Q r H3))) X) X
  | .ite t a b => ⟨fun L H Q X => (wp2 Φ t).T L H (fun c H1 => ifP c ((wp2 Φ a).E L H1 Q X) ((wp2 Φ b).E L H1 Q X)) X,
      fun L H Q X => (wp2 Φ t).T L H (fun c H1 => ifP c ((wp2 Φ a).T L H1 Q X) ((wp2 Φ b).T L H1 Q X)) X⟩
  | .tup es => .of fun L H Q X => wpEs Φ es L H (fun vs H1 => vs.length ≤ 1000000 ∧ Q (.tup vs) H1) X
  | .lst es => .of fun L H Q X => wpEs Φ es L H (fun vs H1 => vs.length ≤ 1000000 ∧ Q (.ref H1.length) (H1 ++ [.list vs])) X
  | .call f args => .of fun L H Q X => wpEs Φ args L H (fun vs H1 => pCall Φ f vs H1 Q X) X
  | .meth o name args => .of fun L H Q X => (wp2 Φ o).E L H (fun vo H1 => okMeth H1 vo ∧ wpEs Φ args L H1 (fun vs H2 => pMeth vo name vs H2 Q) X) X
  | .sub o i => .of fun L H Q X => (wp2 Φ o).E L H (fun vo H1 => (wp2 Φ i).E L H1 (fun vi H2 => pSub vo vi H2 Q) X) X
  | .slice o lo hi => .of fun L H Q X => (wp2 Φ o).E L H (fun vo H1 => wpO Φ lo L H1 (fun vl H2 => wpO Φ hi L H2 (fun vh H3 => pSlice vo vl vh H3 Q) X) X) X
  | .comp elt j k src => .of fun L H Q X => (wp2 Φ src).E L H (fun v H1 => pSrc k v H1 fun items st =>
      compGo (fun L' H' K => (wp2 Φ elt).E L' H' K noX) st j L items [] H1
        (fun ys H2 => ys.length ≤ 1000000 ∧ Q (.ref H2.length) (H2 ++ [.list ys]))) X
  | .comp2 elt j k src => .of fun L H Q X => (wp2 Φ src).E L H (fun v H1 => pSrc k v H1 fun items st =>
      compGoB (fun L' H' K => (wp2 Φ elt).E L' H' K noX) st (bd2 j L) items [] H1
        (fun ys H2 => ys.length ≤ 1000000 ∧ Q (.ref H2.length) (H2 ++ [.list ys]))) X
  | .rev o => .of fun L H Q X => (wp2 Φ o).E L H (fun vo H1 => pRev vo H1 Q) X
  | .attr o x => .of fun L H Q X => (wp2 Φ o).E L H (fun vo H1 => pAttr vo x H1 Q) X
  | .mcall o x args => .of fun L H Q X => (wp2 Φ o).E L H (fun vo H1 => oK (refV vo) fun i => oK (nsAt H1 i) fun _ => wpEs Φ args L H1 (fun vs H2 => Φ (Str.ofString "Book." ++ x) (.ref i :: vs) H2 Q X) X) X
  | .new => .of fun _ H Q X => Φ "Book.__init__" [.ref (H.length + 1)] (H ++ [.ns []] ++ [.inst H.length]) (fun v H1 => isNoneV v = true ∧ Q (.ref (H.length + 1)) H1) X
  | .dct => .of fun _ H Q _ => Q (.ref H.length) (H ++ [.dict []])
noncomputable def wpEs (Φ : Orc) : List IE → Lc → Hp → (List V → Hp → Prop) → XL → Prop
  | [], _, H, Q, _ => Q [] H
  | e :: r, L, H, Q, X => (wp2 Φ e).E L H (fun v H1 => wpEs Φ r L H1 (fun vs H2 => Q (v :: vs) H2) X) X
noncomputable def wpO (Φ : Orc) : Option IE → Lc → Hp → (V → Hp → Prop) → XL → Prop
  | none, _, H, Q, _ => Q .none H
  | some e, L, H, Q, X => (wp2 Φ e).E L H Q X
end
noncomputable abbrev QS := Fl → Lc → Hp → Prop
noncomputable abbrev XS := Exc → Lc → Hp → Prop
noncomputable def nxt (go : Lc → Hp → Prop) (Q : QS) : QS := fun fl L1 H1 => match fl with
  | .next => go L1 H1
  | .cont => Q .cont L1 H1
  | .ret v => Q (.ret v) L1 H1
noncomputable def lop (go : Lc → Hp → Prop) (Q : QS) : QS := fun fl L1 H1 => match fl with
  | .next => go L1 H1
  | .cont => go L1 H1
  | .ret v => Q (.ret v) L1 H1
noncomputable def forGo (body : Lc → Hp → QS → Prop) (st : Hp → Prop) (j : Nat) : List V → Lc → Hp → QS → Prop
  | [], L, H, Q => Q .next L H
  | x :: r, L, H, Q => body (L.set j (some x)) H (lop (fun L1 H1 => st H1 ∧ forGo body st j r L1 H1 Q) Q)
noncomputable def whileGo (test : Lc → Hp → (Bool → Hp → Prop) → Prop) (body : Lc → Hp → QS → Prop) : Nat → Lc → Hp → QS → Prop
  | 0, _, _, _ => False
  | n + 1, L, H, Q => test L H (fun c H1 => ifP c (body L H1 (lop (fun L1 H2 => whileGo test body n L1 H2 Q) Q)) (Q .next L H1))
noncomputable def evR (L : Lc) : IE → Option V
  | .lit v => some v
  | .loc i => L[i]?.bind id
  | _ => none
noncomputable def unL (n : Option Nat) (L : Lc) : Lc := match n with | some i => L.set i none | none => L
noncomputable def anyV (x : Exc) (ys : List Str) : Bool := (ys.filter fun y => x.ups.contains y).length == 1
noncomputable def hndl (x : Exc) (L : Lc) (H : Hp) (Q : QS) : List (Str × Option Nat × HB) → Prop
  | [] => False
  | h :: r => ifP (x.ups.contains h.1) (match h.2.2 with
    | .ret e => oK (evR (unL h.2.1 L) e) fun v => Q (.ret v) (unL h.2.1 L) H
    | .any j ys => Q (.ret (.bool (anyV x ys))) ((unL h.2.1 L).set j none) H) (hndl x L H Q r)
mutual
noncomputable def wpS (Φ : Orc) : IS → Lc → Hp → QS → XS → Prop
  | .expr e, L, H, Q, X => (wp2 Φ e).E L H (fun _ H1 => Q .next L H1) (fun x => X x L)
  | .assign i e, L, H, Q, X => (wp2 Φ e).E L H (fun v H1 => Q .next (L.set i (some v)) H1) (fun x => X x L)
  | .setItem o k v, L, H, Q, X => (wp2 Φ v).E L H (fun vv H1 => (wp2 Φ o).E L H1 (fun vo H2 => (wp2 Φ k).E L H2 (fun vk H3 => pSet vo vk vv H3 (Q .next L)) (fun x => X x L)) (fun x => X x L)) (fun x => X x L)
  | .ret e, L, H, Q, X => (wp2 Φ e).E L H (fun v H1 => Q (.ret v) L H1) (fun x => X x L)
  | .ite t a b, L, H, Q, X => (wp2 Φ t).T L H (fun c H1 => ifP c (wpSs Φ a L H1 Q X) (wpSs Φ b L H1 Q X)) (fun x => X x L)
  | .while t b, L, H, Q, X => ∃ n, whileGo (fun L' H' K => (wp2 Φ t).T L' H' K noX) (fun L' H' K => wpSs Φ b L' H' K noXS) n L H Q
  | .for j k src b, L, H, Q, X => (wp2 Φ src).E L H (fun v H1 => pSrc k v H1 fun items st =>
      forGo (fun L' H' K => wpSs Φ b L' H' K X) st j items L H1 Q) (fun x => X x L)
  | .setAttr o x e, L, H, Q, X => (wp2 Φ e).E L H (fun vv H1 => (wp2 Φ o).E L H1 (fun vo H2 => pSetA vo x vv H2 (Q .next L)) (fun x => X x L)) (fun x => X x L)
  | .fail, _, _, _, _ => False
  | .cont, L, H, Q, _ => Q .cont L H
  | .raise x ups, L, H, _, X => X ⟨x, ups⟩ L H
  | .tryR b hs, L, H, Q, X => wpSs Φ b L H Q (fun x L' H' => hndl x L' H' Q hs)
noncomputable def wpSs (Φ : Orc) : List IS → Lc → Hp → QS → XS → Prop
  | [], L, H, Q, _ => Q .next L H
  | s :: r, L, H, Q, X => wpS Φ s L H (nxt (fun L1 H1 => wpSs Φ r L1 H1 Q X) Q) X
end
noncomputable def bdy : IS → List IS
  | .while _ b => b
  | .for _ _ _ b => b
  | .ite _ a _ => a
  | _ => []
structure Fn where
  names : Nat
  params : Nat
  body : List IS
noncomputable def initL (f : Fn) (vs : List V) : Lc := vs.map some ++ List.replicate (f.names - f.params) none
noncomputable def retV : Fl → V
  | .ret v => v
  | _ => .none
noncomputable def wpFn (Φ : Orc) (f : Fn) (vs : List V) (H : Hp) (Q : V → Hp → Prop) (X : XL) : Prop :=
  vs.length = f.params ∧ wpSs Φ f.body (initL f vs) H (fun fl _ H1 => Q (retV fl) H1) (fun x _ H1 => X x H1)
end Mine
namespace Mine
open PySem
structure CC where
  G : List (Str × V)
  mts : List Str
  scope : Scope
  slots : List (Str × Nat)
  nxt : Nat
noncomputable def mapO {α β : Type} (f : α → Option β) : List α → Option (List β)
  | [] => some []
  | a :: r => (f a).bind fun b => (mapO f r).map (b :: ·)
noncomputable def constV : Const → Option V
  | .none => some .none
  | .bool b => some (.bool b)
  | .int i => some (.int i)
  | .str s => if s.length ≤ 2000000 ∧ PyData.strOk s = true then some (.str s) else none
  | _ => none
noncomputable def relab (scope outer : Scope) : Scope :=
  { scope with names := scope.names.map fun (n, k) => if (k == .free && outer.kind == .function && outer.names.lookup n == some .cell) then (n, .cell) else (n, k) }
noncomputable def isCell (y : Str × NameKind) : Bool := y.2 == .cell
noncomputable def okComp (scope outer : Scope) : Bool :=
  scope.kind == .function && (scope.names.all fun y => (y.2 != .local || scope.names.lookup y.1 == some .local) && (y.2 != .free || (outer.kind == .function && outer.names.lookup y.1 == some .cell)))
noncomputable def okVar (scope : Scope) (x : Str) : Bool := (scope.names.lookup x == some .local && (scope.names.filter isCell).isEmpty) || (scope.names.lookup x == some .cell && scope.names.filter isCell == [(x, .cell)])
noncomputable def isComp : Expr → Bool
  | .ListComp .. => true
  | .SetComp .. => true
  | .DictComp .. => true
  | _ => false
noncomputable def isStar : Expr → Bool
  | .Starred .. => true
  | _ => false
noncomputable def plainBase : Expr → Bool
  | .Call .. => false
  | _ => true
noncomputable def onlyIf {α : Type} (b : Bool) (x : Option α) : Option α := match b with | true => x | false => none
theorem onlyIf_some {α : Type} {b : Bool} {x : Option α} {y : α} (h : onlyIf b x = some y) : b = true ∧ x = some y := by cases b with | true => exact ⟨rfl, h⟩ | false => exact no_some h
noncomputable def mtOf (x : Str) : Option Mt := [Mt.append, .count, .clear, .reverse].find? fun m => x == m.name
theorem mtOf_some {x : Str} {m : Mt} (h : mtOf x = some m) : x = m.name := eq_of_beq (List.find?_some (p := fun m : Mt => x == m.name) h)
noncomputable def Mt.one : Mt → Bool
  | .append => true
  | .count => true
  | _ => false
noncomputable def kindV (c : CC) (x : Str) : Option NameKind := onlyIf (!(x == ("__debug__" : Str))) (c.scope.names.lookup x)
noncomputable def nameV (c : CC) (x : Str) : Option IE := (kindV c x).bind fun k => match k with
  | .globalImplicit => (c.G.lookup x).map .lit
  | .local => (c.slots.lookup x).map .loc
  | .cell => (c.slots.lookup x).map .loc
  | _ => none
noncomputable def globV (c : CC) (x : Str) : Option V := (kindV c x).bind fun k => match k with
  | .globalImplicit => c.G.lookup x
  | _ => none
noncomputable def boolGo (mk : IE → IE → IE) : List IE → Option IE
  | [] => none
  | a :: r => (match r with
    | [] => some a
    | b :: s => (boolGo mk (b :: s)).map (mk a))
noncomputable def oTwo {α β γ : Type} (f : α → β → γ) (x : Option α) (y : Option β) : Option γ := match x with | some a => (match y with | some b => some (f a b) | none => none) | none => none
theorem oTwo_some {α β γ : Type} {f : α → β → γ} {x : Option α} {y : Option β} {z : γ} (h : oTwo f x y = some z) : ∃ a b, x = some a ∧ y = some b ∧ z = f a b := by
  cases x with
  | none => exact no_some h
  | some a => cases y with
    | none => exact no_some h
    | some b => exact ⟨a, b, rfl, rfl, (Option.some.inj h).symm⟩
noncomputable def oThree {α β γ δ : Type} (f : α → β → γ → δ) (x : Option α) (y : Option β) (z : Option γ) : Option δ := match x with | some a => oTwo (f a) y z | none => none
theorem oThree_some {α β γ δ : Type} {f : α → β → γ → δ} {x : Option α} {y : Option β} {z : Option γ} {u : δ} (h : oThree f x y z = some u) : ∃ a b c, x = some a ∧ y = some b ∧ z = some c ∧ u = f a b c := by
  cases x with
  | none => exact no_some h
  | some a => obtain ⟨b, c, h1, h2, h3⟩ := oTwo_some h; exact ⟨a, b, c, rfl, h1, h2, h3⟩
noncomputable def onName {β : Type} (e : Expr) (k : Str → Option β) : Option β := match e with
  | .Name x _ => k x
  | _ => none
theorem onName_some {β : Type} {e : Expr} {k : Str → Option β} {b : β} (h : onName e k = some b) : ∃ x p, e = .Name x p ∧ k x = some b := by
  cases e with
  | Name x p => exact ⟨x, p, rfl, h⟩
  | _ => exact no_some h
noncomputable def on1 {α β : Type} (l : List α) (k : α → Option β) : Option β := match l with
  | [] => none
  | a :: r => (match r with
    | [] => k a
    | _ :: _ => none)
theorem on1_some {α β : Type} {l : List α} {k : α → Option β} {b : β} (h : on1 l k = some b) : ∃ a, l = [a] ∧ k a = some b := by
  cases l with
  | nil => exact no_some h
  | cons a r => cases r with
    | nil => exact ⟨a, rfl, h⟩
    | cons _ _ => exact no_some h
noncomputable def onConst {β : Type} (e : Expr) (k : Const → Option β) : Option β := match e with
  | .Constant c _ _ => k c
  | _ => none
theorem onConst_some {β : Type} {e : Expr} {k : Const → Option β} {b : β} (h : onConst e k = some b) : ∃ c n p, e = .Constant c n p ∧ k c = some b := by
  cases e with
  | Constant c n p => exact ⟨c, n, p, rfl, h⟩
  | _ => exact no_some h
noncomputable def onRet {β : Type} (s : Stmt) (k : Expr → Option β) : Option β := match s with
  | .Return v _ => v.bind k
  | _ => none
theorem onRet_some {β : Type} {s : Stmt} {k : Expr → Option β} {b : β} (h : onRet s k = some b) : ∃ e p, s = .Return (some e) p ∧ k e = some b := by
  cases s with
  | Return v p => cases v with
    | some e => exact ⟨e, p, rfl, h⟩
    | none => exact no_some h
  | _ => exact no_some h
noncomputable def onCall {β : Type} (e : Expr) (k : Expr → List Expr → Option β) : Option β := match e with
  | .Call f as ks _ => (match ks with
    | [] => k f as
    | _ :: _ => none)
  | _ => none
theorem onCall_some {β : Type} {e : Expr} {k : Expr → List Expr → Option β} {b : β} (h : onCall e k = some b) : ∃ f as p, e = .Call f as [] p ∧ k f as = some b := by
  cases e with
  | Call f as ks p => cases ks with
    | nil => exact ⟨f, as, p, rfl, h⟩
    | cons _ _ => exact no_some h
  | _ => exact no_some h
noncomputable def on2 {α β : Type} (l : List α) (k : α → α → Option β) : Option β := match l with
  | [] => none
  | a :: r => on1 r (k a)
theorem on2_some {α β : Type} {l : List α} {k : α → α → Option β} {b : β} (h : on2 l k = some b) : ∃ a c, l = [a, c] ∧ k a c = some b := by
  cases l with
  | nil => exact no_some h
  | cons a r =>
    refine e1_2 (on1_some h) fun c e_2 h => ?_
    obtain rfl := e_2
    exact ⟨a, c, rfl, h⟩
noncomputable def srcK : V → Option SrcK
  | .ty t => (match t with
    | .range => some .range
    | .reversed => some .rev
    | _ => none)
  | _ => none
noncomputable def srcE (f : Expr → Option IE) (k : SrcK) (as : List Expr) : Option (SrcK × IE) := match as with
  | [] => none
  | a :: r => onlyIf (!isStar a) (match k with
    | .range => (match r with
      | [] => (f a).map fun v => (k, v)
      | b :: s => onlyIf (!isStar b && s.isEmpty) (oTwo (fun v w => (.range2, .tup [v, w])) (f a) (f b)))
    | _ => onlyIf r.isEmpty ((f a).map fun v => (k, v)))
noncomputable def srcN (c : CC) (e : Expr) : Option (SrcK × List Expr) := onCall e fun f as => onName f fun g => ((globV c g).bind srcK).map fun k => (k, as)
noncomputable def compSrc (f : Expr → Option IE) (c : CC) (e : Expr) : Option (SrcK × IE) := match srcN c e with
  | some ka => srcE f ka.1 ka.2
  | none => (f e).map fun v => (SrcK.val, v)
noncomputable def methE (f : Expr → Option IE) (m : Mt) (args : List Expr) (o : Option IE) : Option IE := match m.one with
  | true => on1 args fun a => oTwo (fun v i => .meth v m [i]) o (f a)
  | false => onlyIf args.isEmpty (o.map fun v => .meth v m [])
noncomputable def innerC (c : CC) (scope : Scope) (x : Str) : CC := { c with scope := relab scope c.scope, slots := (x, c.nxt) :: c.slots, nxt := c.nxt + 1 }
noncomputable def optE (f : Expr → Option IE) : Option Expr → Option (Option IE)
  | none => some none
  | some e => (f e).map some
noncomputable def isM1 : Expr → Bool
  | .UnaryOp o e _ => (match o with
    | .USub => (match e with
      | .Constant k _ _ => (match k with
        | .int i => i == 1
        | _ => false)
      | _ => false)
    | _ => false)
  | _ => false
noncomputable def subE (f : Expr → Option IE) (o i : Expr) : Option IE := match i with
  | .Slice lo hi st _ => (match st with
    | none => oThree IE.slice (f o) (optE f lo) (optE f hi)
    | some e => onlyIf (isM1 e && lo.isNone && hi.isNone) ((f o).map .rev))
  | _ => oTwo IE.sub (f o) (f i)
noncomputable def cUn (op : UnaryOp) (x : Option IE) : Option IE := match op with
  | .USub => x.map .neg
  | .Not => x.map .not
  | _ => none
noncomputable def cBool (op : BoolOp) (vs : Option (List IE)) : Option IE := vs.bind fun vs => match op with
  | .And => boolGo .and vs
  | .Or => boolGo .or vs
noncomputable def cCmp (f : Expr → Option IE) (l : Option IE) (ops : List CmpOp) (rs : List Expr) : Option IE := match ops with
  | [] => none
  | op :: ops => (match ops with
    | [] => on1 rs fun r => oTwo (fun a b => .cmp a op b) l (f r)
    | op' :: _ => onlyIf (ops.length.beq 1) (on2 rs fun r r' => oThree (fun a b d => .cmp2 a op b op' d) l (f r) (f r')))
noncomputable def isBk : Option V → Bool
  | some v => (match v with
    | .bk => true
    | _ => false)
  | none => false
noncomputable def cCall (f : Expr → Option IE) (c : CC) (fn : Expr) (args : List Expr) (pos : Pos) : Option IE := onlyIf (!args.any isStar && args.length.ble 20) (match fn with
  | .Name x _ => (match isBk (globV c x) with
    | true => onlyIf args.isEmpty (some .new)
    | false => oTwo IE.call (globV c x) (mapO f args))
  | .Attribute o name apos => onlyIf (plainBase o && apos.endLine.beq pos.line) (match mtOf name with
    | some m => methE f m args (f o)
    | none => onlyIf (c.mts.contains name) (oTwo (fun v as => .mcall v name as) (f o) (mapO f args)))
  | _ => none)
noncomputable def okC (c : CC) (scope : Scope) (x : Str) (a : Int) : Bool := a == 0 && okComp scope c.scope && okVar scope x && (scope.names.all fun y => y.2 != .local || y.1 == x || (c.slots.lookup y.1).isNone) && (c.slots.all fun p => p.2 < c.nxt)
noncomputable def isTup : Expr → Bool
  | .Tuple .. => true
  | _ => false
noncomputable def onTup {β : Type} (e : Expr) (k : List Expr → Option β) : Option β := match e with
  | .Tuple es _ _ => k es
  | _ => none
theorem onTup_some {β : Type} {e : Expr} {k : List Expr → Option β} {b : β} (h : onTup e k = some b) : ∃ es n p, e = .Tuple es n p ∧ k es = some b := by
  cases e with
  | Tuple es n p => exact ⟨es, n, p, rfl, h⟩
  | _ => exact no_some h
noncomputable def innerC2 (c : CC) (scope : Scope) (x y : Str) : CC := { c with scope := relab scope c.scope, slots := (x, c.nxt) :: (y, c.nxt + 1) :: c.slots, nxt := c.nxt + 2 }
noncomputable def okC2 (c : CC) (scope : Scope) (x y : Str) (a : Int) : Bool := a == 0 && okComp scope c.scope && (scope.names.lookup x == some .local && scope.names.lookup y == some .local && !(x == y) && (scope.names.filter isCell).isEmpty) && (scope.names.all fun z => z.2 != .local || z.1 == x || z.1 == y || (c.slots.lookup z.1).isNone) && (c.slots.all fun p => p.2 < c.nxt)
noncomputable def cLc (f : CC → Expr → Option IE) (c : CC) (elt : Expr) (gens : List Comprehension) (scope : Scope) : Option IE := on1 gens fun g => match isTup g.target with
  | true => onTup g.target fun ts => on2 ts fun tx ty => onName tx fun x => onName ty fun y => onlyIf (okC2 c scope x y g.is_async && g.ifs.isEmpty) (oTwo (fun ks e => .comp2 e c.nxt ks.1 ks.2) (compSrc (f c) c g.iter) (f (innerC2 c scope x y) elt))
  | false => onName g.target fun x => onlyIf (okC c scope x g.is_async && g.ifs.isEmpty) (oTwo (fun ks e => .comp e c.nxt ks.1 ks.2) (compSrc (f c) c g.iter) (f (innerC c scope x) elt))
noncomputable def stepE (f : CC → Expr → Option IE) (c : CC) (e : Expr) : Option IE := match e with
  | .Constant k _ _ => (constV k).map .lit
  | .Name x _ => nameV c x
  | .BinOp l op r _ => oTwo (IE.bin op) (f c l) (f c r)
  | .UnaryOp op x _ => cUn op (f c x)
  | .BoolOp op vs _ => cBool op (mapO (f c) vs)
  | .IfExp t a b _ => oThree IE.ite (f c t) (f c a) (f c b)
  | .Compare l ops rs _ => cCmp (f c) (f c l) ops rs
  | .Tuple es _ _ => onlyIf (!es.any isStar) ((mapO (f c) es).map .tup)
  | .List es _ => onlyIf (!es.any isStar) ((mapO (f c) es).map .lst)
  | .Call fn args ks pos => onlyIf ks.isEmpty (cCall (f c) c fn args pos)
  | .Subscript o i _ => subE (f c) o i
  | .ListComp elt gens scope _ => cLc f c elt gens scope
  | .Attribute o x _ => onlyIf (fldOk x && plainBase o) ((f c o).map fun v => .attr v x)
  | .Dict ks vs _ => onlyIf (ks.isEmpty && vs.isEmpty) (some .dct)
  | _ => none
noncomputable def compE : Nat → CC → Expr → Option IE
  | 0 => fun _ _ => none
  | n + 1 => stepE (compE n)
noncomputable def slotV (c : CC) (x : Str) : Option Nat := (c.scope.names.lookup x).bind fun k => match k with
  | .local => c.slots.lookup x
  | .cell => c.slots.lookup x
  | _ => none
noncomputable def clsU : V → Option (Str × List Str)
  | .cls z ups => some (z, ups)
  | _ => none
noncomputable def ownC (c : CC) (y : Str) : Option (List Str) := ((globV c y).bind clsU).bind fun u => onlyIf (u.1 == y) (some u.2)
noncomputable def isNm : Expr → Bool
  | .Name .. => true
  | _ => false
noncomputable def compR (c : CC) (e : Expr) : Option IE := match isNm e with
  | true => onName e fun x => onlyIf (c.scope.names.lookup x == some .local && !(x == ("__debug__" : Str))) ((c.slots.lookup x).map .loc)
  | false => onConst e fun k => (constV k).map .lit
noncomputable def onList {β : Type} (e : Expr) (k : List Expr → Option β) : Option β := match e with
  | .List es _ => k es
  | _ => none
theorem onList_some {β : Type} {e : Expr} {k : List Expr → Option β} {b : β} (h : onList e k = some b) : ∃ es p, e = .List es p ∧ k es = some b := by
  cases e with
  | List es p => exact ⟨es, p, rfl, h⟩
  | _ => exact no_some h
noncomputable def onAdd {β : Type} (e : Expr) (k : Expr → Expr → Option β) : Option β := match e with
  | .BinOp l op r _ => (match op with
    | .Add => k l r
    | _ => none)
  | _ => none
theorem onAdd_some {β : Type} {e : Expr} {k : Expr → Expr → Option β} {b : β} (h : onAdd e k = some b) : ∃ l r p, e = .BinOp l .Add r p ∧ k l r = some b := by
  cases e with
  | BinOp l op r p => cases op with
    | Add => exact ⟨l, r, p, rfl, h⟩
    | _ => exact no_some h
  | _ => exact no_some h
noncomputable def onAsg {β : Type} (s : Stmt) (k : Str → Expr → Option β) : Option β := match s with
  | .Assign ts e _ => on1 ts fun t => onName t fun x => k x e
  | _ => none
theorem onAsg_some {β : Type} {s : Stmt} {k : Str → Expr → Option β} {b : β} (h : onAsg s k = some b) : ∃ x xp e p, s = .Assign [.Name x xp] e p ∧ k x e = some b := by
  cases s with
  | Assign ts e p =>
    refine e1_2 (on1_some (show on1 ts _ = some b from h)) fun t e_3 h => ?_
    obtain rfl := e_3
    refine e2_2 (onName_some h) fun x xp e_4 h => ?_
    obtain rfl := e_4
    exact ⟨x, xp, e, p, rfl, h⟩
  | _ => exact no_some h
noncomputable def onAnd {β : Type} (e : Expr) (k : Expr → Expr → Option β) : Option β := match e with
  | .BoolOp o vs _ => (match o with
    | .And => on2 vs k
    | _ => none)
  | _ => none
theorem onAnd_some {β : Type} {e : Expr} {k : Expr → Expr → Option β} {b : β} (h : onAnd e k = some b) : ∃ x y p, e = .BoolOp .And [x, y] p ∧ k x y = some b := by
  cases e with
  | BoolOp o vs p => cases o with
    | And =>
      refine e2_2 (on2_some (show on2 vs k = some b from h)) fun x y e_5 h => ?_
      obtain rfl := e_5
      exact ⟨x, y, p, rfl, h⟩
    | _ => exact no_some h
  | _ => exact no_some h
noncomputable def onEq1 {β : Type} (e : Expr) (k : Expr → Option β) : Option β := match e with
  | .Compare l ops rs _ => on1 ops fun op => on1 rs fun r => (match op with
    | .Eq => onConst r fun c => (match c with
      | .int i => onlyIf (i == 1) (k l)
      | _ => none)
    | _ => none)
  | _ => none
theorem onEq1_some {β : Type} {e : Expr} {k : Expr → Option β} {b : β} (h : onEq1 e k = some b) : ∃ l n kp p, e = .Compare l [.Eq] [.Constant (.int 1) n kp] p ∧ k l = some b := by
  cases e with
  | Compare l ops rs p =>
    refine e1_2 (on1_some (show on1 ops _ = some b from h)) fun op e_6 h => ?_
    obtain rfl := e_6
    refine e1_2 (on1_some h) fun r e_7 h => ?_
    obtain rfl := e_7
    cases op with
    | Eq =>
      refine e3_2 (onConst_some (show onConst r _ = some b from h)) fun c n kp e_8 h => ?_
      obtain rfl := e_8
      cases c with
      | int i =>
        obtain ⟨h1, h⟩ := onlyIf_some (show onlyIf (i == 1) _ = some b from h)
        rw [beq_iff_eq.mp h1]
        exact ⟨l, n, kp, p, rfl, h⟩
      | _ => exact no_some h
    | _ => exact no_some h
  | _ => exact no_some h
noncomputable def onCount {β : Type} (e : Expr) (k : Expr → Option β) : Option β := match e with
  | .Call f as ks pos => (match f with
    | .Attribute o m ap => onlyIf (m == Mt.count.name && ks.isEmpty && plainBase o && ap.endLine.beq pos.line) (on1 as fun a => onConst a fun c => (match c with
      | .bool b => onlyIf b (k o)
      | _ => none))
    | _ => none)
  | _ => none
theorem onCount_some {β : Type} {e : Expr} {k : Expr → Option β} {b : β} (h : onCount e k = some b) : ∃ o ap n kp p, e = .Call (.Attribute o Mt.count.name ap) [.Constant (.bool true) n kp] [] p ∧ plainBase o = true ∧ ap.endLine = p.line ∧ k o = some b := by
  cases e with
  | Call f as ks p => cases f with
    | Attribute o m ap =>
      obtain ⟨h0, h'⟩ := onlyIf_some (show onlyIf (m == Mt.count.name && ks.isEmpty && plainBase o && ap.endLine.beq p.line) _ = some b from h)
      clear h
      rw [Bool.and_eq_true, Bool.and_eq_true, Bool.and_eq_true] at h0
      obtain rfl : m = Mt.count.name := eq_of_beq h0.1.1.1
      obtain rfl : ks = [] := List.isEmpty_iff.mp h0.1.1.2
      refine e1_2 (on1_some h') fun a e_9 h => ?_
      obtain rfl := e_9
      refine e3_2 (onConst_some h) fun c n kp e_10 h => ?_
      obtain rfl := e_10
      cases c with
      | bool t =>
        obtain ⟨rfl, h⟩ := onlyIf_some (show onlyIf t _ = some b from h)
        exact ⟨o, ap, n, kp, p, rfl, h0.1.2, Nat.eq_of_beq_eq_true h0.2, h⟩
      | _ => exact no_some h
    | _ => exact no_some h
  | _ => exact no_some h
noncomputable def isIsi : Option V → Bool
  | some v => (match v with
    | .bi b => (match b with
      | .isinstance => true
      | _ => false)
    | _ => false)
  | none => false
noncomputable def isVE : Option V → Bool
  | some v => (match v with
    | .ty t => (match t with
      | .valueError => true
      | _ => false)
    | _ => false)
  | none => false
noncomputable def onIsi {β : Type} (c : CC) (nm : Str) (e : Expr) (k : Str → Option β) : Option β := onCall e fun f as => onName f fun g => on2 as fun a b => onName a fun x => onName b fun y => onlyIf (isIsi (globV c g) && x == nm) (k y)
noncomputable def isiOf (c : CC) (nm : Str) (e : Expr) : Option Str := onIsi c nm e fun y => (ownC c y).map fun _ => y
noncomputable def isiL (c : CC) (nm : Str) (e : Expr) : Option (List Str) := onList e (mapO (isiOf c nm))
noncomputable def plusL (c : CC) (nm sm : Str) (e : Expr) : Option (List Str) := onAdd e fun l r => onName l fun x => onlyIf (x == sm) (isiL c nm r)
noncomputable def anyE (c : CC) (nm sm : Str) (e : Expr) : Option (List Str) := onAnd e fun a b => (onIsi c nm a fun y => onlyIf (isVE (globV c y)) (some y)).bind fun _ => onEq1 b fun l => onCount l (plusL c nm sm)
noncomputable def okNm (c : CC) (nm sm : Str) : Bool := c.scope.names.lookup nm == some .local && c.scope.names.lookup sm == some .local && !(nm == sm) && !(nm == ("__debug__" : Str)) && !(sm == ("__debug__" : Str))
noncomputable def anyB (c : CC) (nm : Str) (body : List Stmt) : Option (Nat × Nat × List Str) := match body with
  | [] => none
  | s1 :: r => on2 r fun s2 s3 => onAsg s1 fun sm e1 => (isiL c nm e1).bind fun y1 => onAsg s2 fun sm2 e2 => onlyIf (sm2 == sm && okNm c nm sm) ((plusL c nm sm e2).bind fun y2 => onRet s3 fun e3 => (anyE c nm sm e3).bind fun y3 => onlyIf ((y1 ++ y2 ++ y3).length.ble 100)
      (oTwo (fun i j => (i, j, y1 ++ y2 ++ y3)) (c.slots.lookup nm) (c.slots.lookup sm)))
noncomputable def compH (c : CC) : ExceptHandler → Option (Str × Option Nat × HB)
  | .ExceptHandler ty nm body _ => ty.bind fun t => onName t fun y => (ownC c y).bind fun _ => (match nm with
    | none => on1 body fun st => onRet st fun e => (compR c e).map fun ie => (y, none, .ret ie)
    | some nm => (anyB c nm body).map fun u => (y, some u.1, .any u.2.1 u.2.2))
noncomputable def raiseOf (e d : Option Expr) : Option (Str × Const) := match d with
  | some _ => none
  | none => e.bind fun e => onCall e fun f as => onName f fun x => on1 as fun a => onConst a fun k => some (x, k)
theorem raiseOf_some {e d : Option Expr} {x : Str} {k : Const} (h : raiseOf e d = some (x, k)) : ∃ np kn kp cp, e = some (.Call (.Name x np) [.Constant k kn kp] [] cp) ∧ d = none := by
  cases d with
  | some _ => exact no_some h
  | none => cases e with
    | none => exact no_some h
    | some e =>
      refine e3_2 (onCall_some h) fun f as p e_11 h => ?_
      obtain rfl := e_11
      refine e2_2 (onName_some h) fun x' np e_12 h => ?_
      obtain rfl := e_12
      refine e1_2 (on1_some h) fun a e_13 h => ?_
      obtain rfl := e_13
      refine e3_2 (onConst_some h) fun k' kn kp e_14 h => ?_
      obtain rfl := e_14
      cases h
      exact ⟨np, kn, kp, p, rfl, rfl⟩
noncomputable def raiseE (c : CC) (o : Option (Str × Const)) : Option IS := o.bind fun u => onlyIf (constV u.2).isSome ((ownC c u.1).map fun ups => .raise u.1 ups)
noncomputable def cAsg (f : Expr → Option IE) (c : CC) (e t : Expr) : Option IS := match t with
  | .Name x _ => oTwo IS.assign (slotV c x) (f e)
  | .Subscript o i _ => onlyIf (!isComp e) (oThree (fun v o i => IS.setItem o i v) (f e) (f o) (f i))
  | .Attribute o x _ => onlyIf (!isComp e && fldOk x) (oTwo (fun v o => IS.setAttr o x v) (f e) (f o))
  | _ => none
noncomputable def cFor (f : Expr → Option IE) (c : CC) (t iter : Expr) (b : Option (List IS)) : Option IS := onName t fun x => oThree (fun i ks b => .for i ks.1 ks.2 b) (slotV c x) (compSrc f c iter) b
noncomputable def stepS (f : Expr → Option IE) (g : Stmt → Option IS) (c : CC) (st : Stmt) : Option IS := match st with
  | .Expr e _ => onlyIf (!isComp e) ((f e).map .expr)
  | .Assign ts e _ => on1 ts (cAsg f c e)
  | .Return v _ => v.bind fun e => (f e).map .ret
  | .If t a b _ => oThree IS.ite (f t) (mapO g a) (mapO g b)
  | .While t b els _ => onlyIf els.isEmpty (oTwo IS.while (f t) (mapO g b))
  | .For t iter b els _ => onlyIf els.isEmpty (cFor f c t iter (mapO g b))
  | .Raise e cause _ => raiseE c (raiseOf e cause)
  | .Try b hs els fin _ => onlyIf (els.isEmpty && fin.isEmpty && !hs.isEmpty) (oTwo IS.tryR (mapO g b) (mapO (compH c) hs))
  | .Continue _ => some .cont
  | _ => none
noncomputable def compS : Nat → CC → Stmt → Option IS
  | 0 => fun _ _ => none
  | n + 1 => fun c => stepS (compE n c) (compS n c) c
noncomputable def slotsGo : List Str → Nat → List (Str × Nat)
  | [], _ => []
  | x :: r, k => (x, k) :: slotsGo r (k + 1)
noncomputable def ownNames (params : List Str) (scope : Scope) : List Str :=
  params ++ ((scope.names.filter fun x => (x.2 == .local || x.2 == .cell) && !params.contains x.1).map (·.1))
noncomputable def compFn (G : List (Str × V)) (mts : List Str) (params : List Str) (body : List Stmt) (scope : Scope) : Option Fn :=
  let ns := ownNames params scope
  let c : CC := { G, mts, scope, slots := slotsGo ns 0, nxt := ns.length }
  (mapO (compS 40 c) body).map fun b => { names := ns.length + 3, params := params.length, body := b }
end Mine
namespace Mine
open PySem
section
variable {Φ : Orc} {L : Lc} {H : Hp} {Q : V → Hp → Prop} {P : Bool → Hp → Prop} {X : XL} {QF : QS} {XF : XS}
theorem X_lit {v : V} : (wp2 Φ (.lit v)).E L H Q X = Q v H := rfl
theorem X_loc {i : Nat} : (wp2 Φ (.loc i)).E L H Q X = oKK L[i]? fun v => Q v H := rfl
theorem X_bin {op : Operator} {a b : IE} : (wp2 Φ (.bin op a b)).E L H Q X = (wp2 Φ a).E L H (fun va H1 => (wp2 Φ b).E L H1 (fun vb H2 => pBin op va vb H2 Q) X) X := rfl
theorem X_neg {a : IE} : (wp2 Φ (.neg a)).E L H Q X = (wp2 Φ a).E L H (fun v H1 => oK (intV v) fun i => Q (.int (-i)) H1) X := rfl
theorem negX_int {i : Int} : intV (.int i) = some i := rfl
theorem X_not {a : IE} : (wp2 Φ (.not a)).E L H Q X = (wp2 Φ a).E L H (fun v H1 => tX v fun c => Q (.bool (!c)) H1) X := rfl
theorem Y_not {a : IE} : (wp2 Φ (.not a)).T L H P X = (wp2 Φ a).T L H (fun c H1 => P (!c) H1) X := rfl
theorem X_and {a b : IE} : (wp2 Φ (.and a b)).E L H Q X = (wp2 Φ a).E L H (fun v H1 => tX v fun c => ifP c ((wp2 Φ b).E L H1 Q X) (Q v H1)) X := rfl
theorem Y_and {a b : IE} : (wp2 Φ (.and a b)).T L H P X = (wp2 Φ a).T L H (fun c H1 => ifP c ((wp2 Φ b).T L H1 P X) (P false H1)) X := rfl
theorem X_or {a b : IE} : (wp2 Φ (.or a b)).E L H Q X = (wp2 Φ a).E L H (fun v H1 => tX v fun c => ifP c (Q v H1) ((wp2 Φ b).E L H1 Q X)) X := rfl
theorem Y_or {a b : IE} : (wp2 Φ (.or a b)).T L H P X = (wp2 Φ a).T L H (fun c H1 => ifP c (P true H1) ((wp2 Φ b).T L H1 P X)) X := rfl
theorem X_cmp {a b : IE} {op : CmpOp} : (wp2 Φ (.cmp a op b)).E L H Q X = (wp2 Φ a).E L H (fun va H1 => (wp2 Φ b).E L H1 (fun vb H2 => pCmp op va vb H2 Q) X) X := rfl
theorem X_cmp2 {a b c : IE} {op op' : CmpOp} : (wp2 Φ (.cmp2 a op b op' c)).E L H Q X = (wp2 Φ a).E L H (fun va H1 => (wp2 Φ b).E L H1 (fun vb H2 => pCmp op va vb H2 (fun r H3 =>
      tX r fun t => ifP t ((wp2 Φ c).E L H3 (fun vc H4 => pCmp op' vb vc H4 Q) X) (Q r H3))) X) X := rfl
theorem X_ite {t a b : IE} : (wp2 Φ (.ite t a b)).E L H Q X = (wp2 Φ t).T L H (fun c H1 => ifP c ((wp2 Φ a).E L H1 Q X) ((wp2 Φ b).E L H1 Q X)) X := rfl
theorem Y_ite {t a b : IE} : (wp2 Φ (.ite t a b)).T L H P X = (wp2 Φ t).T L H (fun c H1 => ifP c ((wp2 Φ a).T L H1 P X) ((wp2 Φ b).T L H1 P X)) X := rfl
theorem X_tup {es : List IE} : (wp2 Φ (.tup es)).E L H Q X = wpEs Φ es L H (fun vs H1 => vs.length ≤ 1000000 ∧ Q (.tup vs) H1) X := rfl
theorem X_lst {es : List IE} : (wp2 Φ (.lst es)).E L H Q X = wpEs Φ es L H (fun vs H1 => vs.length ≤ 1000000 ∧ Q (.ref H1.length) (H1 ++ [.list vs])) X := rfl
theorem X_call {f : V} {args : List IE} : (wp2 Φ (.call f args)).E L H Q X = wpEs Φ args L H (fun vs H1 => pCall Φ f vs H1 Q X) X := rfl
theorem X_meth {o : IE} {name : Mt} {args : List IE} : (wp2 Φ (.meth o name args)).E L H Q X = (wp2 Φ o).E L H (fun vo H1 => okMeth H1 vo ∧ wpEs Φ args L H1 (fun vs H2 => pMeth vo name vs H2 Q) X) X := rfl
theorem X_sub {o i : IE} : (wp2 Φ (.sub o i)).E L H Q X = (wp2 Φ o).E L H (fun vo H1 => (wp2 Φ i).E L H1 (fun vi H2 => pSub vo vi H2 Q) X) X := rfl
noncomputable def coEX (Φ : Orc) (elt : IE) (X : XL) : Lc → Hp → (V → Hp → Prop) → Prop := fun L' H' K => (wp2 Φ elt).E L' H' K X
theorem X_comp {elt : IE} {j : Nat} {k : SrcK} {src : IE} : (wp2 Φ (.comp elt j k src)).E L H Q X = (wp2 Φ src).E L H (fun v H1 => pSrc k v H1 fun items st =>
      compGo (coEX Φ elt noX) st j L items [] H1 (fun ys H2 => ys.length ≤ 1000000 ∧ Q (.ref H2.length) (H2 ++ [.list ys]))) X := rfl
theorem Y_lit {v : V} : (wp2 Φ (.lit v)).T L H P X = tX v fun c => P c H := rfl
theorem Y_loc {i : Nat} : (wp2 Φ (.loc i)).T L H P X = oKK L[i]? fun v => tX v fun c => P c H := rfl
theorem Y_cmp {a b : IE} {op : CmpOp} : (wp2 Φ (.cmp a op b)).T L H P X = (wp2 Φ (.cmp a op b)).E L H (fun v H1 => tX v fun c => P c H1) X := rfl
theorem Y_cmp2 {a b c : IE} {op op' : CmpOp} : (wp2 Φ (.cmp2 a op b op' c)).T L H P X = (wp2 Φ (.cmp2 a op b op' c)).E L H (fun v H1 => tX v fun c => P c H1) X := rfl
theorem Y_call {f : V} {args : List IE} : (wp2 Φ (.call f args)).T L H P X = (wp2 Φ (.call f args)).E L H (fun v H1 => tX v fun c => P c H1) X := rfl
theorem Y_sub {o i : IE} : (wp2 Φ (.sub o i)).T L H P X = (wp2 Φ (.sub o i)).E L H (fun v H1 => tX v fun c => P c H1) X := rfl
theorem XEs_nil {R : List V → Hp → Prop} : wpEs Φ [] L H R X = R [] H := rfl
theorem XEs_cons {e : IE} {r : List IE} {R : List V → Hp → Prop} : wpEs Φ (e :: r) L H R X = (wp2 Φ e).E L H (fun v H1 => wpEs Φ r L H1 (fun vs H2 => R (v :: vs) H2) X) X := rfl
theorem Z_expr {e : IE} : wpS Φ (.expr e) L H QF XF = (wp2 Φ e).E L H (fun _ H1 => QF .next L H1) (fun x => XF x L) := rfl
theorem Z_assign {i : Nat} {e : IE} : wpS Φ (.assign i e) L H QF XF = (wp2 Φ e).E L H (fun v H1 => QF .next (L.set i (some v)) H1) (fun x => XF x L) := rfl
theorem Z_ret {e : IE} : wpS Φ (.ret e) L H QF XF = (wp2 Φ e).E L H (fun v H1 => QF (.ret v) L H1) (fun x => XF x L) := rfl
theorem Z_ite {t : IE} {a b : List IS} : wpS Φ (.ite t a b) L H QF XF = (wp2 Φ t).T L H (fun c H1 => ifP c (wpSs Φ a L H1 QF XF) (wpSs Φ b L H1 QF XF)) (fun x => XF x L) := rfl
noncomputable def whTX (Φ : Orc) (t : IE) (XF : XL) : Lc → Hp → (Bool → Hp → Prop) → Prop := fun L' H' K => (wp2 Φ t).T L' H' K XF
noncomputable def whBX (Φ : Orc) (b : List IS) (XF : XS) : Lc → Hp → QS → Prop := fun L' H' K => wpSs Φ b L' H' K XF
theorem Z_while {t : IE} {b : List IS} : wpS Φ (.while t b) L H QF XF = ∃ n, whileGo (whTX Φ t noX) (whBX Φ b noXS) n L H QF := rfl
theorem Z_for {j : Nat} {k : SrcK} {src : IE} {b : List IS} : wpS Φ (.for j k src b) L H QF XF = (wp2 Φ src).E L H (fun v H1 => pSrc k v H1 fun items st =>
      forGo (whBX Φ b XF) st j items L H1 QF) (fun x => XF x L) := rfl
theorem Zs_nil : wpSs Φ [] L H QF XF = QF .next L H := rfl
noncomputable def sqX (Φ : Orc) (r : List IS) (QF : QS) (XF : XS) : QS := nxt (fun L1 H1 => wpSs Φ r L1 H1 QF XF) QF
theorem sqX_next {r : List IS} : sqX Φ r QF XF .next L H = wpSs Φ r L H QF XF := rfl
theorem sqX_cont {r : List IS} : sqX Φ r QF XF .cont L H = QF .cont L H := rfl
theorem Z_raise {x : Str} {ups : List Str} : wpS Φ (.raise x ups) L H QF XF = XF ⟨x, ups⟩ L H := rfl
noncomputable def hnX (hs : List (Str × Option Nat × HB)) (QF : QS) : XS := fun x L' H' => hndl x L' H' QF hs
theorem Z_try {b : List IS} {hs : List (Str × Option Nat × HB)} : wpS Φ (.tryR b hs) L H QF XF = wpSs Φ b L H QF (hnX hs QF) := rfl
theorem Z_cont : wpS Φ .cont L H QF XF = QF .cont L H := rfl
theorem sqX_ret {r : List IS} {v : V} : sqX Φ r QF XF (.ret v) L H = QF (.ret v) L H := rfl
theorem Zs_cons {s : IS} {r : List IS} : wpSs Φ (s :: r) L H QF XF = wpS Φ s L H (sqX Φ r QF XF) XF := rfl
theorem zs_cons {s : IS} {r : List IS} (h : wpS Φ s L H (sqX Φ r QF XF) XF) : wpSs Φ (s :: r) L H QF XF := h
noncomputable def wkX (test : Lc → Hp → (Bool → Hp → Prop) → Prop) (body : Lc → Hp → QS → Prop) (n : Nat) (Q : QS) : QS := lop (fun L1 H2 => whileGo test body n L1 H2 Q) Q
noncomputable def fkX (body : Lc → Hp → QS → Prop) (st : Hp → Prop) (j : Nat) (r : List V) (Q : QS) : QS := lop (fun L1 H1 => st H1 ∧ forGo body st j r L1 H1 Q) Q
end
section
variable {Φ : Orc} {t : IE} {b : List IS} {XF : XS} {X : XL} {test : Lc → Hp → (Bool → Hp → Prop) → Prop} {body : Lc → Hp → QS → Prop} {n : Nat} {Q : QS} {L : Lc} {H : Hp} {st : Hp → Prop} {j : Nat} {x : V} {r : List V} {v : V} {acc : List V} {QL : List V → Hp → Prop} {elt : IE}
theorem whX_s : whileGo (whTX Φ t X) (whBX Φ b XF) (n + 1) L H Q = (wp2 Φ t).T L H (fun c H1 => ifP c (wpSs Φ b L H1 (wkX (whTX Φ t X) (whBX Φ b XF) n Q) XF) (Q .next L H1)) X := rfl
theorem wkX_next : wkX test body n Q .next L H = whileGo test body n L H Q := rfl
theorem wkX_ret : wkX test body n Q (.ret v) L H = Q (.ret v) L H := rfl
theorem foX_nil : forGo body st j [] L H Q = Q .next L H := rfl
theorem foX_cons : forGo (whBX Φ b XF) st j (x :: r) L H Q = wpSs Φ b (L.set j (some x)) H (fkX (whBX Φ b XF) st j r Q) XF := rfl
theorem fkX_next : fkX body st j r Q .next L H = (st H ∧ forGo body st j r L H Q) := rfl
theorem fkX_cont : fkX body st j r Q .cont L H = (st H ∧ forGo body st j r L H Q) := rfl
theorem fkX_ret : fkX body st j r Q (.ret v) L H = Q (.ret v) L H := rfl
theorem coX_nil {el : Lc → Hp → (V → Hp → Prop) → Prop} : compGo el st j L [] acc H QL = QL acc H := rfl
theorem coX_cons : compGo (coEX Φ elt X) st j L (x :: r) acc H QL = (wp2 Φ elt).E (L.set j (some x)) H (fun y H2 => st H2 ∧ compGo (coEX Φ elt X) st j L r (acc ++ [y]) H2 QL) X := rfl
theorem X_comp2 {Q : V → Hp → Prop} {k : SrcK} {src : IE} : (wp2 Φ (.comp2 elt j k src)).E L H Q X = (wp2 Φ src).E L H (fun v H1 => pSrc k v H1 fun items st =>
      compGoB (coEX Φ elt noX) st (bd2 j L) items [] H1 (fun ys H2 => ys.length ≤ 1000000 ∧ Q (.ref H2.length) (H2 ++ [.list ys]))) X := rfl
theorem co2_nil {el : Lc → Hp → (V → Hp → Prop) → Prop} {bd : V → Option Lc} : compGoB el st bd [] acc H QL = QL acc H := rfl
theorem co2_cons {a b : V} : compGoB (coEX Φ elt X) st (bd2 j L) (.tup [a, b] :: r) acc H QL = (wp2 Φ elt).E ((L.set j (some a)).set (j + 1) (some b)) H (fun y H2 => st H2 ∧ compGoB (coEX Φ elt X) st (bd2 j L) r (acc ++ [y]) H2 QL) X := rfl
theorem oKK_some {α : Type} {a : α} {P : α → Prop} : oKK (some (some a)) P = P a := rfl
theorem oK_some {α : Type} {a : α} {P : α → Prop} : oK (some a) P = P a := rfl
theorem tX_bool {b : Bool} {P : Bool → Prop} : tX (.bool b) P = P b := rfl
theorem iX_t {A B : Prop} : ifP true A B = A := rfl
theorem iX_f {A B : Prop} : ifP false A B = B := rfl
theorem iX_d {p : Prop} [Decidable p] {A B : Prop} : ifP (decide p) A B = ((p → A) ∧ (¬ p → B)) := by by_cases h : p <;> simp [ifP, h]
theorem iX_p {p : Prop} [Decidable p] {A B : Prop} (h1 : p → A) (h2 : ¬ p → B) : ifP (decide p) A B := by by_cases h : p <;> simp only [h, decide_true, decide_false, ifP]; exact h1 h; exact h2 h
theorem iX_b {c : Bool} {A B : Prop} (h1 : c = true → A) (h2 : c = false → B) : ifP c A B := by cases c; exact h2 rfl; exact h1 rfl
end
section
variable {Φ : Orc} {H : Hp} {Q : V → Hp → Prop} {X : XL} {i j : Int} {m n : Nat} {x y : Str} {l : List V} {ns : List Int} {a v : V} {b c : Bool}
theorem q_add : pBin .Add (.int i) (.int j) H Q = Q (.int (i + j)) H := rfl
theorem q_sub : pBin .Sub (.int i) (.int j) H Q = Q (.int (i - j)) H := rfl
theorem q_mul : pBin .Mult (.int i) (.int j) H Q = (((-(2 ^ 64) < i ∧ i < 2 ^ 64) ∨ (-(2 ^ 64) < j ∧ j < 2 ^ 64)) ∧ Q (.int (i * j)) H) := rfl
theorem q_mull : pBin .Mult (.ref n) (.int i) H Q = oK (listAt H n) fun xs => on1P xs fun x => (0 ≤ i ∧ i ≤ 1000000) ∧ Q (.ref H.length) (H ++ [.list (List.replicate i.toNat x)]) := rfl
theorem q_muls : pBin .Mult (.str x) (.int i) H Q = ((1 < i ∧ i ≤ 1000 ∧ 0 < x.length ∧ x.length ≤ 1000 ∧ (repS x i.toNat).length ≤ 2000000 ∧ PyData.strOk (repS x i.toNat) = true) ∧ Q (.str (repS x i.toNat)) H) := rfl
theorem q_div : pBin .FloorDiv (.int i) (.int j) H Q = ((0 < j ∧ j < 2 ^ 128) ∧ Q (.int (i / j)) H) := rfl
theorem q_mod : pBin .Mod (.int i) (.int j) H Q = ((0 < j ∧ j < 2 ^ 128) ∧ Q (.int (i % j)) H) := rfl
theorem q_pow : pBin .Pow (.int i) (.int j) H Q = ((0 ≤ j ∧ j ≤ 1000000 ∧ i.natAbs < 2 ^ 64) ∧ Q (.int (i ^ j.toNat)) H) := rfl
theorem q_list : pBin .Add (.ref m) (.ref n) H Q = oK (listAt H m) fun xs => oK (listAt H n) fun ys => xs.length + ys.length ≤ 1000000 ∧ Q (.ref H.length) (H ++ [.list (xs ++ ys)]) := rfl
theorem q_eq : pCmp .Eq (.int i) (.int j) H Q = Q (.bool (decide (i = j))) H := rfl
theorem q_ne : pCmp .NotEq (.int i) (.int j) H Q = Q (.bool (decide (i ≠ j))) H := by
  show Q (.bool (!decide (i = j))) H = _
  rw [decide_not]
theorem q_is : pCmp .Is a .none H Q = Q (.bool (isNoneV a)) H := rfl
theorem q_isnot : pCmp .IsNot a .none H Q = Q (.bool (!isNoneV a)) H := rfl
theorem q_isb : pCmp .Is (.bool b) (.bool c) H Q = Q (.bool (b == c)) H := rfl
theorem q_isnb : pCmp .IsNot (.bool b) (.bool c) H Q = Q (.bool (!(b == c))) H := rfl
theorem q_eqs : pCmp .Eq (.str x) (.str y) H Q = Q (.bool (x == y)) H := rfl
theorem q_nes : pCmp .NotEq (.str x) (.str y) H Q = Q (.bool (!(x == y))) H := rfl
theorem q_lt : pCmp .Lt (.int i) (.int j) H Q = Q (.bool (decide (i < j))) H := rfl
theorem q_le : pCmp .LtE (.int i) (.int j) H Q = Q (.bool (decide (i ≤ j))) H := rfl
theorem q_gt : pCmp .Gt (.int i) (.int j) H Q = Q (.bool (decide (j < i))) H := rfl
theorem q_ge : pCmp .GtE (.int i) (.int j) H Q = Q (.bool (decide (j ≤ i))) H := rfl
theorem q_in : pCmp .In a (.tup l) H Q = oK (memV a l) fun c => Q (.bool c) H := rfl
theorem q_inl : pCmp .In a (.ref n) H Q = oK (listAt H n) fun l => oK (memV a l) fun c => Q (.bool c) H := rfl
theorem q_nin : pCmp .NotIn a (.tup l) H Q = oK (memV a l) fun c => Q (.bool (!c)) H := rfl
theorem q_stup : pSub (.tup l) (.int i) H Q = oK (idxP l i) fun v => Q v H := rfl
theorem q_sref : pSub (.ref n) (.int i) H Q = oK (listAt H n) fun l => oK (idx l i) fun v => Q v H := rfl
theorem q_sscr : pSub (.scr ns) (.int i) H Q = oK (idxP ns i) fun v => Q (.int v) H := rfl
theorem q_fn {vs : List V} : pCall Φ (.fn x) vs H Q X = Φ x vs H Q X := rfl
theorem q_lentup : pCall Φ (.bi .len) [.tup l] H Q X = Q (.int (l.length : Int)) H := rfl
theorem q_lenref : pCall Φ (.bi .len) [.ref n] H Q X = oK (listAt H n) fun l => Q (.int (l.length : Int)) H := rfl
theorem q_lenscr : pCall Φ (.bi .len) [.scr ns] H Q X = Q (.int (ns.length : Int)) H := rfl
theorem q_isi {t : Ty} : pCall Φ (.bi .isinstance) [v, .ty t] H Q X = oK (isInstH H v t) fun c => Q (.bool c) H := rfl
theorem q_all : pCall Φ (.bi .all) [.ref n] H Q X = oK (listAt H n) fun l => oK (allBools l) fun bs => Q (.bool (bs.all id)) H := rfl
theorem q_max : pCall Φ (.bi .max) [.int i, .int j] H Q X = Q (.int (max i j)) H := rfl
theorem q_maxl : pCall Φ (.bi .max) [.ref n] H Q X = oK (listAt H n) fun l => oK (intsOf l) fun ns => ns ≠ [] ∧ ∀ m, m ∈ ns → (∀ x ∈ ns, x ≤ m) → Q (.int m) H := rfl
theorem q_repr : pCall Φ (.bi .repr) [v] H Q X = oK (toPyT H v) fun d => (d.showable = true ∧ d.depth ≤ 60 ∧ d.shown.length ≤ 16000000) ∧ Q (.opq d.shown) H := rfl
theorem q_eqo : pCmp .Eq (.opq x) (.opq y) H Q = Q (.bool (x == y)) H := rfl
theorem q_any : pCall Φ (.bi .any) [.ref n] H Q X = oK (listAt H n) fun l => oK (allBools l) fun bs => Q (.bool (bs.any id)) H := rfl
theorem q_clear : pMeth (.ref n) .clear [] H Q = oK (listAt H n) fun l => Q .none (H.set n (.list [])) := rfl
theorem q_reverse : pMeth (.ref n) .reverse [] H Q = oK (listAt H n) fun l => Q .none (H.set n (.list l.reverse)) := rfl
theorem q_min : pCall Φ (.bi .min) [.int i, .int j] H Q X = Q (.int (min i j)) H := rfl
theorem q_listc : pCall Φ (.ty .list) [.ref n] H Q X = oK (listAt H n) fun l => Q (.ref H.length) (H ++ [.list l]) := rfl
theorem q_sdict : pSub (.ref n) (.str x) H Q = oK (dictAt H n) fun es => oK (es.lookup x) fun v => Q v H := rfl
theorem q_setd {QH : Hp → Prop} : pSet (.ref n) (.str x) v H QH = oK (dictAt H n) fun es => es.length ≤ 100000 ∧ QH (H.set n (.dict ((x, v) :: es))) := rfl
theorem q_count : pMeth (.ref n) .count [v] H Q = oK (listAt H n) fun l => oK (strsOf l) fun ys => oK (strV v) fun y => Q (.int ((ys.count y : Nat) : Int)) H := rfl
theorem q_attr : pAttr (.ref n) x H Q = oK (nsAt H n) fun p => oK (p.2.lookup x) fun v => Q v H := rfl
theorem q_seta {QH : Hp → Prop} : pSetA (.ref n) x v H QH = oK (nsAt H n) fun p => p.2.length ≤ 100000 ∧ QH (H.set p.1 (.ns ((x, v) :: p.2))) := rfl
theorem q_revl : pRev (.ref n) H Q = oK (listAt H n) fun xs => Q (.ref H.length) (H ++ [.list xs.reverse]) := rfl
theorem u_range2 {R : List V → (Hp → Prop) → Prop} : pSrc .range2 (.tup [.int i, .int j]) H R = ((-(2 ^ 62) ≤ i ∧ i < 2 ^ 62 ∧ -(2 ^ 62) ≤ j ∧ j < 2 ^ 62 ∧ j - i ≤ 1000000) ∧ R (rangeL i j) (fun _ => True)) := rfl
theorem rV_ref : refV (.ref n) = some n := rfl
theorem X_attr {L : Lc} {o : IE} : (wp2 Φ (.attr o x)).E L H Q X = (wp2 Φ o).E L H (fun vo H1 => pAttr vo x H1 Q) X := rfl
theorem X_rev {L : Lc} {o : IE} : (wp2 Φ (.rev o)).E L H Q X = (wp2 Φ o).E L H (fun vo H1 => pRev vo H1 Q) X := rfl
theorem X_mcall {L : Lc} {o : IE} {args : List IE} : (wp2 Φ (.mcall o x args)).E L H Q X = (wp2 Φ o).E L H (fun vo H1 => oK (refV vo) fun i => oK (nsAt H1 i) fun _ => wpEs Φ args L H1 (fun vs H2 => Φ (Str.ofString "Book." ++ x) (.ref i :: vs) H2 Q X) X) X := rfl
theorem X_new {L : Lc} : (wp2 Φ .new).E L H Q X = Φ "Book.__init__" [.ref (H.length + 1)] (H ++ [.ns []] ++ [.inst H.length]) (fun v H1 => isNoneV v = true ∧ Q (.ref (H.length + 1)) H1) X := rfl
theorem X_dct {L : Lc} : (wp2 Φ .dct).E L H Q X = Q (.ref H.length) (H ++ [.dict []]) := rfl
theorem Z_seta {L : Lc} {QF : QS} {XF : XS} {o e : IE} : wpS Φ (.setAttr o x e) L H QF XF = (wp2 Φ e).E L H (fun vv H1 => (wp2 Φ o).E L H1 (fun vo H2 => pSetA vo x vv H2 (QF .next L)) (fun x => XF x L)) (fun x => XF x L) := rfl
theorem Y_attr {L : Lc} {o : IE} {P : Bool → Hp → Prop} : (wp2 Φ (.attr o x)).T L H P X = (wp2 Φ (.attr o x)).E L H (fun v H1 => tX v fun c => P c H1) X := rfl
theorem Y_mcall {L : Lc} {o : IE} {args : List IE} {P : Bool → Hp → Prop} : (wp2 Φ (.mcall o x args)).T L H P X = (wp2 Φ (.mcall o x args)).E L H (fun v H1 => tX v fun c => P c H1) X := rfl
theorem q_int : pCall Φ (.ty .int) [.bool b] H Q X = Q (.int (if b then 1 else 0)) H := rfl
theorem q_tuple : pCall Φ (.ty .tuple) [.ref n] H Q X = oK (listAt H n) fun l => Q (.tup l) H := rfl
theorem q_append : pMeth (.ref n) .append [v] H Q = oK (listAt H n) fun l => l.length ≤ 1000000 ∧ Q .none (H.set n (.list (l ++ [v]))) := rfl
theorem q_set {QH : Hp → Prop} : pSet (.ref n) (.int i) v H QH = oK (listAt H n) fun l => (0 ≤ i ∧ i < (l.length : Int)) ∧ QH (H.set n (.list (l.set i.toNat v))) := rfl
theorem Z_set {L : Lc} {QF : QS} {XF : XS} {o k e : IE} : wpS Φ (.setItem o k e) L H QF XF = (wp2 Φ e).E L H (fun vv H1 => (wp2 Φ o).E L H1 (fun vo H2 => (wp2 Φ k).E L H2 (fun vk H3 => pSet vo vk vv H3 (QF .next L)) (fun x => XF x L)) (fun x => XF x L)) (fun x => XF x L) := rfl
theorem q_ninl : pCmp .NotIn a (.ref n) H Q = oK (listAt H n) fun l => oK (memV a l) fun c => Q (.bool (!c)) H := rfl
theorem u_tup {R : List V → (Hp → Prop) → Prop} : pSrc .val (.tup l) H R = R l (fun _ => True) := rfl
theorem u_ref {R : List V → (Hp → Prop) → Prop} : pSrc .val (.ref n) H R = oK (listAt H n) fun l => R l (fun H' => listAt H' n = some l) := rfl
theorem q_slice {lo hi : V} : pSlice (.ref n) lo hi H Q = oK (listAt H n) fun xs => oK (cutL lo hi xs) fun ys => Q (.ref H.length) (H ++ [.list ys]) := rfl
theorem X_slice {L : Lc} {o : IE} {lo hi : Option IE} : (wp2 Φ (.slice o lo hi)).E L H Q X = (wp2 Φ o).E L H (fun vo H1 => wpO Φ lo L H1 (fun vl H2 => wpO Φ hi L H2 (fun vh H3 => pSlice vo vl vh H3 Q) X) X) X := rfl
theorem XO_none {L : Lc} : wpO Φ none L H Q X = Q .none H := rfl
theorem XO_some {L : Lc} {e : IE} : wpO Φ (some e) L H Q X = (wp2 Φ e).E L H Q X := rfl
theorem u_rev {R : List V → (Hp → Prop) → Prop} : pSrc .rev (.ref n) H R = oK (listAt H n) fun l => R l.reverse (fun H' => listAt H' n = some l) := rfl
theorem u_range {R : List V → (Hp → Prop) → Prop} : pSrc .range (.int i) H R = ((-(2 ^ 62) ≤ i ∧ i ≤ 1000000) ∧ R (rangeL 0 i) (fun _ => True)) := rfl
end
theorem fn_of {Φ : Orc} {f : Fn} {vs : List V} {H : Hp} {Q : V → Hp → Prop} {X : XL} (h1 : vs.length = f.params) (h : wpSs Φ f.body (initL f vs) H (fun fl _ H1 => Q (retV fl) H1) (fun x _ H1 => X x H1)) : wpFn Φ f vs H Q X := ⟨h1, h⟩
theorem retV_ret {v : V} : retV (.ret v) = v := rfl
theorem retV_next : retV .next = .none := rfl
theorem idx_0 {α : Type} {l : List α} : idx l 0 = l[0]? := rfl
theorem idx_1 {α : Type} {l : List α} : idx l 1 = l[1]? := rfl
theorem idx_2 {α : Type} {l : List α} : idx l 2 = l[2]? := rfl
theorem idx_3 {α : Type} {l : List α} : idx l 3 = l[3]? := rfl
theorem idx_4 {α : Type} {l : List α} : idx l 4 = l[4]? := rfl
theorem idx_5 {α : Type} {l : List α} : idx l 5 = l[5]? := rfl
theorem iP_0 {α : Type} {l : List α} : idxP l 0 = l[0]? := rfl
theorem iP_1 {α : Type} {l : List α} : idxP l 1 = l[1]? := rfl
theorem iP_2 {α : Type} {l : List α} : idxP l 2 = l[2]? := rfl
theorem iP_3 {α : Type} {l : List α} : idxP l 3 = l[3]? := rfl
noncomputable def ext (n : Str) (C : List V → Hp → (V → Hp → Prop) → XL → Prop) (Φ : Orc) : Orc := fun x vs H Q X => if x == n then C vs H Q X else Φ x vs H Q X
noncomputable def noΦ : Orc := fun _ _ _ _ _ => False
section
variable {H : Hp} {Q : V → Hp → Prop} {Φ : Orc} {X : XL} {x : Str} {v : V} {R : List V → (Hp → Prop) → Prop}
theorem q_lenstr : pCall Φ (.bi .len) [.str x] H Q X = Q (.int (x.length : Int)) H := rfl
theorem q_sstr {i : Int} : pSub (.str x) (.int i) H Q = oK (idxP x.cps.toList i) fun c => Q (.str ⟨#[c]⟩) H := rfl
theorem q_ins : pCmp .In v (.str x) H Q = oK (strV v) fun y => Q (.bool (Txt.contains x y)) H := rfl
theorem q_nins : pCmp .NotIn v (.str x) H Q = oK (strV v) fun y => Q (.bool (!Txt.contains x y)) H := rfl
theorem q_adds {y : Str} : pBin .Add (.str x) (.str y) H Q = (x.length + y.length ≤ 1000000 ∧ Q (.str (x ++ y)) H) := rfl
theorem sV_str : strV (.str x) = some x := rfl
theorem u_str : pSrc .val (.str x) H R = (x.cps.all (· < 128) = true ∧ R (x.cps.toList.map fun c => V.str ⟨#[c]⟩) (fun _ => True)) := rfl
end
theorem nsAt_some {H : Hp} {i : Nat} {p : Nat × List (Str × V)} (h : nsAt H i = some p) : H[i]? = some (.inst p.1) ∧ H[p.1]? = some (.ns p.2) := by
  refine e1_2 (Option.bind_eq_some_iff.mp h) fun j h1 h => ?_
  refine e1_2 (Option.map_eq_some_iff.mp h) fun fs h2 e_15 => ?_
  obtain rfl := e_15
  refine e1_2 (Option.bind_eq_some_iff.mp h1) fun o e1 h1 => ?_
  refine e1_2 (Option.bind_eq_some_iff.mp h2) fun o2 e2 h2 => ?_
  have o1 : o = .inst j := by
    cases o with
    | inst _ => exact congrArg O.inst (Option.some.inj h1)
    | _ => exact no_some h1
  have o2' : o2 = .ns fs := by
    cases o2 with
    | ns _ => exact congrArg O.ns (Option.some.inj h2)
    | _ => exact no_some h2
  exact ⟨by rw [e1, o1], by rw [e2, o2']⟩
theorem listAt_pre {H H' : Hp} {i : Nat} {l : List V} (p : H <+: H') (h : listAt H i = some l) : listAt H' i = some l := by
  obtain ⟨Δ, rfl⟩ := p
  refine e1_2 (Option.bind_eq_some_iff.mp h) fun o e h => ?_
  unfold listAt
  rw [List.getElem?_append_left (List.getElem?_eq_some_iff.mp e).1, e]
  exact h
theorem listAt_new {H : Hp} {l : List V} : listAt (H ++ [.list l]) H.length = some l := by simp [listAt, lstO]
theorem set_new {H : Hp} {l m : List V} : (H ++ [O.list l]).set H.length (.list m) = H ++ [.list m] := by simp
theorem pre_new {H : Hp} {o : O} : H <+: H ++ [o] := List.prefix_append _ _
theorem idx_nat {α : Type} {l : List α} {k : Nat} : idx l (k : Int) = l[k]? := by simp [idx]
end Mine
set_option compiler.extract_closed false in
local macro_rules
  | `(tactic| simp_arith only [$a,*]) => do
    let p ← ("Mine.X_lit Mine.X_loc Mine.X_bin Mine.negX_int Mine.X_neg Mine.X_not Mine.Y_not Mine.X_and Mine.Y_and Mine.X_or Mine.Y_or Mine.X_cmp Mine.X_cmp2 Mine.X_ite Mine.Y_ite Mine.X_tup Mine.X_lst Mine.X_call Mine.X_meth Mine.X_sub Mine.X_comp Mine.Y_lit Mine.Y_loc Mine.Y_cmp Mine.Y_cmp2 Mine.Y_call Mine.Y_sub Mine.XEs_nil Mine.XEs_cons Mine.Z_expr Mine.Z_assign Mine.Z_ret Mine.Z_ite Mine.Z_for Mine.Z_raise Mine.Zs_nil Mine.sqX_next Mine.sqX_ret Mine.Zs_cons Mine.wkX_next Mine.wkX_ret Mine.fkX_next Mine.fkX_ret Mine.oKK_some Mine.oK_some Mine.tX_bool Mine.iX_t Mine.iX_f Mine.iX_d Mine.q_add Mine.q_sub Mine.q_mul Mine.q_div Mine.q_mod Mine.q_pow Mine.q_list Mine.q_eq Mine.q_ne Mine.q_eqs Mine.q_nes Mine.q_lt Mine.q_le Mine.q_gt Mine.q_ge Mine.q_in Mine.q_inl Mine.q_nin Mine.q_stup Mine.q_sref Mine.q_sscr Mine.q_fn Mine.q_lentup Mine.q_lenref Mine.q_lenscr Mine.q_isi Mine.q_all Mine.q_int Mine.q_tuple Mine.q_append Mine.q_set Mine.q_repr Mine.q_eqo Mine.Z_set Mine.q_ninl Mine.u_tup Mine.u_ref Mine.u_range Mine.q_slice Mine.X_slice Mine.XO_none Mine.XO_some Mine.u_rev Mine.q_is Mine.q_isnot Mine.q_isb Mine.q_isnb Mine.q_mull Mine.q_muls Mine.Z_try Mine.q_any Mine.q_max Mine.q_maxl Mine.sqX_cont Mine.Z_cont Mine.fkX_cont Mine.q_clear Mine.q_reverse Mine.X_comp2 Mine.q_min Mine.q_listc Mine.q_sdict Mine.q_setd Mine.q_count Mine.q_attr Mine.q_seta Mine.q_revl Mine.u_range2 Mine.rV_ref Mine.X_attr Mine.X_rev Mine.X_mcall Mine.X_new Mine.X_dct Mine.Z_seta Mine.Y_attr Mine.Y_mcall Mine.retV_ret Mine.retV_next".splitOn " ").toArray.mapM fun n => `(Lean.Parser.Tactic.simpLemma| ↓ $(Lean.mkIdent n.toName):term)
    let q ← ("List.getElem?_cons_zero List.getElem?_cons_succ List.set_cons_zero List.set_cons_succ Bool.not_true Bool.not_false Mine.idx_0 Mine.idx_1 Mine.idx_2 Mine.idx_3 Mine.idx_4 Mine.idx_5 Mine.iP_0 Mine.iP_1 Mine.iP_2 Mine.iP_3 Int.reduceAdd Int.reduceSub Int.reduceMul Int.reduceNeg Int.reducePow Int.reduceLT Int.reduceLE Int.reduceEq Int.reduceNe Int.reduceToNat Int.reduceAbs Nat.reduceAdd Nat.reduceLT Nat.reduceLeDiff Nat.reducePow Nat.reduceLT List.length_cons List.length_nil true_implies false_implies not_true_eq_false not_false_eq_true and_true true_and and_self or_true true_or decide_true decide_false exists_eq_left' Option.some.injEq".splitOn " ").toArray.mapM fun n => `(Lean.Parser.Tactic.simpLemma| $(Lean.mkIdent n.toName):term)
    `(tactic| simp only [$[$p],*, $[$q],*, $a,*])
namespace Mine
open PySem
structure Wd where
  prog : Program
  w : World
  hB : Heap
  mg : Str → Option Value
  mb : Str → Option Value
  bk : Addr
  mt : Str → Option Value
  ex : List (Str × List Str)
  fr : List Env
noncomputable def strip (x : Str) : Option Str := if x.cps.toList.take 5 = (Str.ofString "Book.").cps.toList then some ⟨(x.cps.toList.drop 5).toArray⟩ else none
noncomputable def refA : Option Value → Option Addr
  | some v => (match v with
    | .ref a => some a
    | _ => none)
  | none => none
noncomputable def Wd.fa (D : Wd) (x : Str) : Option Addr := match strip x with
  | some m => refA (D.mt m)
  | none => refA (D.mg x)
theorem fa_fn {D : Wd} {x : Str} {a : Addr} (h : strip x = none) (e : D.mg x = some (.ref a)) : D.fa x = some a := by unfold Wd.fa; rw [h]; show refA (D.mg x) = _; rw [e]; rfl
theorem fa_mt {D : Wd} {m : Str} {a : Addr} (e : D.mt m = some (.ref a)) : D.fa (Str.ofString "Book." ++ m) = some a := by
  have hl : (Str.ofString "Book." ++ m).cps.toList = (Str.ofString "Book.").cps.toList ++ m.cps.toList := Array.toList_append
  have hn : (Str.ofString "Book.").cps.toList.length = 5 := by decide +kernel
  have h : strip (Str.ofString "Book." ++ m) = some m := by
    unfold strip
    rw [hl, List.take_left' hn, if_pos rfl, List.drop_left' hn]
  unfold Wd.fa
  rw [h]
  show refA (D.mt m) = some a
  rw [e]; rfl
noncomputable def TupAt (h : Heap) (a : Addr) (vs : List Value) : Prop := ∃ n, h.get? a = some { cls := .type "tuple", data := .seq vs.toArray n } ∧ vs.length ≤ 2000000
noncomputable def StrFine (x : Str) : Prop := x.length ≤ 2000000 ∧ PyData.strOk x = true
mutual
noncomputable def Rep (mg : Wd) (γ : List Addr) (h : Heap) (v : Value) : V → Prop
  | .none => v = .none
  | .bool b => v = .bool b
  | .int i => ∃ t, v = .int i t
  | .str s => ∃ t, v = .str s t ∧ StrFine s
  | .tup l => ∃ a vs, v = .ref a ∧ TupAt h a vs ∧ Reps mg γ h vs l
  | .ref i => ∃ a, γ[i]? = some a ∧ v = .ref a
  | .fn x => ∃ a, v = .ref a ∧ mg.fa x = some a
  | .ty n => v = .type n.name
  | .bi n => v = .builtin n.name
  | .scr ns => ∃ (a : Addr) (vs : List Value), v = .ref a ∧ mg.hB.IsList a vs.toArray ∧ vs.length ≤ 2000000 ∧ vs.length = ns.length ∧ ∀ (k : Nat) (i : Int), ns[k]? = some i → ∃ t, vs[k]? = some (.int i t)
  | .bk => v = .ref mg.bk
  | .opq s => ∃ t, v = .str s t
  | .cls x _ => ∃ a, v = .ref a ∧ mg.mg x = some (.ref a)
noncomputable def Reps (mg : Wd) (γ : List Addr) (h : Heap) (vs : List Value) : List V → Prop
  | [] => vs = []
  | V :: l => ∃ v r, vs = v :: r ∧ Rep mg γ h v V ∧ Reps mg γ h r l
end
noncomputable def FsRep (mg : Wd) (γ : List Addr) (h : Heap) (fs : List (Str × V)) (m : Str → Option Value) : Prop :=
  (∀ x V, fs.lookup x = some V → ∃ v, m x = some v ∧ Rep mg γ h v V) ∧ ∀ x, fs.lookup x = none → m x = none
noncomputable def ORep (mg : Wd) (γ : List Addr) (h : Heap) (a : Addr) : O → Prop
  | .list xs => ∃ vs n, h.get? a = some { cls := .type "list", data := .seq vs.toArray n } ∧ Reps mg γ h vs xs ∧ vs.length ≤ 2000000
  | .inst j => ∃ o dx, h.get? a = some o ∧ γ[j]? = some dx ∧ o.cls = .ref mg.bk ∧ (∀ c, o.data ≠ .cls c) ∧ o.dict = some dx ∧ dx ≠ a
  | .ns fs => ∃ m, h.Ns1 a m ∧ FsRep mg γ h fs m ∧ ∀ x, fldOk x = false → m x = none
  | .dict es => ∃ kvs, h.DictOf (strKind mg.prog mg.w) a kvs ∧ FsRep mg γ h es (valueAt kvs) ∧ kvs.length ≤ es.length
noncomputable def NotD (o : Obj) : Prop := ∀ es n, o.data ≠ .dict es n
noncomputable def FrsOk (D : Wd) (γ : List Addr) (h : Heap) : Prop := ∀ e ∈ D.fr, e.scope.kind = .function ∧ ∃ (L : Addr) (o : Obj), e.frame = some L ∧ D.hB.get? L = none ∧ L ∉ γ ∧ h.get? L = some o ∧ ¬ NotD o
theorem FrsOk.but {D : Wd} {γ : List Addr} {h h' : Heap} (f : FrsOk D γ h) (hk : ∀ b o, b ∉ γ → h.get? b = some o → ¬ NotD o → ∃ o', h'.get? b = some o' ∧ ¬ NotD o') : FrsOk D γ h' := fun e he => by
  obtain ⟨k, L, o, a, b, n, c, d⟩ := f e he
  refine e1_2 (hk L o n c d) fun o' c' d' => ?_
  exact ⟨k, L, o', a, b, n, c', d'⟩
theorem FrsOk.grow {D : Wd} {γ : List Addr} {h h' : Heap} (f : FrsOk D γ h) (hk : ∀ b o, h.get? b = some o → h'.get? b = some o) : FrsOk D γ h' := f.but fun b o _ e d => ⟨o, hk b o e, d⟩
theorem FrsOk.ne {D : Wd} {γ : List Addr} {h : Heap} {I : Addr} (f : FrsOk D γ h) (hn : h.get? I = none) : ∀ e ∈ D.fr, e.frame ≠ some I := fun e he q => by
  obtain ⟨k, L, o, a, b, n, c, d⟩ := f e he
  rw [q] at a; cases a
  rw [hn] at c; exact no_some c
theorem FrsOk.more {D : Wd} {γ : List Addr} {h : Heap} {I : Addr} (f : FrsOk D γ h) (hn : ∀ e ∈ D.fr, e.frame ≠ some I) : FrsOk D (γ ++ [I]) h := fun e he => by
  obtain ⟨k, L, o, a, b, n, c, d⟩ := f e he
  exact ⟨k, L, o, a, b, fun m => (List.mem_append.mp m).elim n fun m => hn e he (by rw [a, List.mem_singleton.mp m]), c, d⟩
structure HRel (D : Wd) (γ : List Addr) (H : Hp) (h : Heap) : Prop where
  len : γ.length = H.length
  nodup : γ.Nodup
  objs : ∀ (i : Nat) (a : Addr) (o : O), γ[i]? = some a → H[i]? = some o → ORep D γ h a o
  fresh : ∀ a ∈ γ, D.hB.get? a = none
  base : ∀ b o, D.hB.get? b = some o → h.get? b = some o
  frs : FrsOk D γ h
structure Stp (wr γ γ' : List Addr) (s s' : Shared) : Prop where
  same : ∃ h' tk, s' = { s with heap := h', toks := tk }
  keepS : ∀ b o, b ∉ γ → b ∉ wr → s.heap.get? b = some o → ∃ sl, s'.heap.get? b = some { o with slots := sl } ∧ (NotD o → sl = o.slots)
  ext : ∃ δ, γ' = γ ++ δ ∧ ∀ a ∈ δ, s.heap.get? a = none
theorem Stp.keep {wr γ γ' : List Addr} {s s' : Shared} (t : Stp wr γ γ' s s') (b : Addr) (o : Obj) (h1 : b ∉ γ) (h2 : b ∉ wr) (nd : NotD o) (e : s.heap.get? b = some o) : s'.heap.get? b = some o := by
  refine e1_2 (t.keepS b o h1 h2 e) fun sl e' q => ?_
  rw [q nd] at e'; exact e'
theorem Stp.of {wr γ γ' : List Addr} {s s' : Shared} (h1 : ∃ h' tk, s' = { s with heap := h', toks := tk }) (h2 : ∀ b o, b ∉ γ → b ∉ wr → s.heap.get? b = some o → s'.heap.get? b = some o) (h3 : ∃ δ, γ' = γ ++ δ ∧ ∀ a ∈ δ, s.heap.get? a = none) : Stp wr γ γ' s s' :=
  ⟨h1, fun b o a c e => ⟨o.slots, h2 b o a c e, fun _ => rfl⟩, h3⟩
theorem Stp.ns {wr γ γ' : List Addr} {s s' : Shared} (t : Stp wr γ γ' s s') {b : Addr} {m : Str → Option Value} (h1 : b ∉ γ) (h2 : b ∉ wr) (n : s.heap.Ns b m) : s'.heap.Ns b m := by
  refine e3_2 n fun o es ep ho r => ?_
  refine e1_2 (t.keepS b o h1 h2 ho) fun sl e' _ => ?_
  exact ⟨_, es, ep, e', r⟩
theorem Stp.live {wr γ γ' : List Addr} {s s' : Shared} (t : Stp wr γ γ' s s') {b : Addr} {o : Obj} (h1 : b ∉ γ) (h2 : b ∉ wr) (e : s.heap.get? b = some o) : ∃ o', s'.heap.get? b = some o' := by
  refine e1_2 (t.keepS b o h1 h2 e) fun sl e' _ => ?_
  exact ⟨_, e'⟩
theorem notD_seq {o : Obj} {vs : Array Value} {n : Nat} (h : o.data = .seq vs n) : NotD o := fun es m q => by rw [h] at q; cases q
theorem notD_fields {o : Obj} {vs : Array Value} (h : o.data = .fields vs) : NotD o := fun es m q => by rw [h] at q; cases q
theorem isD_ns {h : Heap} {b : Addr} {m : Str → Option Value} (n : h.Ns b m) : ∃ o, h.get? b = some o ∧ ¬ NotD o := by
  refine e3_3 n fun o es ep ho hd _ => ?_
  exact ⟨o, ho, fun q => q es ep hd⟩
theorem ORep.there {D : Wd} {γ : List Addr} {h : Heap} {a : Addr} : ∀ {o : O}, ORep D γ h a o → (∃ ob, h.get? a = some ob) ∧ ∀ ws, ¬ TupAt h a ws
  | .list _, ⟨vs, n, e, _⟩ => ⟨⟨_, e⟩, fun ws ⟨m, e', _⟩ => by
    rw [e] at e'
    exact absurd (congrArg Obj.cls (Option.some.inj e')) (show ¬ Value.type "list" = Value.type "tuple" by decide)⟩
  | .inst _, ⟨o, dx, e, _, c, _⟩ => ⟨⟨_, e⟩, fun ws ⟨m, e', _⟩ => by
    rw [e] at e'
    rw [Option.some.inj e'] at c; cases c⟩
  | .ns _, ⟨m, ⟨o, es, ep, e, d, _⟩, _⟩ => ⟨⟨_, e⟩, fun ws ⟨m, e', _⟩ => by
    rw [e] at e'
    rw [Option.some.inj e'] at d; cases d⟩
  | .dict _, ⟨kvs, ⟨o, es, ep, e, _, d, _⟩, _⟩ => ⟨⟨_, e⟩, fun ws ⟨m, e', _⟩ => by
    rw [e] at e'
    rw [Option.some.inj e'] at d; cases d⟩
theorem HRel.obj {D : Wd} {γ : List Addr} {H : Hp} {h : Heap} (R : HRel D γ H h) {i : Nat} {a : Addr} (e : γ[i]? = some a) : ∃ o, H[i]? = some o ∧ ORep D γ h a o := by
  have hi : i < H.length := R.len ▸ (List.getElem?_eq_some_iff.mp e).1
  exact ⟨_, List.getElem?_eq_getElem hi, R.objs i a _ e (List.getElem?_eq_getElem hi)⟩
theorem HRel.alive {D : Wd} {γ : List Addr} {H : Hp} {h : Heap} (R : HRel D γ H h) {a : Addr} (ha : a ∈ γ) : (∃ o, h.get? a = some o) ∧ ∀ ws, ¬ TupAt h a ws := by
  obtain ⟨i, hi, e⟩ := List.getElem_of_mem ha
  obtain ⟨o, _, r⟩ := R.obj (i := i) (a := a) (by rw [← e]; exact List.getElem?_eq_getElem hi)
  exact r.there
theorem Stp.refl {wr γ : List Addr} {s : Shared} : Stp wr γ γ s s := .of ⟨s.heap, s.toks, rfl⟩ (fun _ _ _ _ e => e) ⟨[], by simp, by simp⟩
theorem Stp.trans {D : Wd} {wr γ γ1 γ2 : List Addr} {s s1 s2 : Shared} {H1 : Hp} (R1 : HRel D γ1 H1 s1.heap) (a : Stp wr γ γ1 s s1) (b : Stp wr γ1 γ2 s1 s2)
    (hw : ∀ x ∈ wr, ∀ o, s.heap.get? x = some o → ∃ o', s1.heap.get? x = some o') : Stp wr γ γ2 s s2 := by
  refine e1_2 (a.ext) fun δ1 e1 f1 => ?_
  refine e1_2 (b.ext) fun δ2 e2 f2 => ?_
  refine ⟨?_, ?_, ⟨δ1 ++ δ2, by rw [e2, e1, List.append_assoc], ?_⟩⟩
  · refine e2_1 (a.same) fun h1 t1 q1 => ?_
    refine e2_1 (b.same) fun h2 t2 q2 => ?_
    exact ⟨h2, t2, by rw [q2, q1]⟩
  · intro x o hx hxw e
    refine e1_2 (a.keepS x o hx hxw e) fun sl1 k1 q1 => ?_
    have hx2 : x ∉ γ1 := fun hm => by
      rw [e1] at hm
      rcases List.mem_append.mp hm with q | q
      · exact hx q
      · rw [f1 x q] at e; exact no_some e
    refine e1_2 (b.keepS x _ hx2 hxw k1) fun sl2 k2 q2 => ?_
    exact ⟨sl2, k2, fun nd => (q2 nd).trans (q1 nd)⟩
  · intro x hx
    rcases List.mem_append.mp hx with q | q
    · exact f1 x q
    · cases e : s.heap.get? x with
      | none => rfl
      | some o =>
        have hn := f2 x q
        by_cases hg : x ∈ γ
        · obtain ⟨⟨o', e'⟩, _⟩ := R1.alive (a := x) (by rw [e1]; exact List.mem_append_left _ hg)
          rw [hn] at e'; exact no_some e'
        · by_cases hxw : x ∈ wr
          · obtain ⟨o', e'⟩ := hw x hxw o e
            rw [hn] at e'; exact no_some e'
          · obtain ⟨o', e'⟩ := a.live hg hxw e
            rw [hn] at e'; exact no_some e'
theorem Stp.trans0 {D : Wd} {γ γ1 γ2 : List Addr} {s s1 s2 : Shared} {H1 : Hp} (R1 : HRel D γ1 H1 s1.heap) (a : Stp [] γ γ1 s s1) (b : Stp [] γ1 γ2 s1 s2) : Stp [] γ γ2 s s2 :=
  a.trans R1 b (fun _ h => nomatch h)
theorem Stp.weak {wr γ γ' : List Addr} {s s' : Shared} (a : Stp [] γ γ' s s') : Stp wr γ γ' s s' := ⟨a.same, fun b o h1 _ e => a.keepS b o h1 (fun h => nomatch h) e, a.ext⟩
theorem getElem?_ext {γ γ' : List Addr} {i : Nat} {a : Addr} (h : ∃ δ, γ' = γ ++ δ) (e : γ[i]? = some a) : γ'[i]? = some a := by
  obtain ⟨δ, rfl⟩ := h
  rw [List.getElem?_append_left]
  · exact e
  · obtain ⟨h1, _⟩ := List.getElem?_eq_some_iff.mp e; exact h1
theorem nodup_inj {l : List Addr} (hn : l.Nodup) {i j : Nat} (hi : i < l.length) (hj : j < l.length) (e : l[i] = l[j]) : i = j := by
  have p := List.pairwise_iff_getElem.mp hn
  rcases Nat.lt_trichotomy i j with q | q | q
  · exact absurd e (p i j hi hj q)
  · exact q
  · exact absurd e.symm (p j i hj hi q)
mutual
theorem Rep.mono {mg : Wd} {γ γ' : List Addr} {h h' : Heap} (hg : ∃ δ, γ' = γ ++ δ) (hk : ∀ a vs, TupAt h a vs → TupAt h' a vs) {v : Value} : ∀ {V : V}, Rep mg γ h v V → Rep mg γ' h' v V
  | .none, x => x
  | .bool _, x => x
  | .int _, x => x
  | .str _, x => x
  | .tup l, x => by
    refine e2_3 x fun a vs e t r => ?_
    exact Exists.intro a ⟨vs, e, hk _ _ t, Reps.mono hg hk r⟩
  | .ref _, x => by
    refine e1_2 x fun a e r => ?_
    exact Exists.intro a ⟨getElem?_ext hg e, r⟩
  | .fn _, x => x
  | .ty _, x => x
  | .bi _, x => x
  | .scr _, x => x
  | .bk, x => x
  | .opq _, x => x
  | .cls _ _, x => x
theorem Reps.mono {mg : Wd} {γ γ' : List Addr} {h h' : Heap} (hg : ∃ δ, γ' = γ ++ δ) (hk : ∀ a vs, TupAt h a vs → TupAt h' a vs) {vs : List Value} : ∀ {l : List V}, Reps mg γ h vs l → Reps mg γ' h' vs l
  | [], x => x
  | V :: l, x => by
    refine e2_3 x fun v r e a b => ?_
    exact Exists.intro v ⟨r, e, Rep.mono hg hk a, Reps.mono hg hk b⟩
end
theorem FsRep.mono {mg : Wd} {γ γ' : List Addr} {h h' : Heap} (hg : ∃ δ, γ' = γ ++ δ) (hk : ∀ a vs, TupAt h a vs → TupAt h' a vs) {fs : List (Str × V)} {m : Str → Option Value} (x : FsRep mg γ h fs m) : FsRep mg γ' h' fs m :=
  ⟨fun y V e => let ⟨v, q, r⟩ := x.1 y V e; ⟨v, q, Rep.mono hg hk r⟩, x.2⟩
theorem ORep.mono {mg : Wd} {γ γ' : List Addr} {h h' : Heap} {a : Addr} (hg : ∃ δ, γ' = γ ++ δ) (ht : ∀ a vs, TupAt h a vs → TupAt h' a vs) (hk : ∀ o, h.get? a = some o → h'.get? a = some o) : ∀ {o : O}, ORep mg γ h a o → ORep mg γ' h' a o
  | .list _, ⟨vs, n, e, r, z⟩ => ⟨vs, n, hk _ e, Reps.mono hg ht r, z⟩
  | .inst _, ⟨o, dx, e, j, r⟩ => ⟨o, dx, hk _ e, getElem?_ext hg j, r⟩
  | .ns _, ⟨m, n, r, q⟩ => ⟨m, n.at hk, r.mono hg ht, q⟩
  | .dict _, ⟨kvs, n, r, z⟩ => ⟨kvs, n.at hk, r.mono hg ht, z⟩
theorem Reps.length {mg : Wd} {γ : List Addr} {h : Heap} : ∀ {vs : List Value} {l : List V}, Reps mg γ h vs l → vs.length = l.length
  | vs, [], x => by obtain rfl := x; rfl
  | vs, V :: l, x => by
    refine e2_3 x fun v r e_16 _ b => ?_
    obtain rfl := e_16
    exact congrArg (· + 1) (Reps.length b)
theorem Reps.get {mg : Wd} {γ : List Addr} {h : Heap} : ∀ {vs : List Value} {l : List V} {k : Nat} {V : V}, Reps mg γ h vs l → l[k]? = some V → ∃ v, vs[k]? = some v ∧ Rep mg γ h v V
  | vs, [], _, _, _, e => no_some e
  | vs, V :: l, 0, W, x, e => by
    refine e2_3 x fun v r e_17 a b => ?_
    obtain rfl := e_17
    obtain rfl := Option.some.inj e
    exact ⟨v, rfl, a⟩
  | vs, V :: l, k + 1, W, x, e => by
    refine e2_3 x fun v r e_18 a b => ?_
    obtain rfl := e_18
    exact Reps.get (k := k) b e
theorem Reps.append {mg : Wd} {γ : List Addr} {h : Heap} : ∀ {vs : List Value} {l : List V} {ws : List Value} {m : List V}, Reps mg γ h vs l → Reps mg γ h ws m → Reps mg γ h (vs ++ ws) (l ++ m)
  | vs, [], ws, m, x, y => by obtain rfl := x; exact y
  | vs, V :: l, ws, m, x, y => by
    refine e2_3 x fun v r e_19 a b => ?_
    obtain rfl := e_19
    exact Exists.intro v ⟨r ++ ws, rfl, a, Reps.append b y⟩
theorem Reps.drop {mg : Wd} {γ : List Addr} {h : Heap} : ∀ {vs : List Value} {l : List V} (n : Nat), Reps mg γ h vs l → Reps mg γ h (vs.drop n) (l.drop n)
  | vs, l, 0, x => x
  | vs, [], n + 1, x => by obtain rfl := x; exact rfl
  | vs, V :: l, n + 1, x => by
    refine e2_3 x fun v r e_20 a b => ?_
    obtain rfl := e_20
    exact Reps.drop n b
theorem Reps.take {mg : Wd} {γ : List Addr} {h : Heap} : ∀ {vs : List Value} {l : List V} (n : Nat), Reps mg γ h vs l → Reps mg γ h (vs.take n) (l.take n)
  | vs, l, 0, x => rfl
  | vs, [], n + 1, x => by obtain rfl := x; exact rfl
  | vs, V :: l, n + 1, x => by
    refine e2_3 x fun v r e_21 a b => ?_
    obtain rfl := e_21
    exact Exists.intro v ⟨_, rfl, a, Reps.take n b⟩
theorem Reps.one {mg : Wd} {γ : List Addr} {h : Heap} {v : Value} {V : V} (x : Rep mg γ h v V) : Reps mg γ h [v] [V] := Exists.intro v ⟨[], rfl, x, rfl⟩
theorem Reps.reverse {mg : Wd} {γ : List Addr} {h : Heap} : ∀ {vs : List Value} {l : List V}, Reps mg γ h vs l → Reps mg γ h vs.reverse l.reverse
  | vs, [], x => by obtain rfl := x; exact rfl
  | vs, V :: l, x => by
    refine e2_3 x fun v r e_22 a b => ?_
    obtain rfl := e_22
    rw [List.reverse_cons, List.reverse_cons]
    exact (Reps.reverse b).append (Reps.one a)
theorem Reps.of_get {mg : Wd} {γ : List Addr} {h : Heap} : ∀ {vs : List Value} {l : List V}, vs.length = l.length → (∀ (k : Nat) (v : Value) (V : V), vs[k]? = some v → l[k]? = some V → Rep mg γ h v V) → Reps mg γ h vs l
  | [], [], _, _ => rfl
  | [], _ :: _, e, _ => Nat.noConfusion e
  | _ :: _, [], e, _ => Nat.noConfusion e
  | v :: vs, V :: l, e, f => Exists.intro v ⟨vs, rfl, f 0 v V rfl rfl, Reps.of_get (Nat.succ.inj e) fun k u U h1 h2 => f (k + 1) u U h1 h2⟩
section
variable {D : Wd} {wr γ γ' : List Addr} {H : Hp} {s s' : Shared}
theorem TupAt.stp (R : HRel D γ H s.heap) (t : Stp wr γ γ' s s') (hw : ∀ x ∈ wr, ∀ ws, ¬ TupAt s.heap x ws) {a : Addr} {vs : List Value} (x : TupAt s.heap a vs) : TupAt s'.heap a vs := by
  refine e1_2 (id x) fun n e f => ?_
  exact ⟨n, t.keep a _ (fun hm => (R.alive hm).2 _ x) (fun hm => hw a hm _ x) (notD_seq rfl) e, f⟩
theorem Rep.stp (R : HRel D γ H s.heap) (t : Stp wr γ γ' s s') (hw : ∀ x ∈ wr, ∀ ws, ¬ TupAt s.heap x ws) {v : Value} {V : V} (x : Rep D γ s.heap v V) : Rep D γ' s'.heap v V :=
  Rep.mono (let ⟨δ, e, _⟩ := t.ext; ⟨δ, e⟩) (fun _ _ q => q.stp R t hw) x
theorem Reps.stp (R : HRel D γ H s.heap) (t : Stp wr γ γ' s s') (hw : ∀ x ∈ wr, ∀ ws, ¬ TupAt s.heap x ws) {vs : List Value} {l : List V} (x : Reps D γ s.heap vs l) : Reps D γ' s'.heap vs l :=
  Reps.mono (let ⟨δ, e, _⟩ := t.ext; ⟨δ, e⟩) (fun _ _ q => q.stp R t hw) x
theorem Rep.stp0 (R : HRel D γ H s.heap) (t : Stp [] γ γ' s s') {v : Value} {V : V} (x : Rep D γ s.heap v V) : Rep D γ' s'.heap v V := x.stp R t (fun _ h => nomatch h)
theorem Reps.stp0 (R : HRel D γ H s.heap) (t : Stp [] γ γ' s s') {vs : List Value} {l : List V} (x : Reps D γ s.heap vs l) : Reps D γ' s'.heap vs l := x.stp R t (fun _ h => nomatch h)
theorem stp_grow {h' : Heap} {tk : Nat} (hk : ∀ b o, s.heap.get? b = some o → h'.get? b = some o) : Stp wr γ γ s { s with heap := h', toks := tk } :=
  .of ⟨h', tk, rfl⟩ (fun b o _ _ e => hk b o e) ⟨[], by simp, by simp⟩
theorem tupAt_grow {h h' : Heap} (hk : ∀ b o, h.get? b = some o → h'.get? b = some o) {a : Addr} {vs : List Value} (x : TupAt h a vs) : TupAt h' a vs := by
  obtain ⟨n, e, r⟩ := x; exact ⟨n, hk _ _ e, r⟩
theorem HRel.grow {h h' : Heap} (R : HRel D γ H h) (hk : ∀ b o, h.get? b = some o → h'.get? b = some o) : HRel D γ H h' :=
  ⟨R.len, R.nodup, fun i a o e1 e2 => (R.objs i a o e1 e2).mono ⟨[], by simp⟩ (fun _ _ => tupAt_grow hk) (hk a), R.fresh, fun b o e => hk _ _ (R.base b o e), R.frs.grow hk⟩
theorem HRel.adopt {o : O} {h : Heap} {a : Addr} (R : HRel D γ H h) (hn : a ∉ γ) (hB : D.hB.get? a = none) (hf : ∀ e ∈ D.fr, e.frame ≠ some a) (ho : ORep D (γ ++ [a]) h a o) : HRel D (γ ++ [a]) (H ++ [o]) h where
  len := by rw [List.length_append, List.length_append, R.len]; rfl
  nodup := by
    refine List.nodup_append.mpr ⟨R.nodup, by simp, fun b hb c hc => ?_⟩
    rw [List.mem_singleton.mp hc]
    intro e
    exact hn (e ▸ hb)
  objs := fun i b ob e1 e2 => by
    by_cases hi : i < γ.length
    · rw [List.getElem?_append_left hi] at e1
      rw [List.getElem?_append_left (R.len ▸ hi)] at e2
      exact (R.objs i b ob e1 e2).mono ⟨[a], rfl⟩ (fun _ _ x => x) (fun _ x => x)
    · have hge := Nat.le_of_not_lt hi
      rw [List.getElem?_append_right hge] at e1
      rw [List.getElem?_append_right (R.len ▸ hge), ← R.len] at e2
      have h0 : i - γ.length = 0 := by
        have := (List.getElem?_eq_some_iff.mp e1).1
        exact Nat.lt_one_iff.mp this
      rw [h0] at e1 e2
      obtain rfl := Option.some.inj e1
      obtain rfl := Option.some.inj e2
      exact ho
  fresh := fun b hb => by
    rcases List.mem_append.mp hb with q | q
    · exact R.fresh b q
    · rw [List.mem_singleton.mp q]; exact hB
  base := R.base
  frs := R.frs.more hf
theorem HRel.nin {h : Heap} {a : Addr} (R : HRel D γ H h) (hn : h.get? a = none) : a ∉ γ ∧ D.hB.get? a = none := by
  refine ⟨fun hm => ?_, ?_⟩
  · obtain ⟨⟨o, e⟩, _⟩ := R.alive hm
    rw [hn] at e; exact no_some e
  · cases e : D.hB.get? a with
    | none => rfl
    | some o => have := R.base _ _ e; rw [hn] at this; exact no_some this
theorem HRel.add {o : O} {h h' : Heap} {a : Addr} (R : HRel D γ H h) (hk : ∀ b ob, h.get? b = some ob → h'.get? b = some ob) (hn : h.get? a = none) (ho : ORep D (γ ++ [a]) h' a o) : HRel D (γ ++ [a]) (H ++ [o]) h' :=
  (R.grow hk).adopt (R.nin hn).1 (R.nin hn).2 (R.frs.ne hn) ho
theorem HRel.addList {vs : List Value} {l : List V} {h h' : Heap} {a : Addr} {n : Nat} (R : HRel D γ H h) (r : Reps D γ h vs l) (hz : l.length ≤ 2000000)
    (hk : ∀ b o, h.get? b = some o → h'.get? b = some o) (hn : h.get? a = none) (ha : h'.get? a = some { cls := .type "list", data := .seq vs.toArray n }) :
    HRel D (γ ++ [a]) (H ++ [.list l]) h' := R.add hk hn ⟨vs, n, ha, Reps.mono ⟨_, rfl⟩ (fun _ _ => tupAt_grow hk) r, by rw [r.length]; exact hz⟩
theorem none_end (h : Heap) : h.get? h.objs.size = none := by
  cases e : h.get? h.objs.size with
  | none => rfl
  | some o => exact absurd (Heap.lt_size e) (Nat.lt_irrefl _)
theorem Stp.add {h' : Heap} {tk : Nat} {a : Addr} (hk : ∀ b o, s.heap.get? b = some o → h'.get? b = some o) (hn : s.heap.get? a = none) : Stp wr γ (γ ++ [a]) s { s with heap := h', toks := tk } :=
  .of ⟨_, _, rfl⟩ (fun b o _ _ e => hk b o e) ⟨[a], rfl, fun b hb => by rw [List.mem_singleton.mp hb]; exact hn⟩
theorem HRel.setObj {i : Nat} {a : Addr} {o : O} {h h' : Heap} (R : HRel D γ H h) (hi : γ[i]? = some a) (hk : ∀ b o, b ≠ a → h.get? b = some o → h'.get? b = some o)
    (ho : (∀ b ws, TupAt h b ws → TupAt h' b ws) → ORep D γ h' a o) : HRel D γ (H.set i o) h' := by
  have ha : a ∈ γ := List.mem_of_getElem? hi
  have ht : ∀ b ws, TupAt h b ws → TupAt h' b ws := fun b ws x => by
    refine e1_2 (id x) fun m q d => ?_
    exact ⟨m, hk _ _ (fun e => (R.alive ha).2 ws (e ▸ x)) q, d⟩
  refine ⟨by rw [List.length_set]; exact R.len, R.nodup, fun j b ob e1 e2 => ?_, R.fresh, fun b ob q => hk b ob (fun e => ?_) (R.base b ob q), R.frs.but fun b ob hb e d => ⟨ob, hk b ob (fun q => hb (q ▸ ha)) e, d⟩⟩
  · by_cases hj : i = j
    · subst hj
      rw [hi] at e1
      obtain rfl := Option.some.inj e1
      rw [List.getElem?_set_self (R.len ▸ (List.getElem?_eq_some_iff.mp hi).1)] at e2
      obtain rfl := Option.some.inj e2
      exact ho ht
    · rw [List.getElem?_set_ne hj] at e2
      refine (R.objs j b ob e1 e2).mono ⟨[], by simp⟩ ht fun o q => hk b o (fun e => ?_) q
      subst e
      obtain ⟨h1, q1⟩ := List.getElem?_eq_some_iff.mp hi
      obtain ⟨h2, q2⟩ := List.getElem?_eq_some_iff.mp e1
      exact hj (nodup_inj R.nodup h1 h2 (q1.trans q2.symm))
  · rw [e, R.fresh _ ha] at q; exact no_some q
theorem HRel.setList {i : Nat} {a : Addr} {vs : List Value} {l : List V} {n : Nat} {h h' : Heap} (R : HRel D γ H h) (hi : γ[i]? = some a) (r : Reps D γ h vs l) (hz : l.length ≤ 2000000)
    (e : h'.get? a = some { cls := .type "list", data := .seq vs.toArray n }) (hk : ∀ b o, b ≠ a → h.get? b = some o → h'.get? b = some o) :
    HRel D γ (H.set i (.list l)) h' := R.setObj hi hk fun ht => ⟨vs, n, e, Reps.mono ⟨[], by simp⟩ ht r, by rw [r.length]; exact hz⟩
end
end Mine
namespace Mine
open PySem
noncomputable def XNew (D : Wd) (γ : List Addr) (s : Shared) (h : Heap) (e : Value) (x : Exc) : Prop := ∃ a oe vs C a0, e = .ref a ∧ s.heap.get? a = none ∧ h.get? a = some oe ∧ oe.cls = .ref C ∧ D.mg x.cls = some (.ref C) ∧ oe.data = .fields vs ∧ vs[0]? = some a0 ∧ vs[1]? = some .none ∧ a ∉ γ
noncomputable def XFly (D : Wd) (γ : List Addr) (s : Shared) (h : Heap) (e : Value) (x : Exc) : Prop := ∃ a oe vs C a0 T oT ts, e = .ref a ∧ s.heap.get? a = none ∧ h.get? a = some oe ∧ oe.cls = .ref C ∧ D.mg x.cls = some (.ref C) ∧ oe.data = .fields vs ∧ vs[0]? = some a0 ∧
  vs[1]? = some (.ref T) ∧ s.heap.get? T = none ∧ T ≠ a ∧ h.get? T = some oT ∧ oT.data = .fields ts ∧ a ∉ γ ∧ T ∉ γ ∧ ∃ fl, ts[3]? = some fl
noncomputable def PostV (D : Wd) (γ : List Addr) (s : Shared) (Q : V → Hp → Prop) (v : Value) (s' : Shared) : Prop :=
  ∃ γ' V H', Stp [] γ γ' s s' ∧ HRel D γ' H' s'.heap ∧ Rep D γ' s'.heap v V ∧ Q V H'
noncomputable def PostL (D : Wd) (γ : List Addr) (s : Shared) (Q : List V → Hp → Prop) (vs : List Value) (s' : Shared) : Prop :=
  ∃ γ' Vs H', Stp [] γ γ' s s' ∧ HRel D γ' H' s'.heap ∧ Reps D γ' s'.heap vs Vs ∧ Q Vs H'
noncomputable def PostB (D : Wd) (γ : List Addr) (s : Shared) (Q : Bool → Hp → Prop) (c : Bool) (s' : Shared) : Prop :=
  ∃ γ' H', Stp [] γ γ' s s' ∧ HRel D γ' H' s'.heap ∧ Q c H'
noncomputable def PostX (D : Wd) (γ : List Addr) (s : Shared) (X : XL) (e : Value) (s' : Shared) : Prop :=
  ∃ γ' H' x, Stp [] γ γ' s s' ∧ HRel D γ' H' s'.heap ∧ (XFly D γ' s s'.heap e x ∧ (x.cls, x.ups) ∈ D.ex) ∧ X x H'
theorem PostX.no {D : Wd} {γ : List Addr} {s : Shared} {e : Value} {s' : Shared} (h : PostX D γ s noX e s') : False := by
  obtain ⟨_, _, _, _, _, _, x⟩ := h; exact x
noncomputable abbrev Wd.M (D : Wd) : Model := model D.prog D.w
structure AOkC (D : Wd) (k : Nat) (A : Around) : Prop where
  frames : A.frames = some D.fr
  handled : A.handled = none
  depth : A.depth + 3 * k < 900
  units : A.units + 16 * k < 9000
  guards : A.guards = some []
structure AOk (D : Wd) (k : Nat) (A : Around) : Prop where
  frames : A.frames = some D.fr
  handled : A.handled = none
  depth : A.depth + 3 * k + 2 < 900
  units : A.units + 16 * k + 8 < 9000
  guards : A.guards = some []
noncomputable abbrev Wd.push (D : Wd) (env : Env) : Wd := { D with fr := env :: D.fr }
theorem AOk.c {D : Wd} {k : Nat} {A : Around} (h : AOk D k A) : AOkC D k A := ⟨h.frames, h.handled, by have := h.depth; lia, by have := h.units; lia, h.guards⟩
theorem AOkC.mono {D : Wd} {k k' : Nat} {A : Around} (h : AOkC D k A) (hk : k' ≤ k) : AOkC D k' A := ⟨h.frames, h.handled, by have := h.depth; lia, by have := h.units; lia, h.guards⟩
theorem AOkC.deeper {D : Wd} {k : Nat} {A : Around} (h : AOkC D (k + 1) A) (env : Env) : AOk (D.push env) k (A.deeper env) :=
  ⟨Around.frames_deeper h.frames, h.handled, by have := h.depth; show A.depth + 1 + 3 * k + 2 < 900; lia, by have := h.units; show A.units + 3 + 16 * k + 8 < 9000; lia, h.guards⟩
theorem under_guards (A : Around) (c : Code) : (A.under c).guards = pushGuards c.guards A.guards := rfl
theorem AOk.under {D : Wd} {k : Nat} {A : Around} (h : AOk D k A) (C : Addr) : AOkC D k (A.under (.builtin "type.__call__" ⟨[.ref C], []⟩)) := by
  have e1 : (Code.builtin "type.__call__" ⟨[.ref C], []⟩).weight = 1 := by with_unfolding_all rfl
  have e2 : (Code.builtin "type.__call__" ⟨[.ref C], []⟩).guards = [] := by with_unfolding_all rfl
  exact ⟨by show pushEnvs (Code.builtin "type.__call__" ⟨[.ref C], []⟩).envs A.frames = _; rw [h.frames]; with_unfolding_all rfl, h.handled, by have := h.depth; show A.depth + (Code.builtin "type.__call__" ⟨[.ref C], []⟩).weight + 3 * k < 900; lia, by have := h.units; show A.units + 1 + 16 * k < 9000; lia, by rw [under_guards, e2, h.guards]; rfl⟩
theorem fresh_back {D : Wd} {γ γ1 : List Addr} {H1 : Hp} {s s1 : Shared} (t : Stp [] γ γ1 s s1) (R : HRel D γ1 H1 s1.heap) {a : Addr} (h : s1.heap.get? a = none) : s.heap.get? a = none := by
  cases e : s.heap.get? a with
  | none => rfl
  | some o =>
    by_cases hg : a ∈ γ
    · refine e1_2 (t.ext) fun δ e1 _ => ?_
      obtain ⟨⟨o', e'⟩, _⟩ := R.alive (a := a) (by rw [e1]; exact List.mem_append_left _ hg)
      rw [h] at e'; exact no_some e'
    · obtain ⟨o', e'⟩ := t.live hg (fun h => nomatch h) e
      rw [h] at e'; exact no_some e'
theorem XFly.from {D : Wd} {γ : List Addr} {s s1 : Shared} {h : Heap} {e : Value} {x : Exc} (f : ∀ a, s1.heap.get? a = none → s.heap.get? a = none) (q : XFly D γ s1 h e x) : XFly D γ s h e x := by
  obtain ⟨a, oe, vs, C, a0, T, oT, ts, h1, h2, h3, h4, h5, h6, h7, h8, h9, h10⟩ := q
  exact ⟨a, oe, vs, C, a0, T, oT, ts, h1, f a h2, h3, h4, h5, h6, h7, h8, f T h9, h10⟩
theorem XNew.from {D : Wd} {γ : List Addr} {s s1 : Shared} {h : Heap} {e : Value} {x : Exc} (f : ∀ a, s1.heap.get? a = none → s.heap.get? a = none) (q : XNew D γ s1 h e x) : XNew D γ s h e x := by
  obtain ⟨a, oe, vs, C, a0, h1, h2, h3⟩ := q
  exact ⟨a, oe, vs, C, a0, h1, f a h2, h3⟩
section
variable {D : Wd} {γ γ1 : List Addr} {H H1 : Hp} {s s1 : Shared} {A : Around}
theorem PostV.back {Q : V → Hp → Prop} {v : Value} {s' : Shared} (t : Stp [] γ γ1 s s1) (R : HRel D γ1 H1 s1.heap) (h : PostV D γ1 s1 Q v s') : PostV D γ s Q v s' := by
  refine e3_4 h fun γ' V H' a b c d => ?_
  exact ⟨γ', V, H', t.trans0 R a, b, c, d⟩
theorem PostL.back {Q : List V → Hp → Prop} {v : List Value} {s' : Shared} (t : Stp [] γ γ1 s s1) (R : HRel D γ1 H1 s1.heap) (h : PostL D γ1 s1 Q v s') : PostL D γ s Q v s' := by
  refine e3_4 h fun γ' V H' a b c d => ?_
  exact ⟨γ', V, H', t.trans0 R a, b, c, d⟩
theorem PostB.back {Q : Bool → Hp → Prop} {v : Bool} {s' : Shared} (t : Stp [] γ γ1 s s1) (R : HRel D γ1 H1 s1.heap) (h : PostB D γ1 s1 Q v s') : PostB D γ s Q v s' := by
  refine e2_3 h fun γ' H' a b d => ?_
  exact ⟨γ', H', t.trans0 R a, b, d⟩
theorem PostX.back {X : XL} {v : Value} {s' : Shared} (t : Stp [] γ γ1 s s1) (R : HRel D γ1 H1 s1.heap) (h : PostX D γ1 s1 X v s') : PostX D γ s X v s' := by
  refine e3_4 h fun γ' H' x a b e_23 d => ?_
  obtain ⟨c, m⟩ := e_23
  exact ⟨γ', H', x, t.trans0 R a, b, ⟨c.from fun _ => fresh_back t R, m⟩, d⟩
theorem backV {t : Sem Value} {Q : V → Hp → Prop} {X : XL} (st : Stp [] γ γ1 s s1) (R : HRel D γ1 H1 s1.heap) (h : wpAny D.M A t (PostV D γ1 s1 Q) (PostX D γ1 s1 X) s1) :
    wpAny D.M A t (PostV D γ s Q) (PostX D γ s X) s1 := wpAny_mono h (fun _ _ x => x.back st R) (fun _ _ x => x.back st R)
theorem backB {t : Sem Bool} {Q : Bool → Hp → Prop} {X : XL} (st : Stp [] γ γ1 s s1) (R : HRel D γ1 H1 s1.heap) (h : wpAny D.M A t (PostB D γ1 s1 Q) (PostX D γ1 s1 X) s1) :
    wpAny D.M A t (PostB D γ s Q) (PostX D γ s X) s1 := wpAny_mono h (fun _ _ x => x.back st R) (fun _ _ x => x.back st R)
theorem backL {t : Sem (List Value)} {Q : List V → Hp → Prop} {X : XL} (st : Stp [] γ γ1 s s1) (R : HRel D γ1 H1 s1.heap) (h : wpAny D.M A t (PostL D γ1 s1 Q) (PostX D γ1 s1 X) s1) :
    wpAny D.M A t (PostL D γ s Q) (PostX D γ s X) s1 := wpAny_mono h (fun _ _ x => x.back st R) (fun _ _ x => x.back st R)
theorem andThen {t : Sem Value} {Q : V → Hp → Prop} {P : Value → Shared → Prop} {X : XL} (h : wpAny D.M A t (PostV D γ s Q) (PostX D γ s X) s)
    (k : ∀ v s1 γ1 V H1, Stp [] γ γ1 s s1 → HRel D γ1 H1 s1.heap → Rep D γ1 s1.heap v V → Q V H1 → P v s1) : wpAny D.M A t P (PostX D γ s X) s :=
  wpAny_mono h (fun v s1 ⟨γ1, V, H1, a, b, c, d⟩ => k v s1 γ1 V H1 a b c d) (fun _ _ x => x)
theorem andThenL {t : Sem (List Value)} {Q : List V → Hp → Prop} {P : List Value → Shared → Prop} {X : XL} (h : wpAny D.M A t (PostL D γ s Q) (PostX D γ s X) s)
    (k : ∀ v s1 γ1 V H1, Stp [] γ γ1 s s1 → HRel D γ1 H1 s1.heap → Reps D γ1 s1.heap v V → Q V H1 → P v s1) : wpAny D.M A t P (PostX D γ s X) s :=
  wpAny_mono h (fun v s1 ⟨γ1, V, H1, a, b, c, d⟩ => k v s1 γ1 V H1 a b c d) (fun _ _ x => x)
theorem andThenB {t : Sem Bool} {Q : Bool → Hp → Prop} {P : Bool → Shared → Prop} {X : XL} (h : wpAny D.M A t (PostB D γ s Q) (PostX D γ s X) s)
    (k : ∀ v s1 γ1 H1, Stp [] γ γ1 s s1 → HRel D γ1 H1 s1.heap → Q v H1 → P v s1) : wpAny D.M A t P (PostX D γ s X) s :=
  wpAny_mono h (fun v s1 ⟨γ1, H1, a, b, d⟩ => k v s1 γ1 H1 a b d) (fun _ _ x => x)
theorem thenV {t : Sem Value} {Q : V → Hp → Prop} {P : Value → Shared → Prop} {X : XL} (st : Stp [] γ γ1 s s1) (R : HRel D γ1 H1 s1.heap) (h : wpAny D.M A t (PostV D γ1 s1 Q) (PostX D γ1 s1 X) s1)
    (k : ∀ v s2 γ2 V H2, Stp [] γ1 γ2 s1 s2 → HRel D γ2 H2 s2.heap → Rep D γ2 s2.heap v V → Q V H2 → P v s2) : wpAny D.M A t P (PostX D γ s X) s1 :=
  wpAny_mono h (fun v s2 ⟨γ2, V, H2, a, b, c, d⟩ => k v s2 γ2 V H2 a b c d) (fun _ _ x => x.back st R)
theorem thenL {t : Sem (List Value)} {Q : List V → Hp → Prop} {P : List Value → Shared → Prop} {X : XL} (st : Stp [] γ γ1 s s1) (R : HRel D γ1 H1 s1.heap) (h : wpAny D.M A t (PostL D γ1 s1 Q) (PostX D γ1 s1 X) s1)
    (k : ∀ v s2 γ2 V H2, Stp [] γ1 γ2 s1 s2 → HRel D γ2 H2 s2.heap → Reps D γ2 s2.heap v V → Q V H2 → P v s2) : wpAny D.M A t P (PostX D γ s X) s1 :=
  wpAny_mono h (fun v s2 ⟨γ2, V, H2, a, b, c, d⟩ => k v s2 γ2 V H2 a b c d) (fun _ _ x => x.back st R)
theorem thenB {t : Sem Bool} {Q : Bool → Hp → Prop} {P : Bool → Shared → Prop} {X : XL} (st : Stp [] γ γ1 s s1) (R : HRel D γ1 H1 s1.heap) (h : wpAny D.M A t (PostB D γ1 s1 Q) (PostX D γ1 s1 X) s1)
    (k : ∀ v s2 γ2 H2, Stp [] γ1 γ2 s1 s2 → HRel D γ2 H2 s2.heap → Q v H2 → P v s2) : wpAny D.M A t P (PostX D γ s X) s1 :=
  wpAny_mono h (fun v s2 ⟨γ2, H2, a, b, d⟩ => k v s2 γ2 H2 a b d) (fun _ _ x => x.back st R)
theorem PostV.now {Q : V → Hp → Prop} {v : Value} {V : V} (R : HRel D γ H s.heap) (r : Rep D γ s.heap v V) (h : Q V H) {tk : Nat} : PostV D γ s Q v { s with toks := tk } :=
  ⟨γ, V, H, stp_grow fun _ _ e => e, R, r, h⟩
theorem PostV.here {Q : V → Hp → Prop} {v : Value} {V : V} (R : HRel D γ H s.heap) (r : Rep D γ s.heap v V) (h : Q V H) : PostV D γ s Q v s :=
  ⟨γ, V, H, Stp.refl, R, r, h⟩
theorem PostB.now {Q : Bool → Hp → Prop} {c : Bool} (R : HRel D γ H s.heap) (h : Q c H) {tk : Nat} : PostB D γ s Q c { s with toks := tk } :=
  ⟨γ, H, stp_grow fun _ _ e => e, R, h⟩
theorem PostB.here {Q : Bool → Hp → Prop} {c : Bool} (R : HRel D γ H s.heap) (h : Q c H) : PostB D γ s Q c s := ⟨γ, H, Stp.refl, R, h⟩
theorem PostV.grown {Q : V → Hp → Prop} {v : Value} {V : V} {h' : Heap} {tk : Nat} (R : HRel D γ H s.heap) (hk : ∀ b o, s.heap.get? b = some o → h'.get? b = some o) (r : Rep D γ h' v V) (h : Q V H) :
    PostV D γ s Q v { s with heap := h', toks := tk } := ⟨γ, V, H, stp_grow hk, R.grow hk, r, h⟩
theorem rep_new {h : Heap} {a : Addr} (R : HRel D γ H s.heap) : Rep D (γ ++ [a]) h (.ref a) (.ref H.length) :=
  Exists.intro a ⟨by rw [← R.len, List.getElem?_concat_length], rfl⟩
theorem PostV.addList {Q : V → Hp → Prop} {vs : List Value} {l : List V} {h' : Heap} {a : Addr} {n tk : Nat} (R : HRel D γ H s.heap) (r : Reps D γ s.heap vs l) (hz : l.length ≤ 2000000)
    (hk : ∀ b o, s.heap.get? b = some o → h'.get? b = some o) (hn : s.heap.get? a = none) (ha : h'.get? a = some { cls := .type "list", data := .seq vs.toArray n }) (h : Q (.ref H.length) (H ++ [.list l])) :
    PostV D γ s Q (.ref a) { s with heap := h', toks := tk } :=
  ⟨γ ++ [a], .ref H.length, H ++ [.list l], Stp.add hk hn, R.addList r hz hk hn ha, rep_new R, h⟩
theorem PostV.newList {Q : V → Hp → Prop} {vs : List Value} {l : List V} (R : HRel D γ H s.heap) (r : Reps D γ s.heap vs l) (hz : l.length ≤ 2000000) (h : Q (.ref H.length) (H ++ [.list l])) :
    PostV D γ s Q (.ref s.heap.objs.size) { s with heap := s.heap.push { cls := .type "list", data := .seq vs.toArray } } :=
  PostV.addList (tk := s.toks) R r hz (fun _ _ e => Heap.get?_push_of_some _ e) (none_end _) (Heap.get?_push_size _ rfl) h
theorem stp_set {i : Nat} {a : Addr} {h' : Heap} {tk : Nat} (hi : γ[i]? = some a) (hk : ∀ b o, b ≠ a → s.heap.get? b = some o → h'.get? b = some o) : Stp [] γ γ s { s with heap := h', toks := tk } :=
  .of ⟨_, _, rfl⟩ (fun b o hb _ e => hk b o (fun q => hb (q ▸ List.mem_of_getElem? hi)) e) ⟨[], by simp, by simp⟩
theorem PostV.setList {Q : V → Hp → Prop} {vs : List Value} {l : List V} {h' : Heap} {i : Nat} {a : Addr} {n tk : Nat} {v : Value} {V : V} (R : HRel D γ H s.heap) (hi : γ[i]? = some a) (r : Reps D γ s.heap vs l) (hz : l.length ≤ 2000000)
    (hk : ∀ b o, b ≠ a → s.heap.get? b = some o → h'.get? b = some o) (ha : h'.get? a = some { cls := .type "list", data := .seq vs.toArray n }) (rv : Rep D γ h' v V) (h : Q V (H.set i (.list l))) :
    PostV D γ s Q v { s with heap := h', toks := tk } :=
  ⟨γ, V, H.set i (.list l), stp_set hi hk, R.setList hi r hz ha hk, rv, h⟩
theorem PostV.newTuple {Q : V → Hp → Prop} {vs : List Value} {l : List V} (R : HRel D γ H s.heap) (r : Reps D γ s.heap vs l) (hz : l.length ≤ 2000000) (h : Q (.tup l) H) :
    PostV D γ s Q (.ref s.heap.objs.size) { s with heap := s.heap.push { cls := .type "tuple", data := .seq vs.toArray } } :=
  have hk : ∀ b o, s.heap.get? b = some o → (s.heap.push { cls := .type "tuple", data := .seq vs.toArray }).get? b = some o := fun _ _ e => Heap.get?_push_of_some _ e
  PostV.grown (V := .tup l) (tk := s.toks) R hk (Exists.intro _ ⟨vs, rfl, ⟨0, Heap.get?_push_size _ rfl, by rw [r.length]; exact hz⟩, Reps.mono ⟨[], by simp⟩ (fun _ _ => tupAt_grow hk) r⟩) h
end
noncomputable def TopA (D : Wd) (env : Env) : Prop := ∃ e0 outer, D.fr = e0 :: outer ∧ env.frame = e0.frame
structure LRel (D : Wd) (γ : List Addr) (env : Env) (slots : List (Str × Nat)) (h : Heap) (L : Lc) : Prop where
  ns : ∃ m, h.Ns env.locals m ∧ ∀ (x : Str) (i : Nat) (V : V), env.kindOf x = some .local → slots.lookup x = some i → L[i]? = some (some V) → ∃ v, m x = some v ∧ Rep D γ h v V
  cel : ∀ (x : Str), env.kindOf x = some .cell → ∃ c u, env.cells.lookup x = some c ∧ h.IsCell c u ∧ c ∉ γ ∧
    ∀ (i : Nat) (V : V), slots.lookup x = some i → L[i]? = some (some V) → ∃ v, u = some v ∧ Rep D γ h v V
  nin : env.locals ∉ γ
  tp : TopA D env
structure EnvOk (c : CC) (env : Env) : Prop where
  scope : env.scope = c.scope
  kind : c.scope.kind = .function
  globals : env.globals = mainGlobals
  builtins : env.builtins = builtinsNs
noncomputable def qN : List Str := ["__init__", "__getattribute__", "__getattr__", "__class__"]
inductive TailN (h : Heap) (bmB : List Value) : List Value → Prop
  | base : TailN h bmB bmB
  | own {A : Addr} {c0 : Value} {dd : Option Addr} {cd : ClassData} {sl : Array (Option Value)} {mA : Str → Option Value} {tl : List Value} :
      h.get? A = some { cls := c0, dict := dd, data := .cls cd, slots := sl } → h.Ns cd.ns mA → (∀ n ∈ qN, mA n = none) → TailN h bmB tl → TailN h bmB (.ref A :: tl)
theorem TailN.tail {h : Heap} {bmB tl : List Value} (T : TailN h bmB tl) : OwnTail h bmB tl := by
  induction T with
  | base => exact .base
  | own hA hN hq _ ih => exact .own hA hN (hq _ (.head _)) ih
theorem TailN.keeps {h h' : Heap} {bmB tl : List Value} (T : TailN h bmB tl) (hk : ∀ b o, h.get? b = some o → h'.get? b = some o) : TailN h' bmB tl := by
  induction T with
  | base => exact .base
  | own hA hN hq _ ih => exact .own (hk _ _ hA) (hN.keeps hk) hq ih
noncomputable abbrev bmV : List Value := [.type "ValueError", .type "Exception", .type "BaseException", .type "object"]
noncomputable def ClsAt (h : Heap) (C : Addr) (bm : List Value) : Prop :=
  ∃ N nm q bs hdct sn sub ab col dd k0 k1 k2 k3 k5 mN, h.get? C = some (excClassObj nm q C N bs bm hdct sn sub ab col dd k0 k1 k2 k3 k5 "ValueError.__new__") ∧ h.Ns N mN ∧ (∀ n ∈ qN, mN n = none) ∧ TailN h bmV bm
theorem ClsAt.keeps {h h' : Heap} {C : Addr} {bm : List Value} (x : ClsAt h C bm) (hk : ∀ b o, h.get? b = some o → h'.get? b = some o) : ClsAt h' C bm := by
  obtain ⟨N, nm, q, bs, hdct, sn, sub, ab, col, dd, k0, k1, k2, k3, k5, mN, hC, hN, hq, T⟩ := x
  exact ⟨N, nm, q, bs, hdct, sn, sub, ab, col, dd, k0, k1, k2, k3, k5, mN, hk _ _ hC, hN.keeps hk, hq, T.keeps hk⟩
noncomputable def ClsOk (D : Wd) (x : Str) (ups : List Str) (C : Addr) : Prop :=
  ∃ bm, D.mg x = some (.ref C) ∧ ClsAt D.hB C bm ∧
    (∀ (y : Str) (ups' : List Str) (Cy : Addr), (y, ups') ∈ D.ex → D.mg y = some (.ref Cy) → (Value.ref C :: bm).contains (.ref Cy) = ups.contains y) ∧ ups.contains ("ValueError" : Str) = true
structure BkOk (D : Wd) (mts : List Str) : Prop where
  cls : ∃ N nm q bs sn sub col dd k0 k1 k2 k3 k5, D.hB.get? D.bk = some (excClassObj nm q D.bk N bs [.type "object"] true sn sub false col dd k0 k1 k2 k3 k5 "object.__new__") ∧ D.hB.Ns N D.mt
  noG : D.mt "__getattribute__" = none
  noH : D.mt "__getattr__" = none
  noS : D.mt "__setattr__" = none
  noF : ∀ x, fldOk x = true → D.mt x = none
  mts : ∀ m, mts.contains m = true → fldOk m = false ∧ (∃ y, typeLookup (.type "object") m = pure y) ∧ ∃ a o, D.mt m = some (.ref a) ∧ D.hB.get? a = some o ∧ o.cls = .type "function" ∧ (∃ fd, o.data = .func fd) ∧ D.fa (Str.ofString "Book." ++ m) = some a
  init : ∃ a o, D.mt "__init__" = some (.ref a) ∧ D.hB.get? a = some o ∧ o.cls = .type "function" ∧ D.fa "Book.__init__" = some a
structure GOk (D : Wd) (G : List (Str × V)) (mts : List Str) : Prop where
  gns : D.hB.Ns mainGlobals D.mg
  bns : D.hB.Ns builtinsNs D.mb
  val : ∀ (x : Str) (V : V), G.lookup x = some V → ∃ v, (D.mg x = some v ∨ (D.mg x = none ∧ D.mb x = some v)) ∧ ∀ γ, Rep D γ D.hB v V
  lim : D.hB.NoLimit
  bk : BkOk D mts
  cls : ∀ (x z : Str) (ups : List Str), G.lookup x = some (.cls z ups) → (z, ups) ∈ D.ex
  exs : ∀ (x : Str) (ups : List Str), (x, ups) ∈ D.ex → ∃ C, ClsOk D x ups C
section
variable {D : Wd} {γ γ1 : List Addr} {H H1 : Hp} {s s1 : Shared} {env : Env} {slots : List (Str × Nat)} {L : Lc}
theorem notin_ext (t : Stp [] γ γ1 s s1) {a : Addr} {o : Obj} (h : a ∉ γ) (e : s.heap.get? a = some o) : a ∉ γ1 := by
  refine e1_2 (t.ext) fun δ e_24 f => ?_
  obtain rfl := e_24
  intro q
  rcases List.mem_append.mp q with q | q
  · exact h q
  · rw [f a q] at e; exact no_some e
theorem LRel.stp (l : LRel D γ env slots s.heap L) (R : HRel D γ H s.heap) (t : Stp [] γ γ1 s s1) : LRel D γ1 env slots s1.heap L where
  ns := by
    refine e1_2 (l.ns) fun m n f => ?_
    refine ⟨m, t.ns l.nin (fun h => nomatch h) n, fun x i V a b c => ?_⟩
    refine e1_2 (f x i V a b c) fun v e q => ?_
    exact ⟨v, e, q.stp0 R t⟩
  cel := fun x hx => by
    refine e2_4 (l.cel x hx) fun c u a e_25 hc f => ?_
    obtain ⟨o, ho, hd⟩ := e_25
    refine ⟨c, u, a, ⟨o, t.keep _ _ hc (fun h => nomatch h) (fun es n q => by rw [hd] at q; cases q) ho, hd⟩, notin_ext t hc ho, fun i V b d => ?_⟩
    refine e1_2 (f i V b d) fun v e q => ?_
    exact ⟨v, e, q.stp0 R t⟩
  nin := by
    refine e1_2 (l.ns) fun m e_26 f => ?_
    obtain ⟨o, es, ep, ho, r⟩ := e_26
    exact notin_ext t l.nin ho
  tp := l.tp
theorem LRel.grow {h h' : Heap} (l : LRel D γ env slots h L) (hk : ∀ b o, h.get? b = some o → h'.get? b = some o) : LRel D γ env slots h' L where
  ns := by
    refine e1_2 (l.ns) fun m n f => ?_
    refine ⟨m, n.keeps hk, fun x i V a b c => ?_⟩
    refine e1_2 (f x i V a b c) fun v e q => ?_
    exact ⟨v, e, Rep.mono ⟨[], by simp⟩ (fun _ _ => tupAt_grow hk) q⟩
  cel := fun x hx => by
    refine e2_4 (l.cel x hx) fun c u a q hc f => ?_
    refine ⟨c, u, a, q.keeps hk, hc, fun i V b d => ?_⟩
    refine e1_2 (f i V b d) fun v e q => ?_
    exact ⟨v, e, Rep.mono ⟨[], by simp⟩ (fun _ _ => tupAt_grow hk) q⟩
  nin := l.nin
  tp := l.tp
end
noncomputable def OrcOk (D : Wd) (k : Nat) (Φ : Orc) : Prop := ∀ fr x vs H Q X, Φ x vs H Q X → ∀ A γ s vals a, AOkC { D with fr := fr } k A → HRel { D with fr := fr } γ H s.heap → Reps { D with fr := fr } γ s.heap vals vs → D.fa x = some a →
  (∃ o fd, D.hB.get? a = some o ∧ o.data = .func fd) ∧ wpAny D.M A (call (.ref a) vals) (PostV { D with fr := fr } γ s Q) (PostX { D with fr := fr } γ s X) s
noncomputable def SEP (P : Around → Prop) (D : Wd) (Φ : Orc) (c : CC) (e : Expr) (ie : IE) : Prop := ∀ env A γ H s L Q X, EnvOk c env → P A → HRel D γ H s.heap → LRel D γ env c.slots s.heap L →
  (wp2 Φ ie).E L H Q X → wpAny D.M A (eval e env) (PostV D γ s Q) (PostX D γ s X) s
noncomputable def STP (P : Around → Prop) (D : Wd) (Φ : Orc) (c : CC) (e : Expr) (ie : IE) : Prop := ∀ env A γ H s L Q X, EnvOk c env → P A → HRel D γ H s.heap → LRel D γ env c.slots s.heap L →
  (wp2 Φ ie).T L H Q X → wpAny D.M A (isTrue e env (eval e env)) (PostB D γ s Q) (PostX D γ s X) s
noncomputable abbrev SE (D : Wd) (Φ : Orc) (k : Nat) (c : CC) (e : Expr) (ie : IE) : Prop := SEP (AOk D k) D Φ c e ie
noncomputable abbrev ST (D : Wd) (Φ : Orc) (k : Nat) (c : CC) (e : Expr) (ie : IE) : Prop := STP (AOk D k) D Φ c e ie
end Mine
namespace Mine
open PySem PyProof.Rows
theorem strOk_iff {x : Str} : PyData.strOk x = true ↔ ∀ c ∈ x.cps.toList, c < 0x110000 := by
  unfold PyData.strOk
  rw [← Array.all_toList, List.all_eq_true]
  simp
theorem strOk_append {x y : Str} : PyData.strOk (x ++ y) = true ↔ PyData.strOk x = true ∧ PyData.strOk y = true := by
  simp only [strOk_iff]
  have e : (x ++ y).cps.toList = x.cps.toList ++ y.cps.toList := by show (x.cps ++ y.cps).toList = _; simp
  rw [e]
  simp only [List.mem_append]
  exact ⟨fun h => ⟨fun c hc => h c (.inl hc), fun c hc => h c (.inr hc)⟩, fun h c hc => hc.elim (h.1 c) (h.2 c)⟩
section
variable {D : Wd} {γ : List Addr} {H : Hp} {s : Shared} {A : Around} {E : Value → Shared → Prop} {Q : V → Hp → Prop} {x : Str} {t : Tok}
theorem rep_b {h : Heap} {b : Bool} : Rep D γ h (.bool b) (.bool b) := rfl
theorem rep_i {h : Heap} {i : Int} {t : Tok} : Rep D γ h (.int i t) (.int i) := Exists.intro t rfl
theorem rep_s {h : Heap} {x : Str} {t : Tok} (f : StrFine x) : Rep D γ h (.str x t) (.str x) := Exists.intro t ⟨rfl, f⟩
theorem lstO_some {o : O} {l : List V} (h : lstO o = some l) : o = .list l := by
  cases o with
  | list _ => exact congrArg O.list (Option.some.inj h)
  | _ => exact no_some h
theorem listAt_at {H : Hp} {i : Nat} {l : List V} (h : listAt H i = some l) : H[i]? = some (.list l) := by
  refine e1_2 (Option.bind_eq_some_iff.mp h) fun o e h => ?_
  rw [e, lstO_some h]
theorem HRel.list {i : Nat} {a : Addr} {l : List V} (R : HRel D γ H s.heap) (hi : γ[i]? = some a) (hl : listAt H i = some l) : ∃ vs n, s.heap.get? a = some { cls := .type "list", data := .seq vs.toArray n } ∧ Reps D γ s.heap vs l ∧ vs.length ≤ 2000000 := R.objs i a _ hi (listAt_at hl)
theorem lenStr_ok (R : HRel D γ H s.heap) (f : StrFine x) (q : Q (.int x.length) H) : wpAny D.M A (call (.builtin "len") [.str x t]) (PostV D γ s Q) E s :=
  PySem.P.len_str (by have := f.1; lia) (PostV.now R rep_i q)
end
end Mine
namespace Mine
open PySem PyProof.Rows
section
variable {D : Wd} {γ : List Addr} {H : Hp} {s : Shared} {A : Around} {E : Value → Shared → Prop}
theorem TupAt.isTup {h : Heap} {a : Addr} {vs : List Value} (x : TupAt h a vs) : IsTup h a vs.toArray := by
  obtain ⟨n, e, _⟩ := x; exact ⟨_, e, rfl, n, rfl⟩
theorem TupAt.isTuple {h : Heap} {a : Addr} {vs : List Value} (x : TupAt h a vs) : h.IsTuple a vs.toArray := by
  obtain ⟨n, e, _⟩ := x; exact ⟨_, e, rfl, n, rfl⟩
theorem TupAt.size {h : Heap} {a : Addr} {vs : List Value} (x : TupAt h a vs) : vs.length ≤ 2000000 := by
  obtain ⟨n, e, z⟩ := x; exact z
theorem strFine_append {x y : Str} (f : StrFine x) (g : StrFine y) (h : x.length + y.length ≤ 1000000) : StrFine (x ++ y) := by
  refine ⟨by rw [strLen_append]; lia, ?_⟩
  have a := f.2; have b := g.2
  unfold PyData.strOk at a b ⊢
  show (x.cps ++ y.cps).all _ = true
  rw [Array.all_append, a, b]; rfl
theorem truth_ok {v : Value} {c : Bool} {Q : Bool → Hp → Prop} (R : HRel D γ H s.heap) (r : Rep D γ s.heap v (.bool c)) (q : Q c H) :
    wpAny D.M A (truthy v) (PostB D γ s Q) E s := by
  obtain rfl := r
  exact wpAny_truthy_bool (PostB.here R q)
theorem neg_ok {v : Value} {i : Int} {Q : V → Hp → Prop} (R : HRel D γ H s.heap) (r : Rep D γ s.heap v (.int i)) (q : Q (.int (-i)) H) :
    wpAny D.M A (unaryOp .USub v) (PostV D γ s Q) E s := by
  obtain ⟨t, rfl⟩ := r
  exact neg_int (PostV.now R rep_i q)
theorem repeat_ok {l : Addr} {v : Value} {x : V} {n : Int} {m : Nat} {u : Tok} {Q : V → Hp → Prop} (R : HRel D γ H s.heap) (hl : s.heap.get? l = some { cls := .type "list", data := .seq [v].toArray m }) (rx : Rep D γ s.heap v x) (hb : 0 ≤ n ∧ n ≤ 1000000)
    (q : Q (.ref H.length) (H ++ [.list (List.replicate n.toNat x)])) : wpAny D.M A (binaryOp .Mult (.ref l) (.int n u)) (PostV D γ s Q) E s := by
  have hsz : [v].toArray.size * n.toNat ≤ 2 ^ 24 := by show 1 * n.toNat ≤ _; lia
  refine wpAny_binaryOp_repeat_ref (T := "list") (U := "int") (by decide) ⟨_, hl, rfl⟩ (fun s' => typeIs_int s' n u) noFill_list_mul F.fills_int_mul F.slot_int_rmul repeat_list F.slot_int_index.lookup
    (call_meets F.slot_int_rmul (typeIs_int s n u) F.entry_int_rmul (F.args_int_rmul_2 _ _) (int___rmul___int_list n u l [v].toArray m)
      ⟨hl, rfl, ⟨_, hl, rfl⟩, call_meets F.slot_list_mul ⟨_, hl, rfl⟩ F.entry_list_mul (F.args_list_mul_2 _ _)
        (AutoListH.list___mul___list_int_3 l [v].toArray m n u (by simp [Builtin.List.listFitsIndex]; lia) (by lia) (by simp [Builtin.List.listTooLong, sizeLine]; lia)) ⟨hl, ?_⟩⟩)
  have e : List.foldl (fun x1 x2 => x1 ++ x2) #[] (List.replicate (if [v].toArray.isEmpty = true then 0 else n.toNat) [v].toArray) = (List.replicate n.toNat v).toArray := (listMul_foldl _ _ _).trans (congrArg List.toArray (lm_rep_flat_one v n.toNat))
  show PostV D γ s Q _ { s with heap := s.heap.push { cls := .type "list", data := .seq (List.foldl (fun x1 x2 => x1 ++ x2) #[] (List.replicate (if [v].toArray.isEmpty = true then 0 else n.toNat) [v].toArray)) } }
  rw [e]
  refine PostV.newList R (Reps.of_get (by rw [List.length_replicate, List.length_replicate]) fun k w W h1 h2 => ?_) (by rw [List.length_replicate]; lia) q
  rw [List.eq_of_mem_replicate (List.mem_of_getElem? h1), List.eq_of_mem_replicate (List.mem_of_getElem? h2)]
  exact rx
theorem bin_ok {op : Operator} {a b : Value} {Va Vb : V} {Q : V → Hp → Prop} (R : HRel D γ H s.heap) (ra : Rep D γ s.heap a Va) (rb : Rep D γ s.heap b Vb) (h : pBin op Va Vb H Q) :
    wpAny D.M A (binaryOp op a b) (PostV D γ s Q) E s := by
  cases op with
  | Add =>
    replace h : pAdd Va Vb H Q := h
    cases Va with
    | int i =>
      refine e1_2 (oK_elim (show oK (intV Vb) _ from h)) fun j e h => ?_
      rw [intV_some e] at rb
      obtain ⟨t, rfl⟩ := ra; obtain ⟨u, rfl⟩ := rb
      exact add_int (PostV.now R rep_i h)
    | str x =>
      refine e1_2 (oK_elim (show oK (strV Vb) _ from h)) fun y e h => ?_
      rw [strV_some e] at rb
      obtain ⟨t, rfl, f⟩ := ra; obtain ⟨u, rfl, g⟩ := rb
      refine PyProof.Rows.add_str (fun t' tk => PostV.now R (rep_s (strFine_append f g h.1)) h.2) (by rw [sizeLine_eq]; lia)
    | ref i =>
      refine e1_2 (oK_elim (show oK (refV Vb) _ from h)) fun j e h => ?_
      rw [refV_some e] at rb
      obtain ⟨x, hx, rfl⟩ := ra; obtain ⟨y, hy, rfl⟩ := rb
      refine e1_2 (oK_elim h) fun xs h1 h => ?_
      refine e1_3 (oK_elim h) fun ys h2 h3 h4 => ?_
      refine e2_3 (R.list hx h1) fun vs n e rs z => ?_
      refine e2_3 (R.list hy h2) fun ws m e' rs' z' => ?_
      have := rs.length; have := rs'.length
      refine P.add_list (items := vs.toArray) (items2 := ws.toArray) (n := n) (n2 := m) e e' ?_ (by simp [sizeLine_eq]; lia)
      rw [List.append_toArray]
      exact PostV.newList R (rs.append rs') (by simp; lia) h4
    | _ => exact h.elim
  | Sub =>
    refine e2_3 (pInt_elim (show pInt Va Vb _ from h)) fun i j e_27 e_28 h => ?_
    obtain rfl := e_27
    obtain rfl := e_28
    obtain ⟨t, rfl⟩ := ra; obtain ⟨u, rfl⟩ := rb
    exact sub_int (PostV.now R rep_i h)
  | Mult =>
    replace h : pMul Va Vb H Q := h
    cases Va with
    | int i =>
      refine e1_2 (oK_elim (show oK (intV Vb) _ from h)) fun j e h => ?_
      rw [intV_some e] at rb
      obtain ⟨t, rfl⟩ := ra; obtain ⟨u, rfl⟩ := rb
      refine mul_int (PostV.now R rep_i h.2) ?_
      rcases h.1 with q | q
      · exact IntMulOk.of_left (intBits_le_64 q.1 q.2)
      · exact IntMulOk.of_right (intBits_le_64 q.1 q.2)
    | ref i =>
      refine e1_2 (oK_elim (show oK (listAt H i) _ from h)) fun xs h1 h => ?_
      refine e1_2 (on1P_elim h) fun x e_29 h => ?_
      obtain rfl := e_29
      refine e1_3 (oK_elim h) fun n e hb q => ?_
      rw [intV_some e] at rb
      obtain ⟨l, hl, rfl⟩ := ra; obtain ⟨u, rfl⟩ := rb
      refine e2_3 (R.list hl h1) fun vs m e1 rs z => ?_
      refine e2_3 rs fun v r e_30 rx e_31 => ?_
      obtain rfl := e_30
      obtain rfl := e_31
      exact repeat_ok R e1 rx hb q
    | str x =>
      refine e1_3 (oK_elim (show oK (intV Vb) _ from h)) fun n e hb q => ?_
      rw [intV_some e] at rb
      obtain ⟨t, rfl, f⟩ := ra; obtain ⟨u, rfl⟩ := rb
      obtain ⟨h1, h2, h3, h4, h5, h6⟩ := hb
      have c1 : ¬ n < 1 := by lia
      have c2 : (n == 1 || x.length == 0) = false := by rw [Bool.or_eq_false_iff]; exact ⟨beq_false_of_ne (by lia), beq_false_of_ne (by lia)⟩
      have c3 : x.length * n.toNat ≤ 1000 * 1000 := Nat.mul_le_mul h4 (by lia)
      refine PySem.P.mul_str (by rw [decide_eq_false (by lia), decide_eq_false (by lia)]; rfl) (fun _ _ => ?_) (fun _ _ => ?_) ?_
      · have : (1000 : Int) ≤ (2 ^ 63 - 1) / n := Int.le_ediv_of_mul_le (by lia) (by lia)
        lia
      · exact decide_eq_false (by rw [sizeLine_eq]; lia)
      · rw [if_neg c1, c2, if_neg Bool.false_ne_true]
        exact ⟨by show (repS x n.toNat).length ≤ _; rw [sizeLine_eq]; lia, PostV.now R (rep_s ⟨h5, h6⟩) q⟩
    | _ => exact h.elim
  | FloorDiv =>
    refine e2_3 (pInt_elim (show pInt Va Vb _ from h)) fun i j e_32 e_33 h => ?_
    obtain rfl := e_32
    obtain rfl := e_33
    obtain ⟨t, rfl⟩ := ra; obtain ⟨u, rfl⟩ := rb
    have hj : j ≠ 0 := by have := h.1.1; lia
    refine floordiv_int hj (PostV.now (V := .int (i.fdiv j)) R rep_i ?_) (.inl (PyProof.noPylong_of_log2 ?_))
    · rw [Int.fdiv_eq_ediv_of_nonneg _ (by lia)]; exact h.2
    · have h1 := h.1
      have h2 : j.natAbs < 2 ^ 128 := by lia
      have h3 : j.natAbs ≠ 0 := by lia
      have := (Nat.log2_lt h3).mpr h2
      lia
  | Mod =>
    refine e2_3 (pInt_elim (show pInt Va Vb _ from h)) fun i j e_34 e_35 h => ?_
    obtain rfl := e_34
    obtain rfl := e_35
    obtain ⟨t, rfl⟩ := ra; obtain ⟨u, rfl⟩ := rb
    have hj : j ≠ 0 := by have := h.1.1; lia
    refine mod_int' hj (PostV.now (V := .int (i.fmod j)) R rep_i ?_)
    rw [Int.fmod_eq_emod_of_nonneg _ (by lia)]; exact h.2
  | Pow =>
    refine e2_3 (pInt_elim (show pInt Va Vb _ from h)) fun i j e_36 e_37 h => ?_
    obtain rfl := e_36
    obtain rfl := e_37
    obtain ⟨t, rfl⟩ := ra; obtain ⟨u, rfl⟩ := rb
    exact pow_int_small h.1.1 h.1.2.1 h.1.2.2 (PostV.now R rep_i h.2)
  | _ => exact h.elim
theorem seq_pos {k : Int} {n : Nat} (h0 : 0 ≤ k) (h1 : k < (n : Int)) : seqIndex? k n = some k.toNat := by
  have e : (if k < 0 then k + (n : Int) else k) = k := if_neg (by lia)
  show (if (0 ≤ (if k < 0 then k + (n : Int) else k) && decide ((if k < 0 then k + (n : Int) else k) < (n : Int))) = true then some (if k < 0 then k + (n : Int) else k).toNat else none) = _
  rw [e, if_pos (by rw [Bool.and_eq_true, decide_eq_true_eq, decide_eq_true_eq]; exact ⟨h0, h1⟩)]
theorem dctO_some {o : O} {l : List (Str × V)} (h : dctO o = some l) : o = .dict l := by
  cases o with
  | dict _ => exact congrArg O.dict (Option.some.inj h)
  | _ => exact no_some h
theorem HRel.dict {i : Nat} {a : Addr} {es : List (Str × V)} (R : HRel D γ H s.heap) (hi : γ[i]? = some a) (h : dictAt H i = some es) : ∃ kvs, s.heap.DictOf (strKind D.prog D.w) a kvs ∧ FsRep D γ s.heap es (valueAt kvs) ∧ kvs.length ≤ es.length := by
  refine e1_2 (Option.bind_eq_some_iff.mp h) fun o e h => ?_
  rw [dctO_some h] at e
  exact R.objs i a _ hi e
theorem isStr {x : Str} {t : Tok} : Value.isStrOf x (.str x t) = true := beq_self_eq_true x
theorem subI_ok {value slice : Expr} {a b : Value} {Va : V} {k : Int} {Q : V → Hp → Prop} (R : HRel D γ H s.heap) (ra : Rep D γ s.heap a Va) (rb : Rep D γ s.heap b (.int k)) (h : pSubI Va k H Q)
    (hs' : subscripted slice false a b = operate [a, b] (getItem a b)) : wpAny D.M A (subscriptTail value slice a b) (PostV D γ s Q) E s := by
  obtain ⟨u, rfl⟩ := rb
  cases Va with
  | tup l =>
    refine e2_3 ra fun t vs e_38 ta rs => ?_
    obtain rfl := e_38
    refine e1_2 (oK_elim h) fun v hv q => ?_
    have hz := ta.size
    obtain ⟨h0, hv⟩ := idxP_some hv
    refine e1_2 (rs.get hv) fun w hw rw_ => ?_
    have hlt : k.toNat < vs.length := (List.getElem?_eq_some_iff.mp hw).1
    exact item_tupleT (j := k.toNat) ta.isTup (by lia) (by lia) (seq_pos h0 (by lia)) hw (PostV.here R rw_ q) hs'
  | ref i =>
    refine e1_2 ra fun x hx e_39 => ?_
    obtain rfl := e_39
    refine e1_2 (oK_elim h) fun l hl h => ?_
    refine e1_2 (oK_elim h) fun v hv q => ?_
    refine e2_3 (R.list hx hl) fun vs n e rs hz => ?_
    have hL : s.heap.IsList x vs.toArray := ⟨_, e, rfl, n, rfl⟩
    have hlen := rs.length
    unfold idx at hv
    by_cases h0 : 0 ≤ k
    · rw [if_pos h0] at hv
      refine e1_2 (rs.get hv) fun w hw rw_ => ?_
      have hlt := (List.getElem?_eq_some_iff.mp hw).1
      exact tail_any hL.typeIs slot_list_getitem.lookup (wpAny_getItem_list hL h0 (by lia) (by rw [List.getElem?_toArray]; exact hw) (PostV.here R rw_ q)) hs'
    · rw [if_neg h0] at hv
      by_cases h1 : 0 ≤ k + (l.length : Int)
      · rw [if_pos h1, ← hlen] at hv
        refine e1_2 (rs.get hv) fun w hw rw_ => ?_
        have hsz : vs.toArray.size = vs.length := List.size_toArray
        exact tail_any hL.typeIs slot_list_getitem.lookup (wpAny_getItem_list_neg hL (by lia) (by rw [hsz]; lia) (by lia) (by rw [hsz, List.getElem?_toArray]; exact hw) (PostV.here R rw_ q)) hs'
      · rw [if_neg h1] at hv; exact no_some hv
  | scr ns =>
    obtain ⟨x, vs, rfl, e, hz, hlen, hI⟩ := ra
    refine e1_2 (oK_elim h) fun v hv q => ?_
    have hL : s.heap.IsList x vs.toArray := let ⟨o, h1, h2, n, h3⟩ := e; ⟨o, R.base _ _ h1, h2, n, h3⟩
    obtain ⟨h0, hv⟩ := idxP_some hv
    obtain ⟨t, hw⟩ := hI _ _ hv
    have hlt := (List.getElem?_eq_some_iff.mp hw).1
    exact tail_any hL.typeIs slot_list_getitem.lookup (wpAny_getItem_list hL h0 (by lia) (by rw [List.getElem?_toArray]; exact hw) (PostV.here (v := .int v t) (V := .int v) R rep_i q)) hs'
  | str x =>
    refine e1_2 ra fun t e_41 fx => ?_
    obtain rfl := e_41
    refine e1_2 (oK_elim h) fun v hv q => ?_
    have hz := fx.1
    have hl : x.cps.toList.length = x.length := Array.length_toList
    obtain ⟨h0, hv⟩ := idxP_some hv
    have hlt := (List.getElem?_eq_some_iff.mp hv).1
    refine tail_any (typeIs_str s x t) F.slot_str_getitem.lookup (P.getItem_str (c := v) (by simp; lia) (by rw [seq_pos h0 (by lia)]; simpa using hv) (PostV.now R (V := .str ⟨#[v]⟩) ?_ q)) hs'
    exact rep_s ⟨by show 1 ≤ _; lia, strOk_iff.mpr fun c hc => by simp at hc; subst hc; exact strOk_iff.mp fx.2 _ (List.mem_of_getElem? hv)⟩
  | _ => exact h.elim
theorem sub_ok {value slice : Expr} {a b : Value} {Va Vb : V} {Q : V → Hp → Prop} (R : HRel D γ H s.heap) (ra : Rep D γ s.heap a Va) (rb : Rep D γ s.heap b Vb) (h : pSub Va Vb H Q)
    (hs : ∀ lo hi st p, slice ≠ .Slice lo hi st p) : wpAny D.M A (subscriptTail value slice a b) (PostV D γ s Q) E s := by
  have hs' : ∀ o i, subscripted slice false o i = operate [o, i] (getItem o i) := fun o i => by
    unfold subscripted
    split
    · rename_i lo hi p _ _; exact absurd rfl (hs _ _ _ _)
    · rename_i h1; cases h1
    · rfl
  cases Vb with
  | str x =>
    refine e1_2 (oK_elim (show oK (refV Va) _ from h)) fun j hj h => ?_
    rw [refV_some hj] at ra
    refine e1_2 (oK_elim h) fun es he h => ?_
    refine e1_2 (oK_elim h) fun v hv q => ?_
    refine e1_2 rb fun t e_42 _ => ?_
    obtain rfl := e_42
    refine e1_2 ra fun a ha e_43 => ?_
    obtain rfl := e_43
    refine e1_3 (R.dict ha he) fun kvs hd hf _ => ?_
    refine e1_2 (hf.1 x v hv) fun w hw rw_ => ?_
    exact tail_any hd.mapOf.typeIs slot_dict_getitem.lookup (wpAny_getItem_of (knd := strKind D.prog D.w) (k := x) (isStr (t := t)) hd.mapOf hw (PostV.now R rw_ q)) (hs' _ _)
  | int k => exact subI_ok R ra rb h (hs' _ _)
  | _ => exact h.elim
end
end Mine
namespace Mine
open PySem PyProof.Rows PySem.SeqAt
mutual
theorem toPy_reads {mg : Wd} {γ : List Addr} {h : Heap} {v : Value} : ∀ {V : V} {d : PyData}, Rep mg γ h v V → toPy V = some d → ∃ as, Reads h v d as ∧ d.canLay0 = true
  | .none, d, r, e => by obtain rfl := r; obtain rfl := Option.some.inj e; exact ⟨_, .none, rfl⟩
  | .bool b, d, r, e => by obtain rfl := r; obtain rfl := Option.some.inj e; exact ⟨_, .bool b, rfl⟩
  | .int i, d, r, e => by obtain ⟨t, rfl⟩ := r; obtain rfl := Option.some.inj e; exact ⟨_, .int i t, rfl⟩
  | .str x, d, r, e => by obtain ⟨t, rfl, f⟩ := r; obtain rfl := Option.some.inj e; exact ⟨_, .str x t, f.2⟩
  | .tup l, d, r, e => by
    refine e2_3 r fun a vs e_44 e_45 rs => ?_
    obtain rfl := e_44
    obtain ⟨n, q, z⟩ := e_45
    refine e1_2 (Option.map_eq_some_iff.mp (show (toPys l).map _ = some d from e)) fun ds hd e_46 => ?_
    obtain rfl := e_46
    refine e1_2 (toPys_reads rs hd) fun as ra c => ?_
    exact ⟨as, .tuple q rfl rfl ra, c⟩
  | .ref i, d, r, e => no_some e
  | .fn i, d, r, e => no_some e
  | .ty i, d, r, e => no_some e
  | .bi i, d, r, e => no_some e
  | .scr i, d, r, e => no_some e
  | .bk, d, r, e => no_some e
  | .opq i, d, r, e => no_some e
  | .cls _ _, d, r, e => no_some e
theorem toPys_reads {mg : Wd} {γ : List Addr} {h : Heap} {vs : List Value} : ∀ {l : List V} {ds : List PyData}, Reps mg γ h vs l → toPys l = some ds → ∃ as, ReadsAll h vs ds as ∧ PyData.canLayAll0 ds = true
  | [], ds, r, e => by obtain rfl := r; obtain rfl := Option.some.inj e; exact ⟨_, .nil, rfl⟩
  | V :: l, ds, r, e => by
    refine e2_3 r fun v r' e_47 a b => ?_
    obtain rfl := e_47
    refine e1_2 (Option.bind_eq_some_iff.mp (show (toPy V).bind _ = some ds from e)) fun d h1 e => ?_
    refine e1_2 (Option.map_eq_some_iff.mp e) fun ds' h2 e_48 => ?_
    obtain rfl := e_48
    refine e1_2 (toPy_reads a h1) fun as q1 c1 => ?_
    refine e1_2 (toPys_reads b h2) fun bs q2 c2 => ?_
    exact ⟨_, .cons q1 q2, by show (d.canLay0 && PyData.canLayAll0 ds') = true; rw [c1, c2]; rfl⟩
end
section
variable {D : Wd} {γ : List Addr} {H : Hp} {s : Shared} {A : Around} {E : Value → Shared → Prop} {k : Nat}
theorem toPyH_reads {v : Value} {V : V} {d : PyData} (R : HRel D γ H s.heap) (r : Rep D γ s.heap v V) (e : toPyH H V = some d) : ∃ as, Reads s.heap v d as ∧ d.canLay0 = true := by
  cases V with
  | ref i =>
    refine e1_2 (Option.map_eq_some_iff.mp (show ((listAt H i).bind toPys).map _ = some d from e)) fun ds hb e_49 => ?_
    obtain rfl := e_49
    refine e1_2 (Option.bind_eq_some_iff.mp hb) fun l hl hd => ?_
    refine e1_2 r fun a hi e_50 => ?_
    obtain rfl := e_50
    refine e2_3 (R.list hi hl) fun vs n q rs z => ?_
    refine e1_2 (toPys_reads rs hd) fun as ra c => ?_
    exact ⟨_, .list q rfl rfl ra, c⟩
  | _ => exact toPy_reads r e
mutual
theorem toPyT_reads {v : Value} (R : HRel D γ H s.heap) : ∀ {V : V} {d : PyData}, Rep D γ s.heap v V → toPyT H V = some d → ∃ as, Reads s.heap v d as ∧ d.canLay0 = true
  | .none, d, r, e => toPy_reads r e
  | .bool b, d, r, e => toPy_reads r e
  | .int i, d, r, e => toPy_reads r e
  | .str x, d, r, e => toPy_reads r e
  | .ref i, d, r, e => toPyH_reads R r e
  | .tup l, d, r, e => by
    refine e2_3 r fun a vs e_51 e_52 rs => ?_
    obtain rfl := e_51
    obtain ⟨n, q, z⟩ := e_52
    refine e1_2 (Option.map_eq_some_iff.mp (show (toPysT H l).map _ = some d from e)) fun ds hd e_53 => ?_
    obtain rfl := e_53
    refine e1_2 (toPysT_reads R rs hd) fun as ra c => ?_
    exact ⟨as, .tuple q rfl rfl ra, c⟩
  | .opq i, d, r, e => no_some e
  | .fn i, d, r, e => no_some e
  | .ty i, d, r, e => no_some e
  | .bi i, d, r, e => no_some e
  | .scr i, d, r, e => no_some e
  | .bk, d, r, e => no_some e
theorem toPysT_reads {vs : List Value} (R : HRel D γ H s.heap) : ∀ {l : List V} {ds : List PyData}, Reps D γ s.heap vs l → toPysT H l = some ds → ∃ as, ReadsAll s.heap vs ds as ∧ PyData.canLayAll0 ds = true
  | [], ds, r, e => by obtain rfl := r; obtain rfl := Option.some.inj e; exact ⟨_, .nil, rfl⟩
  | V :: l, ds, r, e => by
    refine e2_3 r fun v r' e_54 a b => ?_
    obtain rfl := e_54
    refine e1_2 (Option.bind_eq_some_iff.mp (show (toPyT H V).bind _ = some ds from e)) fun d h1 e => ?_
    refine e1_2 (Option.map_eq_some_iff.mp e) fun ds' h2 e_55 => ?_
    obtain rfl := e_55
    refine e1_2 (toPyT_reads R a h1) fun as q1 c1 => ?_
    refine e1_2 (toPysT_reads R b h2) fun bs q2 c2 => ?_
    exact ⟨_, .cons q1 q2, by show (d.canLay0 && PyData.canLayAll0 ds') = true; rw [c1, c2]; rfl⟩
end
theorem room (hA : AOk D k A) {n m : Nat} (h : n ≤ 60) : A.units + min n m < cLine := by
  have := hA.units
  have : min n m ≤ n := Nat.min_le_left _ _
  show _ < 9900
  lia
theorem room1 (hA : AOk D k A) {n m : Nat} (h : n ≤ 60) : A.units + 1 + min m n < cLine := by
  have := hA.units
  have : min m n ≤ n := Nat.min_le_right _ _
  show _ < 9900
  lia
theorem eqH_some {a b : V} {c : Bool} (h : eqH H a b = some c) : ∃ d e, toPyT H a = some d ∧ toPyT H b = some e ∧ d.depth ≤ 60 ∧ c = PyData.eqv d e := by
  refine e1_2 (Option.bind_eq_some_iff.mp h) fun d h1 h => ?_
  refine e1_2 (Option.bind_eq_some_iff.mp h) fun e h2 h => ?_
  by_cases hd : d.depth ≤ 60
  · rw [if_pos hd] at h; exact ⟨d, e, h1, h2, hd, (Option.some.inj h).symm⟩
  · rw [if_neg hd] at h; exact no_some h
theorem memV_some {a : V} {l : List V} {c : Bool} (h : memV a l = some c) : ∃ d ds, toPy a = some d ∧ toPys l = some ds ∧ d.depth ≤ 60 ∧ c = ds.any fun e => PyData.eqv e d := by
  refine e1_2 (Option.bind_eq_some_iff.mp h) fun d h1 h => ?_
  refine e1_2 (Option.bind_eq_some_iff.mp h) fun e h2 h => ?_
  by_cases hd : d.depth ≤ 60
  · rw [if_pos hd] at h; exact ⟨d, e, h1, h2, hd, (Option.some.inj h).symm⟩
  · rw [if_neg hd] at h; exact no_some h
theorem in_ok {n : Bool} {a b : Value} {Va Vb : V} {P : Bool → Prop} {Q : Value → Shared → Prop} (hA : AOk D k A) (R : HRel D γ H s.heap) (ra : Rep D γ s.heap a Va) (rb : Rep D γ s.heap b Vb) (h : pIn Va Vb H P) (hq : ∀ c, P c → Q (.bool (if n then !c else c)) s) :
    wpAny D.M A (compareOp (if n then .NotIn else .In) a b) Q E s := by
  cases Vb with
  | str x =>
    refine e1_2 (oK_elim h) fun y hy q => ?_
    rw [strV_some hy] at ra
    refine e1_2 ra fun u e_56 _ => ?_
    obtain rfl := e_56
    refine e1_2 rb fun t e_57 _ => ?_
    obtain rfl := e_57
    cases n with
    | true => exact PySem.P.notIn_str (hq _ q)
    | false => exact PySem.P.in_str (hq _ q)
  | tup l =>
    refine e1_2 (oK_elim h) fun c hc q => ?_
    refine e2_4 (memV_some hc) fun d ds h1 h2 hd e_58 => ?_
    obtain rfl := e_58
    refine e1_2 (toPy_reads ra h1) fun as r1 c1 => ?_
    obtain ⟨bs, r2, c2⟩ := toPy_reads (d := .tuple ds) rb (show (toPys l).map PyData.tuple = _ by rw [h2]; rfl)
    cases n with
    | true => exact notIn_tuple_reads r2 r1 c2 c1 (room1 hA hd) (hq _ q)
    | false => exact in_tuple_reads r2 r1 c2 c1 (room1 hA hd) (hq _ q)
  | ref i =>
    refine e1_2 (oK_elim h) fun l hl h => ?_
    refine e1_2 (oK_elim h) fun c hc q => ?_
    refine e2_4 (memV_some hc) fun d ds h1 h2 hd e_59 => ?_
    obtain rfl := e_59
    refine e1_2 (toPy_reads ra h1) fun as r1 c1 => ?_
    obtain ⟨bs, r2, c2⟩ := toPyH_reads (d := .list ds) R rb (show ((listAt H i).bind toPys).map PyData.list = _ by rw [hl]; show (toPys l).map _ = _; rw [h2]; rfl)
    cases n with
    | true => exact notIn_list_reads r2 r1 c2 c1 (room1 hA hd) (hq _ q)
    | false => exact in_list_reads r2 r1 c2 c1 (room1 hA hd) (hq _ q)
  | _ => exact h.elim
theorem isNoneV_eq {v : V} (h : isNoneV v = true) : v = .none := by
  cases v with
  | none => rfl
  | _ => exact Bool.noConfusion h
theorem none_rep {v : Value} : ∀ {V : V}, Rep D γ s.heap v V → (v == Value.none) = isNoneV V
  | .none, r => by obtain rfl := r; rfl
  | .bool _, r => by obtain rfl := r; rfl
  | .int _, ⟨t, e⟩ => by rw [e]; rfl
  | .str _, ⟨t, e, _⟩ => by rw [e]; rfl
  | .tup _, ⟨a, vs, e, _⟩ => by rw [e]; rfl
  | .opq _, ⟨t, e⟩ => by rw [e]; rfl
  | .ref _, ⟨a, _, e⟩ => by rw [e]; rfl
  | .fn _, ⟨a, e, _⟩ => by rw [e]; rfl
  | .ty _, r => by obtain rfl := r; rfl
  | .bi _, r => by obtain rfl := r; rfl
  | .scr _, ⟨a, vs, e, _⟩ => by rw [e]; rfl
  | .bk, r => by obtain rfl := r; rfl
  | .cls _ _, ⟨a, e, _⟩ => by rw [e]; rfl
theorem isnot_none {M : Model} {v : Value} {Q : Value → Shared → Prop} (h : Q (.bool (!(v == .none))) s) : wpAny M A (compareOp .IsNot v .none) Q E s := by
  show wpAny M A (do return .bool (!(← isSame v .none))) Q E s
  rw [isSame_none]; exact wpAny_bind (wpAny_pure (wpAny_pure h))
theorem sameV_some {a b : V} {c : Bool} (h : sameV a b = some c) : (b = .none ∧ c = isNoneV a) ∨ ∃ c1 d1, a = .bool c1 ∧ b = .bool d1 ∧ c = (c1 == d1) := by
  cases b with
  | none => exact .inl ⟨rfl, (Option.some.inj h).symm⟩
  | bool d => cases a with
    | bool c1 => exact .inr ⟨c1, d, rfl, rfl, (Option.some.inj h).symm⟩
    | _ => exact no_some h
  | _ => exact no_some h
theorem isnot_bool {M : Model} {c d : Bool} {Q : Value → Shared → Prop} (h : Q (.bool (!(c == d))) s) : wpAny M A (compareOp .IsNot (.bool c) (.bool d)) Q E s := by
  show wpAny M A (do return .bool (!(← isSame (.bool c) (.bool d)))) Q E s
  rw [isSame_plain (by cases c <;> cases d <;> rfl)]
  refine wpAny_bind (wpAny_pure (wpAny_pure ?_))
  have e : (Value.bool c == Value.bool d) = (c == d) := by cases c <;> cases d <;> rfl
  rw [e]; exact h
theorem cmp_ok {op : CmpOp} {a b : Value} {Va Vb : V} {Q : V → Hp → Prop} (hA : AOk D k A) (R : HRel D γ H s.heap) (ra : Rep D γ s.heap a Va) (rb : Rep D γ s.heap b Vb) (h : pCmp op Va Vb H Q) :
    wpAny D.M A (compareOp op a b) (PostV D γ s Q) E s := by
  cases op with
  | Eq =>
    refine e1_2 (oK_elim (show oK (eqK H Va Vb) _ from h)) fun c hc q => ?_
    rcases eqK_some hc with ⟨x, y, rfl, rfl, rfl⟩ | hc
    · obtain ⟨t, rfl⟩ := ra; obtain ⟨u, rfl⟩ := rb
      exact eq_str (PostV.here R rep_b q)
    refine e2_4 (eqH_some hc) fun d e h1 h2 hd e_60 => ?_
    obtain rfl := e_60
    refine e1_2 (toPyT_reads R ra h1) fun as r1 c1 => ?_
    refine e1_2 (toPyT_reads R rb h2) fun bs r2 c2 => ?_
    exact compareEq_reads r1 r2 c1 c2 (room hA hd) (PostV.here R rep_b q)
  | NotEq =>
    refine e1_2 (oK_elim (show oK (eqH H Va Vb) _ from h)) fun c hc q => ?_
    refine e2_4 (eqH_some hc) fun d e h1 h2 hd e_61 => ?_
    obtain rfl := e_61
    refine e1_2 (toPyT_reads R ra h1) fun as r1 c1 => ?_
    refine e1_2 (toPyT_reads R rb h2) fun bs r2 c2 => ?_
    exact compareNe_reads r1 r2 c1 c2 (room hA hd) (PostV.here R rep_b q)
  | Lt =>
    refine e2_3 (pInt_elim (show pInt Va Vb _ from h)) fun i j e_62 e_63 h => ?_
    obtain rfl := e_62
    obtain rfl := e_63
    obtain ⟨t, rfl⟩ := ra; obtain ⟨u, rfl⟩ := rb
    exact lt_int (PostV.here R rep_b h)
  | LtE =>
    refine e2_3 (pInt_elim (show pInt Va Vb _ from h)) fun i j e_64 e_65 h => ?_
    obtain rfl := e_64
    obtain rfl := e_65
    obtain ⟨t, rfl⟩ := ra; obtain ⟨u, rfl⟩ := rb
    exact le_int (PostV.here R rep_b h)
  | Gt =>
    refine e2_3 (pInt_elim (show pInt Va Vb _ from h)) fun i j e_66 e_67 h => ?_
    obtain rfl := e_66
    obtain rfl := e_67
    obtain ⟨t, rfl⟩ := ra; obtain ⟨u, rfl⟩ := rb
    exact gt_int (PostV.here R rep_b h)
  | GtE =>
    refine e2_3 (pInt_elim (show pInt Va Vb _ from h)) fun i j e_68 e_69 h => ?_
    obtain rfl := e_68
    obtain rfl := e_69
    obtain ⟨t, rfl⟩ := ra; obtain ⟨u, rfl⟩ := rb
    exact ge_int (PostV.here R rep_b h)
  | In => exact in_ok (n := false) (P := fun c => Q (.bool c) H) hA R ra rb h fun c q => PostV.here R rep_b q
  | NotIn => exact in_ok (n := true) (P := fun c => Q (.bool (!c)) H) hA R ra rb h fun c q => PostV.here R rep_b q
  | Is =>
    refine e1_2 (oK_elim (show oK (sameV Va Vb) _ from h)) fun c hc q => ?_
    rcases sameV_some hc with ⟨rfl, rfl⟩ | ⟨c1, d1, rfl, rfl, rfl⟩
    · obtain rfl := rb
      exact is_none (PostV.here R rep_b (by rw [none_rep ra]; exact q))
    · obtain rfl := ra; obtain rfl := rb
      exact is_bool (PostV.here R rep_b q)
  | IsNot =>
    refine e1_2 (oK_elim (show oK (sameV Va Vb) _ from h)) fun c hc q => ?_
    rcases sameV_some hc with ⟨rfl, rfl⟩ | ⟨c1, d1, rfl, rfl, rfl⟩
    · obtain rfl := rb
      exact isnot_none (PostV.here R rep_b (by rw [none_rep ra]; exact q))
    · obtain rfl := ra; obtain rfl := rb
      exact isnot_bool (PostV.here R rep_b q)
theorem len_ok {v : Value} {n : Int} {Q : V → Hp → Prop} {V : V} (R : HRel D γ H s.heap) (r : Rep D γ s.heap v V)
    (h : (∃ l, V = .tup l ∧ n = (l.length : Int)) ∨ (∃ i l, V = .ref i ∧ listAt H i = some l ∧ n = (l.length : Int))) (q : Q (.int n) H) :
    wpAny D.M A (call (.builtin "len") [v]) (PostV D γ s Q) E s := by
  rcases h with ⟨l, rfl, rfl⟩ | ⟨i, l, rfl, hl, rfl⟩
  · refine e2_3 r fun a vs e_70 t rs => ?_
    obtain rfl := e_70
    have := t.size; have hlen := rs.length
    refine len_tuple t.isTup (by simp; lia) (PostV.now R ?_ q)
    exact Exists.intro (s.toks + 1) (by simp [hlen])
  · refine e1_2 r fun a hi e_71 => ?_
    obtain rfl := e_71
    refine e2_3 (R.list hi hl) fun vs n e rs z => ?_
    have hlen := rs.length
    refine len_list (items := vs.toArray) ⟨_, e, rfl, n, rfl⟩ (by simp; lia) (PostV.now R ?_ q)
    exact Exists.intro (s.toks + 1) (by simp [hlen])
end
end Mine
namespace Mine
open PySem PyProof.Rows PySem.SeqAt
section
variable {D : Wd} {γ : List Addr} {H : Hp} {s : Shared} {A : Around} {E : Value → Shared → Prop} {k : Nat}
theorem isi_ok {v : Value} {t : Ty} {c : Bool} {Q : V → Hp → Prop} {W : V} (R : HRel D γ H s.heap) (r : Rep D γ s.heap v W) (h : isInstH H W t = some c) (q : Q (.bool c) H) :
    wpAny D.M A (call (.builtin "isinstance") [v, .type t.name]) (PostV D γ s Q) E s := by
  cases W with
  | none =>
    obtain rfl := r
    cases t with
    | int => obtain rfl := Option.some.inj h; exact IsiPair.NoneType_int (PostV.now R rep_b q)
    | bool => obtain rfl := Option.some.inj h; exact IsiPair.NoneType_bool (PostV.now R rep_b q)
    | str => obtain rfl := Option.some.inj h; exact IsiPair.NoneType_str (PostV.now R rep_b q)
    | tuple => obtain rfl := Option.some.inj h; exact IsiPair.NoneType_tuple (PostV.now R rep_b q)
    | list => obtain rfl := Option.some.inj h; exact IsiPair.NoneType_list (PostV.now R rep_b q)
    | _ => exact no_some h
  | bool b =>
    obtain rfl := r
    cases t with
    | int => obtain rfl := Option.some.inj h; exact IsiPair.bool_int (PostV.here R rep_b q)
    | bool => obtain rfl := Option.some.inj h; exact IsiPair.bool_bool (PostV.here R rep_b q)
    | str => obtain rfl := Option.some.inj h; exact IsiPair.bool_str (PostV.now R rep_b q)
    | tuple => obtain rfl := Option.some.inj h; exact IsiPair.bool_tuple (PostV.now R rep_b q)
    | list => obtain rfl := Option.some.inj h; exact IsiPair.bool_list (PostV.now R rep_b q)
    | _ => exact no_some h
  | int i =>
    obtain ⟨u, rfl⟩ := r
    cases t with
    | int => obtain rfl := Option.some.inj h; exact IsiPair.int_int (PostV.here R rep_b q)
    | bool => obtain rfl := Option.some.inj h; exact IsiPair.int_bool (PostV.now R rep_b q)
    | str => obtain rfl := Option.some.inj h; exact IsiPair.int_str (PostV.now R rep_b q)
    | tuple => obtain rfl := Option.some.inj h; exact IsiPair.int_tuple (PostV.now R rep_b q)
    | list => obtain rfl := Option.some.inj h; exact IsiPair.int_list (PostV.now R rep_b q)
    | _ => exact no_some h
  | str x =>
    refine e1_2 r fun u e_72 _ => ?_
    obtain rfl := e_72
    cases t with
    | int => obtain rfl := Option.some.inj h; exact IsiPair.str_int (PostV.now R rep_b q)
    | bool => obtain rfl := Option.some.inj h; exact IsiPair.str_bool (PostV.now R rep_b q)
    | str => obtain rfl := Option.some.inj h; exact IsiPair.str_str (PostV.here R rep_b q)
    | tuple => obtain rfl := Option.some.inj h; exact IsiPair.str_tuple (PostV.now R rep_b q)
    | list => obtain rfl := Option.some.inj h; exact IsiPair.str_list (PostV.now R rep_b q)
    | _ => exact no_some h
  | tup l =>
    refine e2_3 r fun a vs e_73 e_74 _ => ?_
    obtain rfl := e_73
    obtain ⟨n, e, _⟩ := e_74
    cases t with
    | int => obtain rfl := Option.some.inj h; exact IsiPair.tuple_int e rfl (PostV.now R rep_b q)
    | bool => obtain rfl := Option.some.inj h; exact IsiPair.tuple_bool e rfl (PostV.now R rep_b q)
    | str => obtain rfl := Option.some.inj h; exact IsiPair.tuple_str e rfl (PostV.now R rep_b q)
    | tuple => obtain rfl := Option.some.inj h; exact IsiPair.tuple_tuple e rfl (PostV.here R rep_b q)
    | list => obtain rfl := Option.some.inj h; exact IsiPair.tuple_list e rfl (PostV.now R rep_b q)
    | _ => exact no_some h
  | ref i =>
    refine e1_2 r fun a hi e_75 => ?_
    obtain rfl := e_75
    have hl0 : ∃ l, listAt H i = some l ∧ c = subTy .list t ∧ isiTy t = true := by
      cases ht : isiTy t with
      | false => unfold isInstH at h; rw [ht] at h; exact no_some h
      | true =>
        unfold isInstH at h; rw [ht] at h
        refine e1_2 (Option.map_eq_some_iff.mp h) fun y h1 h2 => ?_
        refine e1_2 (Option.map_eq_some_iff.mp h1) fun l h3 h4 => ?_
        exact ⟨l, h3, by rw [← h2, ← h4], rfl⟩
    refine e1_3 hl0 fun l hl e_76 ht => ?_
    obtain rfl := e_76
    refine e2_3 (R.list hi hl) fun vs n e rs z => ?_
    cases t with
    | int => exact IsiPair.list_int e rfl (PostV.now R rep_b q)
    | bool => exact IsiPair.list_bool e rfl (PostV.now R rep_b q)
    | str => exact IsiPair.list_str e rfl (PostV.now R rep_b q)
    | tuple => exact IsiPair.list_tuple e rfl (PostV.now R rep_b q)
    | list => exact IsiPair.list_list e rfl (PostV.here R rep_b q)
    | _ => exact Bool.noConfusion ht
  | _ => cases t <;> exact no_some h
theorem boolV_some {v : V} {b : Bool} (h : boolV v = some b) : v = .bool b := by
  cases v with
  | bool _ => exact congrArg V.bool (Option.some.inj h)
  | _ => exact no_some h
theorem allBools_reps {mg : Wd} {h : Heap} : ∀ {l : List V} {bs : List Bool} {vs : List Value}, allBools l = some bs → Reps mg γ h vs l → vs = bs.map Value.bool
  | [], bs, vs, e, r => by obtain rfl := Option.some.inj e; exact r
  | u :: l, bs, vs, e, r => by
    refine e1_2 (Option.bind_eq_some_iff.mp (show (boolV u).bind _ = some bs from e)) fun b hb e => ?_
    refine e1_2 (Option.map_eq_some_iff.mp e) fun cs hc e_77 => ?_
    obtain rfl := e_77
    refine e2_3 r fun v w e_78 a b' => ?_
    obtain rfl := e_78
    rw [boolV_some hb] at a
    obtain rfl := a
    rw [allBools_reps hc b']; rfl
theorem any_ok {i : Nat} {v : Value} {l : List V} {bs : List Bool} {Q : V → Hp → Prop} (hA : AOk D k A) (R : HRel D γ H s.heap) (r : Rep D γ s.heap v (.ref i)) (hl : listAt H i = some l) (hb : allBools l = some bs)
    (q : Q (.bool (bs.any id)) H) : wpAny D.M A (call (.builtin "any") [v]) (PostV D γ s Q) E s := by
  refine e1_2 r fun a hi e_79 => ?_
  obtain rfl := e_79
  refine e2_3 (R.list hi hl) fun vs n e rs z => ?_
  have hvs := allBools_reps hb rs
  subst hvs
  have hL : s.heap.IsList a (bs.map Value.bool).toArray := ⟨_, e, rfl, n, rfl⟩
  refine call_any_walk (wpAny_pyIter_list hL ?_)
  have ha : a ≠ s.heap.objs.size := Nat.ne_of_lt (Heap.lt_size e)
  refine ⟨_, _, _, _, _, _, fun j => bs.getD j false, rfl, Walks.list (by exact hA.handled) s.heap.objs.size a ha (bs.map Value.bool).toArray, ?_, ?_, ?_⟩
  · refine ⟨⟨_, Heap.get?_push_size _ rfl, rfl, rfl⟩, ⟨_, Heap.get?_push_of_some _ e, rfl, n, rfl⟩⟩
  · intro j v s' Q' E' hv hq
    have : v = .bool (bs.getD j false) := by
      rw [List.getElem?_toArray, List.getElem?_map, Option.map_eq_some_iff] at hv
      refine e1_2 hv fun b hb1 e_80 => ?_
      obtain rfl := e_80
      simp [List.getD, hb1]
    subst this
    exact wpAny_truthy_bool hq
  · intro h' tk hk
    have e1 : (List.range (bs.map Value.bool).toArray.size).any (fun j => bs.getD j false) = bs.any id := by
      simp only [List.size_toArray, List.length_map]
      rw [Bool.eq_iff_iff]
      simp only [List.any_eq_true, List.mem_range, id]
      constructor
      · rintro ⟨j, hj, hx⟩
        exact ⟨bs[j], List.getElem_mem hj, by simpa [List.getD, hj] using hx⟩
      · rintro ⟨b, hb', hx⟩
        obtain ⟨j, hj, rfl⟩ := List.getElem_of_mem hb'
        exact ⟨j, hj, by simpa [List.getD, hj] using hx⟩
    have hkk : ∀ b o, s.heap.get? b = some o → h'.get? b = some o := fun b o eb => hk b o (by
      intro hm; simp at hm; subst hm; exact absurd (Heap.lt_size eb) (Nat.lt_irrefl _)) (Heap.get?_push_of_some _ eb)
    rw [e1]
    exact PostV.grown R hkk rep_b q
theorem all_ok {i : Nat} {v : Value} {l : List V} {bs : List Bool} {Q : V → Hp → Prop} (hA : AOk D k A) (R : HRel D γ H s.heap) (r : Rep D γ s.heap v (.ref i)) (hl : listAt H i = some l) (hb : allBools l = some bs)
    (q : Q (.bool (bs.all id)) H) : wpAny D.M A (call (.builtin "all") [v]) (PostV D γ s Q) E s := by
  refine e1_2 r fun a hi e_82 => ?_
  obtain rfl := e_82
  refine e2_3 (R.list hi hl) fun vs n e rs z => ?_
  have hvs := allBools_reps hb rs
  subst hvs
  have hL : s.heap.IsList a (bs.map Value.bool).toArray := ⟨_, e, rfl, n, rfl⟩
  refine call_all_walk (wpAny_pyIter_list hL ?_)
  have ha : a ≠ s.heap.objs.size := Nat.ne_of_lt (Heap.lt_size e)
  refine ⟨_, _, _, _, _, _, fun j => bs.getD j true, rfl, Walks.list (by exact hA.handled) s.heap.objs.size a ha (bs.map Value.bool).toArray, ?_, ?_, ?_⟩
  · refine ⟨⟨_, Heap.get?_push_size _ rfl, rfl, rfl⟩, ⟨_, Heap.get?_push_of_some _ e, rfl, n, rfl⟩⟩
  · intro j v s' Q' E' hv hq
    have : v = .bool (bs.getD j true) := by
      rw [List.getElem?_toArray, List.getElem?_map, Option.map_eq_some_iff] at hv
      refine e1_2 hv fun b hb1 e_83 => ?_
      obtain rfl := e_83
      simp [List.getD, hb1]
    subst this
    exact wpAny_truthy_bool hq
  · intro h' tk hk
    have e1 : (List.range (bs.map Value.bool).toArray.size).all (fun j => bs.getD j true) = bs.all id := by
      simp only [List.size_toArray, List.length_map]
      rw [Bool.eq_iff_iff]
      simp only [List.all_eq_true, List.mem_range, id]
      constructor
      · intro hx b hb'
        obtain ⟨j, hj, rfl⟩ := List.getElem_of_mem hb'
        have := hx j hj
        simpa [List.getD, hj] using this
      · intro hx j hj
        have := hx bs[j] (List.getElem_mem hj)
        simpa [List.getD, hj] using this
    have hkk : ∀ b o, s.heap.get? b = some o → h'.get? b = some o := fun b o eb => hk b o (by
      intro hm; simp at hm; subst hm; exact absurd (Heap.lt_size eb) (Nat.lt_irrefl _)) (Heap.get?_push_of_some _ eb)
    rw [e1]
    exact PostV.grown R hkk rep_b q
theorem int_of_bool_ok {v : Value} {b : Bool} {Q : V → Hp → Prop} (R : HRel D γ H s.heap) (r : Rep D γ s.heap v (.bool b)) (q : Q (.int (if b then 1 else 0)) H) :
    wpAny D.M A (call (.type "int") [v]) (PostV D γ s Q) E s := by
  obtain rfl := r
  exact call_int_bool (PostV.now R rep_i q)
theorem tuple_of_list_ok {v : Value} {i : Nat} {l : List V} {Q : V → Hp → Prop} (R : HRel D γ H s.heap) (r : Rep D γ s.heap v (.ref i)) (hl : listAt H i = some l) (q : Q (.tup l) H) :
    wpAny D.M A (call (.type "tuple") [v]) (PostV D γ s Q) E s := by
  refine e1_2 r fun a hi e_85 => ?_
  obtain rfl := e_85
  refine e2_3 (R.list hi hl) fun vs n e rs z => ?_
  refine call_tuple_list (items := vs.toArray) ⟨_, e, rfl, n, rfl⟩ (fun h' hk => ?_) (by simp [sizeLine_eq]; lia)
  have hk' : ∀ b o, s.heap.get? b = some o → (h'.push { cls := .type "tuple", data := .seq vs.toArray }).get? b = some o := fun b o eb => Heap.get?_push_of_some _ (hk b o eb)
  refine PostV.grown (V := .tup l) (tk := s.toks) R hk' ?_ q
  exact Exists.intro _ ⟨vs, rfl, ⟨0, Heap.get?_push_size _ rfl, z⟩, Reps.mono ⟨[], by simp⟩ (fun _ _ => tupAt_grow hk') rs⟩
theorem list_of_ok {v : Value} {i : Nat} {l : List V} {Q : V → Hp → Prop} (R : HRel D γ H s.heap) (r : Rep D γ s.heap v (.ref i)) (hl : listAt H i = some l) (q : Q (.ref H.length) (H ++ [.list l])) :
    wpAny D.M A (call (.type "list") [v]) (PostV D γ s Q) E s := by
  refine e1_2 r fun a hi e_86 => ?_
  obtain rfl := e_86
  refine e2_3 (R.list hi hl) fun vs n e rs z => ?_
  refine call_list_seq a (T := "list") (items := vs.toArray) (.inl rfl) e rfl rfl (fun h' c' hk hn => ?_) (by rw [sizeLine_eq]; show vs.length ≤ _; lia)
  exact PostV.addList (tk := s.toks) R rs (by rw [← rs.length]; exact z) hk (none_end _) hn q
theorem max_ok {a b : Int} {v u : Value} {Q : V → Hp → Prop} (hA : AOk D k A) (R : HRel D γ H s.heap) (r : Rep D γ s.heap v (.int a)) (r' : Rep D γ s.heap u (.int b)) (q : Q (.int (max a b)) H) :
    wpAny D.M A (call (.builtin "max") [v, u]) (PostV D γ s Q) E s := by
  obtain ⟨t, rfl⟩ := r; obtain ⟨t', rfl⟩ := r'
  refine max_two_ints hA.handled fun h' tk hk => ?_
  by_cases c : b > a
  · rw [if_pos c]
    have e : max a b = b := by lia
    rw [e] at q
    exact PostV.grown R hk rep_i q
  · rw [if_neg c]
    have e : max a b = a := by lia
    rw [e] at q
    exact PostV.grown R hk rep_i q
theorem ints_are : ∀ {l : List V} {ns : List Int} {vs : List Value}, intsOf l = some ns → Reps D γ s.heap vs l → IntsAre vs ns
  | [], ns, vs, h, r => by obtain rfl := Option.some.inj h; obtain rfl := r; exact .nil
  | v :: l, ns, vs, h, r => by
    refine e2_3 r fun w ws e_87 a b => ?_
    obtain rfl := e_87
    refine e1_2 (Option.bind_eq_some_iff.mp (show (intV v).bind _ = some ns from h)) fun i hi h => ?_
    refine e1_2 (Option.map_eq_some_iff.mp h) fun js hj e_88 => ?_
    obtain rfl := e_88
    rw [intV_some hi] at a
    obtain ⟨t, rfl⟩ := a
    exact .cons i t (ints_are hj b)
theorem maxl_ok {i : Nat} {v : Value} {l : List V} {ns : List Int} {Q : V → Hp → Prop} (hA : AOk D k A) (R : HRel D γ H s.heap) (r : Rep D γ s.heap v (.ref i)) (hl : listAt H i = some l) (hn : intsOf l = some ns) (h0 : ns ≠ [])
    (q : ∀ m, m ∈ ns → (∀ x ∈ ns, x ≤ m) → Q (.int m) H) : wpAny D.M A (call (.builtin "max") [v]) (PostV D γ s Q) E s := by
  refine e1_2 r fun a hi e_89 => ?_
  obtain rfl := e_89
  refine e2_3 (R.list hi hl) fun vs n e rs z => ?_
  have hia := ints_are hn rs
  obtain ⟨xs, hx⟩ := hia.allInts.items
  have hnum : xs.toList.map (·.1) = ns := by
    rw [← hia.numsOf, ← nums_intItems, ← hx]
  have hsz : 0 < xs.size := by
    have := congrArg List.length hnum
    rw [List.length_map, Array.length_toList] at this
    have := List.length_pos_iff.mpr h0
    lia
  refine max_intList hA.handled (xs := xs) (by rw [← hx]; exact ⟨_, e, rfl, n, rfl⟩) hsz fun v h' tk hv hk => ?_
  obtain ⟨t, rfl⟩ := intItems_at hv
  obtain ⟨h1, h2⟩ := argBest_gt (numAt xs) (xs.size - 1)
  refine PostV.grown R hk rep_i (q _ ?_ fun x hxm => ?_)
  · rw [numAt_eq, ← hnum]; exact getD_mem (by rw [List.length_map, Array.length_toList]; lia)
  · rw [← hnum] at hxm
    refine e1_2 (mem_getD hxm) fun j hj e_90 => ?_
    obtain rfl := e_90
    rw [List.length_map, Array.length_toList] at hj
    rw [← numAt_eq]; exact h2 j (by lia)
theorem min_ok {a b : Int} {v u : Value} {Q : V → Hp → Prop} (hA : AOk D k A) (R : HRel D γ H s.heap) (r : Rep D γ s.heap v (.int a)) (r' : Rep D γ s.heap u (.int b)) (q : Q (.int (min a b)) H) :
    wpAny D.M A (call (.builtin "min") [v, u]) (PostV D γ s Q) E s := by
  obtain ⟨t, rfl⟩ := r; obtain ⟨t', rfl⟩ := r'
  refine min_two_ints hA.handled fun h' tk hk => ?_
  by_cases c : b < a
  · rw [if_pos c]
    have e : min a b = b := by lia
    rw [e] at q
    exact PostV.grown R hk rep_i q
  · rw [if_neg c]
    have e : min a b = a := by lia
    rw [e] at q
    exact PostV.grown R hk rep_i q
theorem repr_ok {v : Value} {W : V} {d : PyData} {Q : V → Hp → Prop} (hA : AOk D k A) (R : HRel D γ H s.heap) (r : Rep D γ s.heap v W) (hd : toPyT H W = some d) (h1 : d.showable = true) (h2 : d.depth ≤ 60) (h3 : d.shown.length ≤ 16000000) (q : Q (.opq d.shown) H) :
    wpAny D.M A (call (.builtin "repr") [v]) (PostV D γ s Q) E s := by
  have ho : ∀ (h : Heap) (x : Str) (t : Tok), Rep D γ h (.str x t) (.opq x) := fun _ x t => Exists.intro t rfl
  have big : ∀ a, v = .ref a → wpAny D.M A (call (.builtin "repr") [v]) (PostV D γ s Q) E s := by
    rintro a rfl
    refine e1_2 (toPyT_reads R r hd) fun as rd c => ?_
    refine repr_of_reads' rd h1 (fun h => by rw [PyData.hasDict_of_canLay d c] at h; cases h) hA.guards (by have := hA.units; show _ < 9900; lia) (fun _ _ e => e) (fun h' u tk hk => ?_) (by rw [sizeLine_eq]; lia)
    exact PostV.grown R hk (ho _ _ u) q
  cases W with
  | none => obtain rfl := r; obtain rfl := Option.some.inj hd; exact P.repr_of_none (PostV.now R (ho _ _ _) q)
  | bool b => obtain rfl := r; obtain rfl := Option.some.inj hd; exact P.repr_of_bool (PostV.now R (ho _ _ _) q)
  | int i => obtain ⟨t, rfl⟩ := r; obtain rfl := Option.some.inj hd; exact P.repr_of_int (of_decide_eq_true h1) (PostV.now R (ho _ _ _) q)
  | str x => obtain ⟨t, rfl, f⟩ := r; obtain rfl := Option.some.inj hd; exact P.repr_of_str (PostV.now R (ho _ _ _) q) (by rw [sizeLine_eq]; show (PyData.shown (.str x)).length ≤ _; lia)
  | tup l => obtain ⟨a, vs, rfl, _⟩ := r; exact big a rfl
  | ref i => obtain ⟨a, _, rfl⟩ := r; exact big a rfl
  | _ => exact no_some hd
theorem len_any {v : Value} {W : V} {Q : V → Hp → Prop} (R : HRel D γ H s.heap) (a : Rep D γ s.heap v W) (h : pLen W H Q) : wpAny D.M A (call (.builtin "len") [v]) (PostV D γ s Q) E s := by
  cases W with
  | tup l => exact len_ok R a (.inl ⟨_, rfl, rfl⟩) h
  | ref i =>
    refine e1_2 (oK_elim h) fun l hl q => ?_
    exact len_ok R a (.inr ⟨_, l, rfl, hl, rfl⟩) q
  | scr ns =>
    obtain ⟨x, ws, rfl, e, hz, hlen, hI⟩ := a
    refine len_list (items := ws.toArray) (let ⟨o, h1, h2, n, h3⟩ := e; ⟨o, R.base _ _ h1, h2, n, h3⟩) (by show (ws.length : Int) < _; lia) (PostV.now R ?_ h)
    exact Exists.intro (s.toks + 1) (by simp [hlen])
  | str x => obtain ⟨t, rfl, f⟩ := a; exact lenStr_ok R f h
  | _ => exact h.elim
theorem ty_ok {b : Ty} {v : Value} {W : V} {Q : V → Hp → Prop} (R : HRel D γ H s.heap) (a : Rep D γ s.heap v W) (h : pTy1 b W H Q) : wpAny D.M A (call (.type b.name) [v]) (PostV D γ s Q) E s := by
  cases b with
  | int =>
    refine e1_2 (oK_elim (show oK (boolV W) _ from h)) fun b hb q => ?_
    rw [boolV_some hb] at a
    exact int_of_bool_ok R a q
  | tuple =>
    refine e1_2 (oK_elim (show oK (refV W) _ from h)) fun i hi h => ?_
    rw [refV_some hi] at a
    refine e1_2 (oK_elim h) fun l hl q => ?_
    exact tuple_of_list_ok R a hl q
  | list =>
    refine e1_2 (oK_elim (show oK (refV W) _ from h)) fun i hi h => ?_
    rw [refV_some hi] at a
    refine e1_2 (oK_elim h) fun l hl q => ?_
    exact list_of_ok R a hl q
  | _ => exact h.elim
theorem call_ok {Φ : Orc} {f : Value} {vals : List Value} {vs : List V} {Q : V → Hp → Prop} {X : XL} {W : V} (hA : AOk D k A) (R : HRel D γ H s.heap) (rf : Rep D γ s.heap f W) (rv : Reps D γ s.heap vals vs)
    (h : pCall Φ W vs H Q X) (hn : ∀ x, W ≠ .fn x) : wpAny D.M A (call f vals) (PostV D γ s Q) (PostX D γ s X) s := by
  cases W with
  | fn x => exact absurd rfl (hn _)
  | bi b =>
    obtain rfl := rf
    cases b with
    | len =>
      refine e1_2 (on1P_elim (show on1P vs _ from h)) fun W e_92 h => ?_
      obtain rfl := e_92
      refine e2_3 rv fun v r e_93 a e_94 => ?_
      obtain rfl := e_93
      obtain rfl := e_94
      exact len_any R a h
    | isinstance =>
      refine e2_2 (on2P_elim (show on2P vs _ from h)) fun W W' e_95 h => ?_
      obtain rfl := e_95
      obtain ⟨v, r, rfl, a, u, r', rfl, b, rfl⟩ := rv
      refine e1_2 (oK_elim h) fun t ht h => ?_
      rw [tyV_some ht] at b
      obtain rfl := b
      refine e1_2 (oK_elim h) fun c hc q => ?_
      exact isi_ok R a hc q
    | any =>
      refine e1_2 (on1P_elim (show on1P vs _ from h)) fun W e_99 h => ?_
      obtain rfl := e_99
      refine e2_3 rv fun v r e_100 a e_101 => ?_
      obtain rfl := e_100
      obtain rfl := e_101
      refine e1_2 (oK_elim h) fun i hi h => ?_
      rw [refV_some hi] at a
      refine e1_2 (oK_elim h) fun l hl h => ?_
      refine e1_2 (oK_elim h) fun bs hb q => ?_
      exact any_ok hA R a hl hb q
    | all =>
      refine e1_2 (on1P_elim (show on1P vs _ from h)) fun W e_102 h => ?_
      obtain rfl := e_102
      refine e2_3 rv fun v r e_103 a e_104 => ?_
      obtain rfl := e_103
      obtain rfl := e_104
      refine e1_2 (oK_elim h) fun i hi h => ?_
      rw [refV_some hi] at a
      refine e1_2 (oK_elim h) fun l hl h => ?_
      refine e1_2 (oK_elim h) fun bs hb q => ?_
      exact all_ok hA R a hl hb q
    | max =>
      have h : pMax vs H Q := h
      cases vs with
      | nil => exact h.elim
      | cons W r => cases r with
        | nil =>
          refine e2_3 rv fun v r e_105 a e_106 => ?_
          obtain rfl := e_105
          obtain rfl := e_106
          refine e1_2 (oK_elim (show oK (refV W) _ from h)) fun i hi h => ?_
          rw [refV_some hi] at a
          refine e1_2 (oK_elim h) fun l hl h => ?_
          refine e1_3 (oK_elim h) fun ns hn h0 q => ?_
          exact maxl_ok hA R a hl hn h0 q
        | cons W' r =>
          obtain ⟨rfl, h⟩ := on0P_elim (show on0P r _ from h)
          obtain ⟨v, r, rfl, a, u, r', rfl, b, rfl⟩ := rv
          refine e2_3 (pInt_elim h) fun i j e_110 e_111 h => ?_
          obtain rfl := e_110
          obtain rfl := e_111
          exact max_ok hA R a b h
    | repr =>
      refine e1_2 (on1P_elim (show on1P vs _ from h)) fun W e_112 h => ?_
      obtain rfl := e_112
      refine e2_3 rv fun v r e_113 a e_114 => ?_
      obtain rfl := e_113
      obtain rfl := e_114
      refine e1_3 (oK_elim h) fun d hd h1 q => ?_
      exact repr_ok hA R a hd h1.1 h1.2.1 h1.2.2 q
    | min =>
      refine e2_2 (on2P_elim (show on2P vs _ from h)) fun W W' e_115 h => ?_
      obtain rfl := e_115
      obtain ⟨v, r, rfl, a, u, r', rfl, b, rfl⟩ := rv
      refine e2_3 (pInt_elim h) fun i j e_119 e_120 h => ?_
      obtain rfl := e_119
      obtain rfl := e_120
      exact min_ok hA R a b h
  | ty b =>
    obtain rfl := rf
    refine e1_2 (on1P_elim (show on1P vs _ from h)) fun W e_121 h => ?_
    obtain rfl := e_121
    refine e2_3 rv fun v r e_122 a e_123 => ?_
    obtain rfl := e_122
    obtain rfl := e_123
    exact ty_ok R a h
  | _ => exact h.elim
theorem append_ok {i : Nat} {o v : Value} {l : List V} {Q : V → Hp → Prop} {W : V} (R : HRel D γ H s.heap) (ro : Rep D γ s.heap o (.ref i)) (r : Rep D γ s.heap v W) (hl : listAt H i = some l) (hz : l.length ≤ 1000000)
    (q : Q .none (H.set i (.list (l ++ [W])))) : wpAny D.M A (call (.builtin "list.append") [o, v]) (PostV D γ s Q) E s := by
  refine e1_2 ro fun a hi e_124 => ?_
  obtain rfl := e_124
  refine e2_3 (R.list hi hl) fun vs n e rs z => ?_
  have hlen := rs.length
  refine wpAny_list_append_plain (items := vs.toArray) ⟨n, e⟩ (fun h' hp hs => ?_) (by simp [sizeLine_eq]; lia)
  obtain ⟨m, hm⟩ := hp
  have em : vs.toArray.push v = (vs ++ [v]).toArray := by simp
  rw [em] at hm
  exact PostV.setList (tk := s.toks) R hi (rs.append (Reps.one r)) (by simp; lia) (fun b o' hb e' => hs.extBut b o' hb e') hm (show Rep _ _ _ _ .none from rfl) q
theorem clear_ok {pos : Pos} {i : Nat} {o : Value} {l : List V} {Q : V → Hp → Prop} (R : HRel D γ H s.heap) (ro : Rep D γ s.heap o (.ref i)) (hl : listAt H i = some l) (q : Q .none (H.set i (.list []))) : wpAny D.M A (callWith pos (.builtin "list.clear") [o] [] []) (PostV D γ s Q) E s := by
  refine e1_2 ro fun a hi e_125 => ?_
  obtain rfl := e_125
  refine e2_3 (R.list hi hl) fun vs n e rs z => ?_
  refine P.clear_list (items := vs.toArray) (n := n) e ?_ (by rw [sizeLine_eq]; show vs.length ≤ _; lia)
  exact PostV.setList (vs := []) (tk := s.toks) R hi (show Reps D γ s.heap [] [] from rfl) (Nat.zero_le _) (fun b o' hb e' => (Heap.SameBut.update ..).extBut b o' hb e') (IsL.update e fun _ => #[]) (show Rep _ _ _ _ .none from rfl) q
theorem reverse_ok {pos : Pos} {i : Nat} {o : Value} {l : List V} {Q : V → Hp → Prop} (R : HRel D γ H s.heap) (ro : Rep D γ s.heap o (.ref i)) (hl : listAt H i = some l) (q : Q .none (H.set i (.list l.reverse))) : wpAny D.M A (callWith pos (.builtin "list.reverse") [o] [] []) (PostV D γ s Q) E s := by
  refine e1_2 ro fun a hi e_126 => ?_
  obtain rfl := e_126
  refine e2_3 (R.list hi hl) fun vs n e rs z => ?_
  refine P.reverse_list (items := vs.toArray) (n := n) e ?_ (by rw [sizeLine_eq]; show vs.length ≤ _; lia)
  have e' := IsL.update e fun x => x.reverse
  have em : vs.toArray.reverse = vs.reverse.toArray := by simp
  simp only [em] at e'
  exact PostV.setList (vs := vs.reverse) (tk := s.toks) R hi rs.reverse (by rw [List.length_reverse, ← rs.length]; exact z) (fun b o' hb e' => (Heap.SameBut.update ..).extBut b o' hb e') e' (show Rep _ _ _ _ .none from rfl) q
theorem strs_are : ∀ {l : List V} {ys : List Str} {vs : List Value}, strsOf l = some ys → Reps D γ s.heap vs l → StrsAre vs ys
  | [], ys, vs, h, r => by obtain rfl := Option.some.inj h; obtain rfl := r; exact .nil
  | v :: l, ys, vs, h, r => by
    refine e2_3 r fun w ws e_127 a b => ?_
    obtain rfl := e_127
    refine e1_2 (Option.bind_eq_some_iff.mp (show (strV v).bind _ = some ys from h)) fun y hy h => ?_
    refine e1_2 (Option.map_eq_some_iff.mp h) fun zs hz e_128 => ?_
    obtain rfl := e_128
    rw [strV_some hy] at a
    refine e1_2 a fun u e_129 _ => ?_
    obtain rfl := e_129
    exact .cons y u (strs_are hz b)
theorem countIn_strs {y : Str} : ∀ {ys : List Str}, Spec.countIn (.str y) (ys.map PyData.str) = ((ys.count y : Nat) : Int)
  | [] => rfl
  | z :: r => by
    show (if Spec.same (.str z) (.str y) then 1 else 0) + Spec.countIn (.str y) (r.map PyData.str) = _
    rw [countIn_strs, List.count_cons]
    show (if (z == y) = true then (1 : Int) else 0) + _ = _
    cases z == y <;> simp <;> lia
theorem count_ok {i : Nat} {o v : Value} {l : List V} {ys : List Str} {y : Str} {Q : V → Hp → Prop} (R : HRel D γ H s.heap) (ro : Rep D γ s.heap o (.ref i)) (r : Rep D γ s.heap v (.str y)) (hl : listAt H i = some l) (hy : strsOf l = some ys)
    (q : Q (.int ((ys.count y : Nat) : Int)) H) : wpAny D.M A (call (.builtin "list.count") [o, v]) (PostV D γ s Q) E s := by
  refine e1_2 ro fun a hi e_130 => ?_
  obtain rfl := e_130
  refine e1_2 r fun t e_131 _ => ?_
  obtain rfl := e_131
  refine e2_3 (R.list hi hl) fun vs n e rs z => ?_
  exact count_list_strs ⟨_, e, rfl, n, rfl⟩ (strs_are hy rs) (PostV.now R rep_i (by rw [countIn_strs]; exact q))
end
end Mine
namespace Mine
open PySem PyProof.Rows
section
variable {D : Wd} {Φ : Orc} {k : Nat}
theorem mapO_cons {α β : Type} {f : α → Option β} {a : α} {r : List α} {l : List β} (h : mapO f (a :: r) = some l) : ∃ b bs, l = b :: bs ∧ f a = some b ∧ mapO f r = some bs := by
  refine e1_2 (Option.bind_eq_some_iff.mp (show (f a).bind _ = some l from h)) fun b h1 h => ?_
  refine e1_2 (Option.map_eq_some_iff.mp h) fun bs h2 h => ?_
  exact ⟨b, bs, h.symm, h1, h2⟩
theorem mapO_nil {α β : Type} {f : α → Option β} {l : List β} (h : mapO f ([] : List α) = some l) : l = [] := (Option.some.inj h).symm
theorem starEach_of {env : Env} {pos : Pos} : ∀ {args : List Expr}, args.any isStar = false → backTo pos (starEach args env) = args.map fun e => (false, eval e env)
  | [], _ => rfl
  | e :: r, h => by
    rw [List.any_cons, Bool.or_eq_false_iff] at h
    have ih := starEach_of (env := env) (pos := pos) h.2
    have e1 : starEach (e :: r) env = (false, eval e env) :: starEach r env := by
      cases e <;> first | rfl | exact Bool.noConfusion h.1
    rw [e1]
    show ((false, eval e env) :: backTo pos (starEach r env)) = _
    rw [ih]; rfl
theorem spliced_ok {c : CC} {n : Nat} (ih : ∀ e ie, compE n c e = some ie → SE D Φ k c e ie) {env : Env} {A : Around} {X : XL} (he : EnvOk c env) (hA : AOk D k A) {L : Lc} : ∀ (args : List Expr) (ies : List IE) (γ : List Addr) (H : Hp) (s : Shared) (Q : List V → Hp → Prop),
    mapO (compE n c) args = some ies → HRel D γ H s.heap → LRel D γ env c.slots s.heap L → wpEs Φ ies L H Q X →
    wpAny D.M A (spliced (args.map fun e => (false, eval e env))) (PostL D γ s Q) (PostX D γ s X) s
  | [], ies, γ, H, s, Q, hm, R, _, h => by
    rw [mapO_nil hm] at h
    exact Calls.spliced_nil ⟨γ, [], H, Stp.refl, R, (show Reps _ _ _ [] [] from rfl), h⟩
  | e :: r, ies, γ, H, s, Q, hm, R, l, h => by
    refine e2_3 (mapO_cons hm) fun b bs e_132 h1 h2 => ?_
    obtain rfl := e_132
    refine Calls.spliced_cons (andThen (ih e b h1 env A γ H s L _ X he hA R l h) ?_)
    intro v s1 γ1 V H1 st R1 rv q
    refine wpAny_mono (spliced_ok ih he hA r bs γ1 H1 s1 _ h2 R1 (l.stp R st) q) (fun vs s2 p => ?_) (fun _ _ x => x.back st R1)
    refine e3_4 p fun γ2 Vs H2 st2 R2 rvs q2 => ?_
    exact ⟨γ2, V :: Vs, H2, st.trans0 R1 st2, R2, Exists.intro v ⟨vs, rfl, rv.stp0 R1 st2, rvs⟩, q2⟩
theorem evalArgs_ok {c : CC} {n : Nat} (ih : ∀ e ie, compE n c e = some ie → SE D Φ k c e ie) {env : Env} {A : Around} {X : XL} (he : EnvOk c env) (hA : AOk D k A) {L : Lc} {args : List Expr} {ies : List IE} {γ : List Addr} {H : Hp} {s : Shared} {Q : List V → Hp → Prop} {f : Value}
    (hm : mapO (compE n c) args = some ies) (R : HRel D γ H s.heap) (l : LRel D γ env c.slots s.heap L) (h : wpEs Φ ies L H Q X) :
    wpAny D.M A (evalArgs f true (args.map fun e => (false, eval e env)) []) (fun a s' => a.kw = [] ∧ PostL D γ s Q a.pos s') (PostX D γ s X) s := by
  have hs := spliced_ok ih he hA args ies γ H s Q hm R l h
  cases args with
  | nil =>
    rw [mapO_nil hm] at h
    exact evalArgs_nil3 ⟨rfl, γ, [], H, Stp.refl, R, (show Reps _ _ _ [] [] from rfl), h⟩
  | cons e r => exact Calls.evalArgs_plain (wpAny_mono hs (fun vs s' p => ⟨rfl, p⟩) fun _ _ x => x)
theorem name_ok {c : CC} {env : Env} {A : Around} {γ : List Addr} {H : Hp} {s : Shared} {L : Lc} {Q : V → Hp → Prop} {X : XL} {x : Str} {pos : Pos} {ie : IE} (g : GOk D c.G c.mts) (he : EnvOk c env) (R : HRel D γ H s.heap) (l : LRel D γ env c.slots s.heap L)
    (hc : nameV c x = some ie) (h : (wp2 Φ ie).E L H Q X) : wpAny D.M A (eval (.Name x pos) env) (PostV D γ s Q) (PostX D γ s X) s := by
  refine e1_2 (Option.bind_eq_some_iff.mp hc) fun kk hk hc => ?_
  obtain ⟨hd, hk⟩ := onlyIf_some hk
  have hd' : (x == ("__debug__" : Str)) = false := bnot hd
  have hkf : env.scope.kind = .function := by rw [he.scope]; exact he.kind
  have hk' : env.kindOf x = some kk := by unfold Env.kindOf; rw [he.scope]; exact hk
  cases kk with
  | globalImplicit =>
    refine e1_2 (Option.map_eq_some_iff.mp hc) fun V hV e_133 => ?_
    obtain rfl := e_133
    refine e1_2 (g.val x V hV) fun v hv rv => ?_
    refine Calls.Name_function_global hkf hk' ?_ hd'
    have rr : Rep D γ s.heap v V := Rep.mono ⟨[], by simp⟩ (fun _ _ => tupAt_grow R.base) (rv γ)
    rcases hv with hv | ⟨hv1, hv2⟩
    · exact Calls.loadGlobal_global (by rw [he.globals]; exact g.gns.keeps R.base) hv (PostV.here R rr h)
    · exact Calls.loadGlobal_builtin (by rw [he.globals]; exact g.gns.keeps R.base) hv1 (by rw [he.builtins]; exact g.bns.keeps R.base) hv2 (PostV.here R rr h)
  | «local» =>
    refine e1_2 (Option.map_eq_some_iff.mp hc) fun i hi e_134 => ?_
    obtain rfl := e_134
    refine e1_2 (oKK_elim h) fun V hL q => ?_
    refine e1_2 (l.ns) fun m hn f => ?_
    refine e1_2 (f x i V hk' hi hL) fun v hv rv => ?_
    exact wpAny_Name (wpAny_loadName_local hkf hk' hn hv (PostV.here R rv q)) hd'
  | cell =>
    refine e1_2 (Option.map_eq_some_iff.mp hc) fun i hi e_135 => ?_
    obtain rfl := e_135
    refine e1_2 (oKK_elim h) fun V hL q => ?_
    refine e2_4 (l.cel x hk') fun ca u hca hcell _ f => ?_
    refine e1_2 (f i V hi hL) fun v e_136 rv => ?_
    obtain rfl := e_136
    exact wpAny_Name (wpAny_loadName_cell hkf hk' hca hcell (PostV.here R rv q)) hd'
  | _ => exact no_some hc
theorem nameV_T {c : CC} {x : Str} {ie : IE} (hc : nameV c x = some ie) : (wp2 Φ ie).T = fun L H Q X => (wp2 Φ ie).E L H (fun v H1 => tX v fun c => Q c H1) X := by
  refine e1_2 (Option.bind_eq_some_iff.mp hc) fun kk _ hc => ?_
  cases kk with
  | globalImplicit => obtain ⟨_, _, rfl⟩ := Option.map_eq_some_iff.mp hc; rfl
  | «local» => obtain ⟨_, _, rfl⟩ := Option.map_eq_some_iff.mp hc; rfl
  | cell => obtain ⟨_, _, rfl⟩ := Option.map_eq_some_iff.mp hc; rfl
  | _ => exact no_some hc
theorem globV_lit {c : CC} {x : Str} {V : V} (h : globV c x = some V) : nameV c x = some (.lit V) := by
  refine e1_2 (Option.bind_eq_some_iff.mp h) fun kk hk h => ?_
  unfold nameV
  rw [hk]
  cases kk with
  | globalImplicit => exact Option.map_eq_some_iff.mpr ⟨V, h, rfl⟩
  | _ => exact no_some h
theorem const_ok {env : Env} {A : Around} {γ : List Addr} {H : Hp} {s : Shared} {Q : V → Hp → Prop} {X : XL} {kk : Const} {n : Nat} {pos : Pos} {W : V} (R : HRel D γ H s.heap) (hc : constV kk = some W) (q : Q W H) :
    wpAny D.M A (eval (.Constant kk n pos) env) (PostV D γ s Q) (PostX D γ s X) s := by
  cases kk with
  | none => obtain rfl := Option.some.inj hc; exact Constant_none (PostV.here R (show Rep _ _ _ _ .none from rfl) q)
  | bool b => obtain rfl := Option.some.inj hc; exact Constant_bool (PostV.here R rep_b q)
  | int i => obtain rfl := Option.some.inj hc; exact wpAny_Constant_int (PostV.now R rep_i q)
  | str x =>
    have hc : (if x.length ≤ 2000000 ∧ PyData.strOk x = true then some (V.str x) else none) = some W := hc
    by_cases hf : x.length ≤ 2000000 ∧ PyData.strOk x = true
    · rw [if_pos hf] at hc
      obtain rfl := Option.some.inj hc; exact Calls.Constant_str (PostV.now R (rep_s hf) q)
    · rw [if_neg hf] at hc; exact no_some hc
  | _ => exact no_some hc
theorem orc_call {D : Wd} {A : Around} {γ : List Addr} {H : Hp} {s : Shared} {Q : V → Hp → Prop} {X : XL} {pos : Pos} {f : Value} {W : V} {trees : List (Bool × Sem Value)} {QL : List V → Hp → Prop} (hO : OrcOk D k Φ) (hA : AOk D k A)
    (R : HRel D γ H s.heap) (rf : Rep D γ s.heap f W) (hp : trees.any (·.1) = false)
    (ha : wpAny D.M A (evalArgs f true trees []) (fun a s' => a.kw = [] ∧ PostL D γ s QL a.pos s') (PostX D γ s X) s)
    (hq : ∀ vs H1, QL vs H1 → pCall Φ W vs H1 Q X) : wpAny D.M A (callWith pos f [] trees []) (PostV D γ s Q) (PostX D γ s X) s := by
  have nonfn : (∀ x, W ≠ .fn x) → ∀ (a : Args) (s1 : Shared), (a.kw = [] ∧ PostL D γ s QL a.pos s1) → wpAny D.M A (call f ([] ++ a.pos) a.kw) (PostV D γ s Q) (PostX D γ s X) s1 := by
    rintro hn ⟨ps, kw⟩ s1 ⟨hk, γ1, Vs, H1, st, R1, rv, q⟩
    simp only at hk; subst hk
    exact backV st R1 (call_ok hA R1 (rf.stp0 R st) rv (hq _ _ q) hn)
  have noway : (∀ vs H1, pCall Φ W vs H1 Q X → False) → wpAny D.M A (callWith pos f [] trees []) (PostV D γ s Q) (PostX D γ s X) s := fun hn => by
    unfold callWith
    refine wpAny_bind (wpAny_holding (wpAny_mono ha (fun b s1 hb => ?_) fun _ _ x => x))
    obtain ⟨_, γ1, Vs, H1, _, _, _, q⟩ := hb
    exact (hn _ _ (hq _ _ q)).elim
  cases W with
  | fn x =>
    refine e1_2 rf fun a e_137 hx => ?_
    obtain rfl := e_137
    have hfun : ∀ (b : Args) (s1 : Shared), (b.kw = [] ∧ PostL D γ s QL b.pos s1) → (∃ o fd, s1.heap.get? a = some o ∧ o.data = .func fd) ∧ wpAny D.M A (call (.ref a) ([] ++ b.pos) b.kw) (PostV D γ s Q) (PostX D γ s X) s1 := by
      rintro ⟨ps, kw⟩ s1 ⟨hk, γ1, Vs, H1, st, R1, rv, q⟩
      simp only at hk; subst hk
      obtain ⟨⟨o, fd, e1, e2⟩, hc⟩ := hO D.fr x Vs H1 Q X (hq _ _ q) A γ1 s1 ps a hA.c R1 rv hx
      exact ⟨⟨o, fd, R1.base _ _ e1, e2⟩, backV st R1 hc⟩
    unfold callWith
    refine wpAny_bind (wpAny_holding (wpAny_mono ha (fun b s1 hb => wpAny_bind (wpAny_standAt ?_)) fun _ _ x => x))
    obtain ⟨⟨o, fd, e1, e2⟩, hc⟩ := hfun b s1 hb
    have tail : ∀ {t : Sem Value}, wpAny D.M A t (PostV D γ s Q) (PostX D γ s X) s1 → wpAny D.M A (t >>= fun r => holding [r] point >>= fun _ => pure r) (PostV D γ s Q) (PostX D γ s X) s1 :=
      fun ht => wpAny_bind (wpAny_mono ht (fun r s₂ hr => wpAny_bind (wpAny_holding (wpAny_point (wpAny_pure hr)))) fun _ _ x => x)
    simp only [hp, List.any_nil, Bool.or_false]
    refine wpAny_bind (m := keeperOf (.ref a)) ?_
    unfold keeperOf
    refine wpAny_bind (wpAny_load e1 ?_)
    rw [e2]
    refine wpAny_pure ?_
    refine wpAny_ite ?_
    split
    · exact tail hc
    · exact tail (by unfold callMarked; exact Calls.wpAny_keep hc)
  | ty n =>
    obtain rfl := rf
    exact PyProof.Rows.callWith_type hp (wpAny_mono ha (nonfn (by intro x h; cases h)) fun _ _ x => x)
  | bi n =>
    obtain rfl := rf
    exact Calls.callWith_builtin hp (wpAny_mono ha (nonfn (by intro x h; cases h)) fun _ _ x => x)
  | _ => exact noway fun _ _ q => q
theorem noSlice {i : Expr} {n : Nat} {c : CC} {ie : IE} (h : compE n c i = some ie) : ∀ lo hi st p, i ≠ .Slice lo hi st p := by
  rintro lo hi st p rfl
  cases n <;> exact no_some h
theorem noMarks {r : Expr} {n : Nat} {c : CC} {ie : IE} {op : CmpOp} (h : compE n c r = some ie) : behindInMarks op r = false := by
  cases r <;> first | rfl | (cases n <;> exact no_some h)
theorem ifP_true {A B : Prop} (h : ifP true A B) : A := h
theorem ifP_false {A B : Prop} (h : ifP false A B) : B := h
theorem st_plain {P : Around → Prop} {c : CC} {e : Expr} {ie : IE} (h : SEP P D Φ c e ie) (hT : (wp2 Φ ie).T = fun L H Q X => (wp2 Φ ie).E L H (fun v H1 => tX v fun c => Q c H1) X)
    (he : ∀ env whole, isTrue e env whole = (do let v ← whole; standAt e.pos; holding [v] (truthy v))) : STP P D Φ c e ie := by
  intro env A γ H s L Q X hE hA R l w
  rw [hT] at w
  refine isTrue_plain (andThen (h env A γ H s L _ X hE hA R l w) ?_) (he _ _)
  intro v s1 γ1 V H1 st R1 rv q
  refine e1_2 (tX_elim q) fun b e_138 q => ?_
  obtain rfl := e_138
  exact backB st R1 (truth_ok R1 rv q)
end
end Mine
namespace Mine
open PySem PyProof.Rows
noncomputable def BothP (P : Around → Prop) (D : Wd) (Φ : Orc) (c : CC) (e : Expr) (ie : IE) : Prop := SEP P D Φ c e ie ∧ STP P D Φ c e ie
noncomputable abbrev Both (D : Wd) (Φ : Orc) (k : Nat) (c : CC) (e : Expr) (ie : IE) : Prop := BothP (AOk D k) D Φ c e ie
section
variable {D : Wd} {Φ : Orc} {k : Nat} {c : CC} {P : Around → Prop}
theorem both_plain {e : Expr} {ie : IE} (h : SEP P D Φ c e ie) (hT : (wp2 Φ ie).T = fun L H Q X => (wp2 Φ ie).E L H (fun v H1 => tX v fun c => Q c H1) X)
    (he : ∀ env whole, isTrue e env whole = (do let v ← whole; standAt e.pos; holding [v] (truthy v))) : BothP P D Φ c e ie := ⟨h, st_plain h hT he⟩
theorem e_name (g : GOk D c.G c.mts) {x : Str} {pos : Pos} {ie : IE} (hc : nameV c x = some ie) : BothP P D Φ c (.Name x pos) ie := by
  exact both_plain (fun env A γ H s L Q X hE hA R l w => name_ok g hE R l hc w) (nameV_T hc) (fun _ _ => rfl)
theorem e_const {kk : Const} {n : Nat} {pos : Pos} {W : V} (hc : constV kk = some W) : BothP P D Φ c (.Constant kk n pos) (.lit W) :=
  both_plain (fun _ _ _ _ _ _ _ _ _ _ R _ w => const_ok R hc w) rfl (fun _ _ => rfl)
theorem e_bin {l r : Expr} {op : Operator} {pos : Pos} {a b : IE} (ha : SE D Φ k c l a) (hb : SE D Φ k c r b) : Both D Φ k c (.BinOp l op r pos) (.bin op a b) := by
  refine both_plain (fun env A γ H s L Q X hE hA R lr w => ?_) rfl (fun _ _ => rfl)
  refine wpAny_BinOp (andThen (ha env A γ H s L _ X hE hA R lr w) ?_)
  intro va s1 γ1 Va H1 st R1 ra q
  refine thenV st R1 (hb env A γ1 H1 s1 L _ X hE hA R1 (lr.stp R st) q) ?_
  intro vb s2 γ2 Vb H2 st2 R2 rb q2
  exact backV (st.trans0 R1 st2) R2 (bin_ok R2 (ra.stp0 R1 st2) rb q2)
theorem e_neg {x : Expr} {pos : Pos} {a : IE} (ha : SE D Φ k c x a) : Both D Φ k c (.UnaryOp .USub x pos) (.neg a) := by
  refine both_plain (fun env A γ H s L Q X hE hA R lr w => ?_) rfl (fun _ _ => rfl)
  refine UnaryOp_ (andThen (ha env A γ H s L _ X hE hA R lr w) ?_)
  intro va s1 γ1 Va H1 st R1 ra q
  refine e1_2 (oK_elim q) fun i hi q => ?_
  rw [intV_some hi] at ra
  exact backV st R1 (neg_ok R1 ra q)
theorem e_not {x : Expr} {pos : Pos} {a : IE} (ha : BothP P D Φ c x a) : BothP P D Φ c (.UnaryOp .Not x pos) (.not a) := by
  refine ⟨fun env A γ H s L Q X hE hA R lr w => ?_, fun env A γ H s L Q X hE hA R lr w => ?_⟩
  · refine UnaryOp_ (andThen (ha.1 env A γ H s L _ X hE hA R lr w) ?_)
    intro va s1 γ1 Va H1 st R1 ra q
    refine e1_2 (tX_elim q) fun b e_139 q => ?_
    obtain rfl := e_139
    obtain rfl := ra
    exact not_of (wpAny_truthy_bool ⟨γ1, _, H1, st, R1, rep_b, q⟩)
  · refine isTrue_not (wpAny_mono (ha.2 env A γ H s L _ X hE hA R lr w) (fun d s2 p => ?_) fun _ _ x => x)
    refine e2_3 p fun γ2 H2 st2 R2 q2 => ?_
    exact ⟨γ2, H2, st2, R2, q2⟩
theorem e_cmp {l r : Expr} {op : CmpOp} {pos : Pos} {a b : IE} (ha : SE D Φ k c l a) (hb : SE D Φ k c r b) (hm : behindInMarks op r = false) : Both D Φ k c (.Compare l [op] [r] pos) (.cmp a op b) := by
  have key : ∀ env A γ H s L Q X, EnvOk c env → AOk D k A → HRel D γ H s.heap → LRel D γ env c.slots s.heap L → (wp2 Φ (.cmp a op b)).E L H Q X →
      wpAny D.M A (eval l env) (fun va s₁ => wpAny D.M A (eval r env) (fun vb s₂ => wpAny D.M A (compareOp op va vb) (PostV D γ s Q) (PostX D γ s X) s₂) (PostX D γ s X) s₁) (PostX D γ s X) s := by
    intro env A γ H s L Q X hE hA R lr w
    refine andThen (ha env A γ H s L _ X hE hA R lr w) ?_
    intro va s1 γ1 Va H1 st R1 ra q
    refine thenV st R1 (hb env A γ1 H1 s1 L _ X hE hA R1 (lr.stp R st) q) ?_
    intro vb s2 γ2 Vb H2 st2 R2 rb q2
    exact backV (st.trans0 R1 st2) R2 (cmp_ok hA R2 (ra.stp0 R1 st2) rb q2)
  refine ⟨fun env A γ H s L Q X hE hA R lr w => wpAny_Compare1 (key env A γ H s L Q X hE hA R lr w) hm, fun env A γ H s L Q X hE hA R lr w => wpAny_isTrue_Compare1 ?_ hm⟩
  refine wpAny_mono (key env A γ H s L _ X hE hA R lr w) (fun va s1 p => wpAny_mono p (fun vb s2 p2 => wpAny_mono p2 (fun v s3 p3 => ?_) fun _ _ x => x) fun _ _ x => x) fun _ _ x => x
  refine e3_4 p3 fun γ3 V H3 st3 R3 rv q => ?_
  refine e1_2 (tX_elim q) fun d e_140 q => ?_
  obtain rfl := e_140
  exact backB st3 R3 (truth_ok R3 rv q)
theorem cmp2_head {l r : Expr} {op op' : CmpOp} {a b d : IE} (ha : SE D Φ k c l a) (hb : SE D Φ k c r b) {env : Env} {A : Around} {γ : List Addr} {H : Hp} {s : Shared} {L : Lc} {Q : V → Hp → Prop} {X : XL}
    (hE : EnvOk c env) (hA : AOk D k A) (R : HRel D γ H s.heap) (lr : LRel D γ env c.slots s.heap L) (w : (wp2 Φ (.cmp2 a op b op' d)).E L H Q X) :
    wpAny D.M A (eval l env) (fun va s₁ => wpAny D.M A (eval r env) (fun vb s₂ => wpAny D.M A (compareOp op va vb) (fun cv s₃ => wpAny D.M A (truthy cv) (fun t s₄ =>
      ∃ γ4 Vb H4, Stp [] γ γ4 s s₄ ∧ HRel D γ4 H4 s₄.heap ∧ LRel D γ4 env c.slots s₄.heap L ∧ Rep D γ4 s₄.heap vb Vb ∧ cv = .bool t ∧ ifP t ((wp2 Φ d).E L H4 (fun vc H4 => pCmp op' Vb vc H4 Q) X) (Q (.bool t) H4))
        (PostX D γ s X) s₃) (PostX D γ s X) s₂) (PostX D γ s X) s₁) (PostX D γ s X) s := by
  refine andThen (ha env A γ H s L _ X hE hA R lr w) ?_
  intro va s1 γ1 Va H1 st R1 ra q
  refine thenV st R1 (hb env A γ1 H1 s1 L _ X hE hA R1 (lr.stp R st) q) ?_
  intro vb s2 γ2 Vb H2 st2 R2 rb q2
  have st02 := st.trans0 R1 st2
  refine thenV st02 R2 (cmp_ok (Q := _) (E := PostX D γ2 s2 X) hA R2 (ra.stp0 R1 st2) rb q2) ?_
  intro cv s3 γ3 Vc H3 st3 R3 rc q3
  refine e1_2 (tX_elim q3) fun t e_141 q3 => ?_
  obtain rfl := e_141
  obtain rfl := rc
  have st03 := st02.trans0 R2 st3
  exact wpAny_truthy_bool ⟨γ3, Vb, H3, st03, R3, lr.stp R st03, rb.stp0 R2 st3, rfl, q3⟩
theorem e_cmp2 {l r r' : Expr} {op op' : CmpOp} {pos : Pos} {a b d : IE} (ha : SE D Φ k c l a) (hb : SE D Φ k c r b) (hd : SE D Φ k c r' d) (hm : behindInMarks op' r' = false) :
    Both D Φ k c (.Compare l [op, op'] [r, r'] pos) (.cmp2 a op b op' d) := by
  have hm' : lastMarks [op, op'] [r, r'] = false := hm
  refine ⟨fun env A γ H s L Q X hE hA R lr w => ?_, fun env A γ H s L Q X hE hA R lr w => ?_⟩
  · refine Compare_chain (wpAny_mono (cmp2_head ha hb hE hA R lr w) (fun va s1 h1 => ?_) fun _ _ x => x) hm'
    refine chain_link (wpAny_mono h1 (fun vb s2 h2 => wpAny_mono h2 (fun cv s3 h3 => wpAny_mono h3 (fun t s4 h4 => ?_) fun _ _ x => x) fun _ _ x => x) fun _ _ x => x)
    obtain ⟨γ4, Vb, H4, st, R4, l4, rb, rfl, q⟩ := h4
    cases t with
    | true =>
      refine chain_last (thenV st R4 (hd env A γ4 _ s4 L _ X hE hA R4 l4 q) ?_)
      intro vd s5 γ5 Vd H5 st5 R5 rd q5
      exact backV (st.trans0 R4 st5) R5 (cmp_ok hA R5 (rb.stp0 R4 st5) rd q5)
    | false => exact ⟨γ4, _, H4, st, R4, rep_b, q⟩
  · refine isTrue_chain (wpAny_mono (cmp2_head ha hb hE hA R lr w) (fun va s1 h1 => ?_) fun _ _ x => x) hm'
    refine test_link (wpAny_mono h1 (fun vb s2 h2 => wpAny_mono h2 (fun cv s3 h3 => wpAny_mono h3 (fun t s4 h4 => ?_) fun _ _ x => x) fun _ _ x => x) fun _ _ x => x)
    obtain ⟨γ4, Vb, H4, st, R4, l4, rb, rfl, q⟩ := h4
    cases t with
    | true =>
      refine test_last (thenV st R4 (hd env A γ4 _ s4 L _ X hE hA R4 l4 q) ?_)
      intro vd s5 γ5 Vd H5 st5 R5 rd q5
      refine thenV (st.trans0 R4 st5) R5 (cmp_ok (Q := _) (E := PostX D γ5 s5 X) hA R5 (rb.stp0 R4 st5) rd q5) ?_
      intro v s6 γ6 V6 H6 st6 R6 r6 q6
      refine e1_2 (tX_elim q6) fun t6 e_144 q6 => ?_
      obtain rfl := e_144
      exact backB ((st.trans0 R4 st5).trans0 R5 st6) R6 (truth_ok R6 r6 q6)
    | false => exact ⟨γ4, H4, st, R4, q⟩
theorem e_ite {t a b : Expr} {pos : Pos} {it ia ib : IE} (ht : Both D Φ k c t it) (ha : Both D Φ k c a ia) (hb : Both D Φ k c b ib) : Both D Φ k c (.IfExp t a b pos) (.ite it ia ib) := by
  refine ⟨fun env A γ H s L Q X hE hA R lr w => ?_, fun env A γ H s L Q X hE hA R lr w => ?_⟩
  · refine IfExp_ (andThenB (ht.2 env A γ H s L _ X hE hA R lr w) ?_)
    intro v s1 γ1 H1 st R1 q
    cases v with
    | true => exact backV st R1 (ha.1 env A γ1 H1 s1 L Q X hE hA R1 (lr.stp R st) q)
    | false => exact backV st R1 (hb.1 env A γ1 H1 s1 L Q X hE hA R1 (lr.stp R st) q)
  · refine isTrue_IfExp (andThenB (ht.2 env A γ H s L _ X hE hA R lr w) ?_)
    intro v s1 γ1 H1 st R1 q
    cases v with
    | true => exact backB st R1 (ha.2 env A γ1 H1 s1 L Q X hE hA R1 (lr.stp R st) q)
    | false => exact backB st R1 (hb.2 env A γ1 H1 s1 L Q X hE hA R1 (lr.stp R st) q)
theorem e_and {f : Expr → Option IE} : ∀ {vs : List Expr} {ies : List IE} {pos : Pos} {ie : IE}, (∀ e ie, f e = some ie → BothP P D Φ c e ie) → mapO f vs = some ies → boolGo .and ies = some ie → BothP P D Φ c (.BoolOp .And vs pos) ie
  | [], ies, pos, ie, ih, hm, hb => by rw [mapO_nil hm] at hb; exact no_some hb
  | [e], ies, pos, ie, ih, hm, hb => by
    refine e2_3 (mapO_cons hm) fun b bs e_145 h1 h2 => ?_
    obtain rfl := e_145
    rw [mapO_nil h2] at hb
    obtain rfl := Option.some.inj hb
    have := ih e _ h1
    refine ⟨fun env A γ H s L Q X hE hA R lr w => BoolOp_one (this.1 env A γ H s L Q X hE hA R lr w), fun env A γ H s L Q X hE hA R lr w => ?_⟩
    refine isTrue_and (wpAny_mono (this.2 env A γ H s L Q X hE hA R lr w) (fun t s1 p => ?_) fun _ _ x => x)
    cases t with
    | true => exact isTrue_and_nil p
    | false => exact p
  | e :: e2 :: r, ies, pos, ie, ih, hm, hb => by
    refine e2_3 (mapO_cons hm) fun b bs e_146 h1 h2 => ?_
    obtain rfl := e_146
    refine e2_3 (mapO_cons h2) fun b2 bs2 e_147 h3 h4 => ?_
    obtain rfl := e_147
    refine e1_2 (Option.map_eq_some_iff.mp hb) fun i2 hi2 e_148 => ?_
    obtain rfl := e_148
    have rest := e_and (vs := e2 :: r) (pos := pos) ih h2 hi2
    have one := ih e b h1
    refine ⟨fun env A γ H s L Q X hE hA R lr w => ?_, fun env A γ H s L Q X hE hA R lr w => ?_⟩
    · refine BoolOp_and (andThen (one.1 env A γ H s L _ X hE hA R lr w) ?_)
      intro va s1 γ1 Va H1 st R1 ra q
      refine e1_2 (tX_elim q) fun t e_149 q => ?_
      obtain rfl := e_149
      obtain rfl := ra
      refine wpAny_truthy_bool ?_
      cases t with
      | true => exact backV st R1 (rest.1 env A γ1 H1 s1 L Q X hE hA R1 (lr.stp R st) q)
      | false => exact ⟨γ1, _, H1, st, R1, rep_b, q⟩
    · refine isTrue_and (andThenB (one.2 env A γ H s L _ X hE hA R lr w) ?_)
      intro v s1 γ1 H1 st R1 q
      cases v with
      | true => exact backB st R1 (rest.2 env A γ1 H1 s1 L Q X hE hA R1 (lr.stp R st) q)
      | false => exact ⟨γ1, H1, st, R1, q⟩
theorem e_or {f : Expr → Option IE} : ∀ {vs : List Expr} {ies : List IE} {pos : Pos} {ie : IE}, (∀ e ie, f e = some ie → BothP P D Φ c e ie) → mapO f vs = some ies → boolGo .or ies = some ie → BothP P D Φ c (.BoolOp .Or vs pos) ie
  | [], ies, pos, ie, ih, hm, hb => by rw [mapO_nil hm] at hb; exact no_some hb
  | [e], ies, pos, ie, ih, hm, hb => by
    refine e2_3 (mapO_cons hm) fun b bs e_150 h1 h2 => ?_
    obtain rfl := e_150
    rw [mapO_nil h2] at hb
    obtain rfl := Option.some.inj hb
    have := ih e _ h1
    refine ⟨fun env A γ H s L Q X hE hA R lr w => BoolOp_one (this.1 env A γ H s L Q X hE hA R lr w), fun env A γ H s L Q X hE hA R lr w => ?_⟩
    refine isTrue_or (wpAny_mono (this.2 env A γ H s L Q X hE hA R lr w) (fun t s1 p => ?_) fun _ _ x => x)
    cases t with
    | true => exact p
    | false => exact isTrue_or_nil p
  | e :: e2 :: r, ies, pos, ie, ih, hm, hb => by
    refine e2_3 (mapO_cons hm) fun b bs e_151 h1 h2 => ?_
    obtain rfl := e_151
    refine e2_3 (mapO_cons h2) fun b2 bs2 e_152 h3 h4 => ?_
    obtain rfl := e_152
    refine e1_2 (Option.map_eq_some_iff.mp hb) fun i2 hi2 e_153 => ?_
    obtain rfl := e_153
    have rest := e_or (vs := e2 :: r) (pos := pos) ih h2 hi2
    have one := ih e b h1
    refine ⟨fun env A γ H s L Q X hE hA R lr w => ?_, fun env A γ H s L Q X hE hA R lr w => ?_⟩
    · refine BoolOp_or (andThen (one.1 env A γ H s L _ X hE hA R lr w) ?_)
      intro va s1 γ1 Va H1 st R1 ra q
      refine e1_2 (tX_elim q) fun t e_154 q => ?_
      obtain rfl := e_154
      obtain rfl := ra
      refine wpAny_truthy_bool ?_
      cases t with
      | false => exact backV st R1 (rest.1 env A γ1 H1 s1 L Q X hE hA R1 (lr.stp R st) q)
      | true => exact ⟨γ1, _, H1, st, R1, rep_b, q⟩
    · refine isTrue_or (andThenB (one.2 env A γ H s L _ X hE hA R lr w) ?_)
      intro v s1 γ1 H1 st R1 q
      cases v with
      | false => exact backB st R1 (rest.2 env A γ1 H1 s1 L Q X hE hA R1 (lr.stp R st) q)
      | true => exact ⟨γ1, H1, st, R1, q⟩
theorem e_tup {es : List Expr} {kk : Nat} {pos : Pos} {ies : List IE} {n : Nat} (ih : ∀ e ie, compE n c e = some ie → SE D Φ k c e ie) (hs : es.any isStar = false) (hm : mapO (compE n c) es = some ies) :
    Both D Φ k c (.Tuple es kk pos) (.tup ies) := by
  refine both_plain (fun env A γ H s L Q X hE hA R lr w => ?_) rfl (fun _ _ => rfl)
  refine wpAny_Tuple (wpAny_mono (by rw [starEach_of hs]; exact spliced_ok ih hE hA es ies γ H s _ hm R lr w) (fun vs s1 p => ?_) fun _ _ x => x)
  obtain ⟨γ1, Vs, H1, st, R1, rv, hz, q⟩ := p
  have hl := rv.length
  exact ⟨by rw [sizeLine_eq]; lia, (PostV.newTuple R1 rv (by lia) q).back st R1⟩
theorem e_lst {es : List Expr} {pos : Pos} {ies : List IE} {n : Nat} (ih : ∀ e ie, compE n c e = some ie → SE D Φ k c e ie) (hs : es.any isStar = false) (hm : mapO (compE n c) es = some ies) :
    Both D Φ k c (.List es pos) (.lst ies) := by
  refine both_plain (fun env A γ H s L Q X hE hA R lr w => ?_) rfl (fun _ _ => rfl)
  refine wpAny_List (wpAny_mono (by rw [starEach_of hs]; exact spliced_ok ih hE hA es ies γ H s _ hm R lr w) (fun vs s1 p => ?_) fun _ _ x => x)
  obtain ⟨γ1, Vs, H1, st, R1, rv, hz, q⟩ := p
  have hl := rv.length
  exact ⟨by rw [sizeLine_eq]; lia, (PostV.newList R1 rv (by lia) q).back st R1⟩
theorem e_sub {o i : Expr} {pos : Pos} {a b : IE} (ha : SE D Φ k c o a) (hb : SE D Φ k c i b) (hs : ∀ lo hi st p, i ≠ .Slice lo hi st p) : Both D Φ k c (.Subscript o i pos) (.sub a b) := by
  refine both_plain (fun env A γ H s L Q X hE hA R lr w => ?_) rfl (fun _ _ => rfl)
  refine Subscript_ (andThen (ha env A γ H s L _ X hE hA R lr w) ?_)
  intro va s1 γ1 Va H1 st R1 ra q
  refine thenV st R1 (hb env A γ1 H1 s1 L _ X hE hA R1 (lr.stp R st) q) ?_
  intro vb s2 γ2 Vb H2 st2 R2 rb q2
  exact backV (st.trans0 R1 st2) R2 (sub_ok R2 (ra.stp0 R1 st2) rb q2 hs)
theorem e_call {f : Str} {fp pos : Pos} {args : List Expr} {W : V} {ies : List IE} {n : Nat} (g : GOk D c.G c.mts) (hO : OrcOk D k Φ) (ih : ∀ e ie, compE n c e = some ie → SE D Φ k c e ie) (hs : args.any isStar = false) (hf : globV c f = some W)
    (hm : mapO (compE n c) args = some ies) : Both D Φ k c (.Call (.Name f fp) args [] pos) (.call W ies) := by
  refine both_plain (fun env A γ H s L Q X hE hA R lr w => ?_) rfl (fun _ _ => rfl)
  refine wpAny_Call_ofName (andThen (name_ok (Φ := Φ) (Q := fun V H' => V = W ∧ H' = H) g hE R lr (globV_lit hf) ⟨rfl, rfl⟩) ?_)
  intro vf s1 γ1 Vf H1 st R1 rf q
  obtain ⟨rfl, rfl⟩ := q
  refine backV st R1 ?_
  rw [starEach_of hs]
  refine orc_call (QL := fun vs H' => pCall Φ Vf vs H' Q X) hO hA R1 rf (by simp) (evalArgs_ok ih hE hA hm R1 (lr.stp R st) w) (fun _ _ q => q)
theorem attrBase {o : Expr} {name : Str} {env : Env} (hb : plainBase o = true) : attributeBase o name env (eval o env) = eval o env := by cases o <;> first | rfl | exact Bool.noConfusion hb
theorem e_meth {o a : Expr} {m : Mt} {apos pos : Pos} {io ia : IE} (ho : SE D Φ k c o io) (ha : SE D Φ k c a ia) (hb : plainBase o = true) (hl : apos.endLine = pos.line) (hs : isStar a = false) (h1 : m.one = true) :
    Both D Φ k c (.Call (.Attribute o m.name apos) [a] [] pos) (.meth io m [ia]) := by
  refine both_plain (fun env A γ H s L Q X hE hA R lr w => ?_) rfl (fun _ _ => rfl)
  have e1 : backTo pos (starEach [a] env) = [(false, eval a env)] := by
    rw [starEach_of (by rw [List.any_cons, hs]; rfl)]; rfl
  have run : ∀ (id : String), (∀ {va : Value} {s2 : Shared} {γ2 : List Addr} {H2 : Hp} {Va : V} {x : Value} {i : Nat}, HRel D γ2 H2 s2.heap → Rep D γ2 s2.heap x (.ref i) → Rep D γ2 s2.heap va Va → pMeth (.ref i) m [Va] H2 Q → wpAny D.M A (call (.builtin id) [x, va]) (PostV D γ2 s2 Q) (PostX D γ2 s2 X) s2) →
      wpAny D.M A (eval o env) (fun v s₁ => s₁.TypeIs v "list" ∧ (∀ b, v = .ref b → ∃ ob, s₁.heap.get? b = some ob ∧ ob.dict = none) ∧ wpAny D.M A (callWith pos (.builtin id) [v] [(false, eval a env)] []) (PostV D γ s Q) (PostX D γ s X) s₁) (PostX D γ s X) s := by
    intro id hm
    refine andThen (ho env A γ H s L _ X hE hA R lr w) ?_
    intro vo s1 γ1 Vo H1 st R1 ro q
    obtain ⟨hm1, q⟩ := q
    have hi : ∃ i, Vo = .ref i := by
      cases Vo with
      | ref i => exact ⟨i, rfl⟩
      | _ => exact hm1.elim
    obtain ⟨i, rfl⟩ := hi
    obtain ⟨l0, hl0⟩ := hm1
    have ro2 := ro
    refine e1_2 ro2 fun x hx e_155 => ?_
    obtain rfl := e_155
    refine e2_3 (R1.list hx hl0) fun vs n e rs z => ?_
    refine ⟨⟨_, e, rfl⟩, ⟨fun b eb => ?_, ?_⟩⟩
    · cases eb; exact ⟨_, e, rfl⟩
    refine Calls.callWith_builtin rfl (Calls.evalArgs_plain (Calls.spliced_cons (thenV st R1 (ha env A γ1 H1 s1 L _ X hE hA R1 (lr.stp R st) q) ?_)))
    intro va s2 γ2 Va H2 st2 R2 ra q2
    exact Calls.spliced_nil (backV (st.trans0 R1 st2) R2 (hm R2 (ro.stp0 R1 st2) ra q2))
  cases m with
  | append =>
    refine wpAny_Call_method (attrBase hb) (by rw [e1]; rfl) (beq_iff_eq.mpr hl) F.plainAttrs_list F.slot_list_append F.type_list_append ?_
    rw [e1]
    refine run _ fun {va s2 γ2 H2 Va x i} R2 rx ra q2 => ?_
    refine e1_2 (oK_elim (show oK (listAt H2 i) _ from q2)) fun l hl' q2 => ?_
    have q2 : _ ∧ _ := q2
    exact append_ok R2 rx ra hl' q2.1 q2.2
  | count =>
    refine wpAny_Call_method (attrBase hb) (by rw [e1]; rfl) (beq_iff_eq.mpr hl) F.plainAttrs_list F.slot_list_count F.type_list_count ?_
    rw [e1]
    refine run _ fun {va s2 γ2 H2 Va x i} R2 rx ra q2 => ?_
    refine e1_2 (oK_elim (show oK (listAt H2 i) _ from q2)) fun l hl' q2 => ?_
    refine e1_2 (oK_elim (show oK (strsOf l) _ from q2)) fun ys hy q2 => ?_
    refine e1_2 (oK_elim q2) fun y hv q2 => ?_
    rw [strV_some hv] at ra
    exact count_ok R2 rx ra hl' hy q2
  | _ => exact Bool.noConfusion h1
theorem e_meth0 {o : Expr} {m : Mt} {apos pos : Pos} {io : IE} (ho : SE D Φ k c o io) (hb : plainBase o = true) (hl : apos.endLine = pos.line) (h1 : m.one = false) :
    Both D Φ k c (.Call (.Attribute o m.name apos) [] [] pos) (.meth io m []) := by
  refine both_plain (fun env A γ H s L Q X hE hA R lr w => ?_) rfl (fun _ _ => rfl)
  have run : ∀ (id : String), (∀ {s2 : Shared} {γ2 : List Addr} {H2 : Hp} {x : Value} {i : Nat}, HRel D γ2 H2 s2.heap → Rep D γ2 s2.heap x (.ref i) → pMeth (.ref i) m [] H2 Q → wpAny D.M A (callWith pos (.builtin id) [x] [] []) (PostV D γ2 s2 Q) (PostX D γ2 s2 X) s2) →
      wpAny D.M A (eval o env) (fun v s₁ => s₁.TypeIs v "list" ∧ (∀ b, v = .ref b → ∃ ob, s₁.heap.get? b = some ob ∧ ob.dict = none) ∧ wpAny D.M A (callWith pos (.builtin id) [v] [] []) (PostV D γ s Q) (PostX D γ s X) s₁) (PostX D γ s X) s := by
    intro id hm
    refine andThen (ho env A γ H s L _ X hE hA R lr w) ?_
    intro vo s1 γ1 Vo H1 st R1 ro q
    obtain ⟨hm1, q⟩ := q
    have hi : ∃ i, Vo = .ref i := by
      cases Vo with
      | ref i => exact ⟨i, rfl⟩
      | _ => exact hm1.elim
    obtain ⟨i, rfl⟩ := hi
    obtain ⟨l0, hl0⟩ := hm1
    have ro2 := ro
    refine e1_2 ro2 fun x hx e_156 => ?_
    obtain rfl := e_156
    refine e2_3 (R1.list hx hl0) fun vs n e rs z => ?_
    refine ⟨⟨_, e, rfl⟩, ⟨fun b eb => ?_, ?_⟩⟩
    · cases eb; exact ⟨_, e, rfl⟩
    exact backV st R1 (hm R1 ro q)
  cases m with
  | clear =>
    refine wpAny_Call_method (attrBase hb) rfl (beq_iff_eq.mpr hl) F.plainAttrs_list F.slot_list_clear F.type_list_clear ?_
    refine run _ fun {s2 γ2 H2 x i} R2 rx q2 => ?_
    refine e1_2 (oK_elim (show oK (listAt H2 i) _ from q2)) fun l hl' q2 => ?_
    exact clear_ok R2 rx hl' q2
  | reverse =>
    refine wpAny_Call_method (attrBase hb) rfl (beq_iff_eq.mpr hl) F.plainAttrs_list F.slot_list_reverse F.type_list_reverse ?_
    refine run _ fun {s2 γ2 H2 x i} R2 rx q2 => ?_
    refine e1_2 (oK_elim (show oK (listAt H2 i) _ from q2)) fun l hl' q2 => ?_
    exact reverse_ok R2 rx hl' q2
  | _ => exact Bool.noConfusion h1
theorem inst_at {γ : List Addr} {H : Hp} {h : Heap} {i : Nat} {a : Addr} {p : Nat × List (Str × V)} (R : HRel D γ H h) (hi : γ[i]? = some a) (hp : nsAt H i = some p) :
    ∃ o dx m, h.get? a = some o ∧ o.cls = .ref D.bk ∧ o.dict = some dx ∧ γ[p.1]? = some dx ∧ h.Inst a D.bk m ∧ FsRep D γ h p.2 m ∧ ∀ x, fldOk x = false → m x = none := by
  obtain ⟨h1, h2⟩ := nsAt_some hp
  obtain ⟨o, dx, e, hj, hc, hnc, hd, hne⟩ := R.objs i a _ hi h1
  refine e1_3 (R.objs p.1 dx _ hj h2) fun m hn hf hx => ?_
  exact ⟨o, dx, m, e, hc, hd, hj, ⟨o, e, hc, hnc, .inr ⟨dx, hd, hne, hn⟩⟩, hf, hx⟩
theorem handed {γ : List Addr} {h : Heap} {v : Value} : ∀ {V : V}, Rep D γ h v V → handedOut v = pure v
  | .none, r => by obtain rfl := r; rfl
  | .bool _, r => by obtain rfl := r; rfl
  | .int _, ⟨t, e⟩ => by rw [e]; rfl
  | .str _, ⟨t, e, _⟩ => by rw [e]; rfl
  | .tup _, ⟨a, vs, e, _⟩ => by rw [e]; rfl
  | .ref _, ⟨a, _, e⟩ => by rw [e]; rfl
  | .fn _, ⟨a, e, _⟩ => by rw [e]; rfl
  | .ty _, r => by obtain rfl := r; rfl
  | .bi b, r => by
    obtain rfl := r
    have e : (withoutEnding? b.name "#data").isSome = false := by cases b <;> decide +kernel
    show (if (withoutEnding? b.name "#data").isSome = true then _ else _) = _
    rw [e]; rfl
  | .scr _, ⟨a, vs, e, _⟩ => by rw [e]; rfl
  | .bk, r => by obtain rfl := r; rfl
  | .opq _, ⟨t, e⟩ => by rw [e]; rfl
  | .cls _ _, ⟨a, e, _⟩ => by rw [e]; rfl
theorem fld_cases {x : Str} (h : fldOk x = true) : x = "names" ∨ x = "free_rules" ∨ x = "busy_rules" ∨ x = "held" ∨ x = "given" := by
  unfold fldOk at h
  rw [Bool.or_eq_true, Bool.or_eq_true, Bool.or_eq_true, Bool.or_eq_true, beq_iff_eq, beq_iff_eq, beq_iff_eq, beq_iff_eq, beq_iff_eq] at h
  rcases h with (((h | h) | h) | h) | h
  · exact .inl h
  · exact .inr (.inl h)
  · exact .inr (.inr (.inl h))
  · exact .inr (.inr (.inr (.inl h)))
  · exact .inr (.inr (.inr (.inr h)))
theorem fld_obj {x : Str} (h : fldOk x = true) : typeLookup (.type "object") x = pure none := by
  rw [typeLookup_type, builtinLookup_eq_fast]
  rcases fld_cases h with rfl | rfl | rfl | rfl | rfl <;> kernel_rfl
theorem e_attr {o : Expr} {x : Str} {pos : Pos} {io : IE} (g : GOk D c.G c.mts) (ho : SE D Φ k c o io) (hx : fldOk x = true) (hb : plainBase o = true) : Both D Φ k c (.Attribute o x pos) (.attr io x) := by
  refine both_plain (fun env A γ H s L Q X hE hA R lr w => ?_) rfl (fun _ _ => rfl)
  refine Attribute_any_ (andThen (ho env A γ H s L _ X hE hA R lr w) ?_) (by rw [arm_eval_Attribute, attrBase hb])
  intro vo s1 γ1 Vo H1 st R1 ro q
  refine e1_2 (oK_elim q) fun i hi q => ?_
  rw [refV_some hi] at ro
  refine e1_2 (oK_elim q) fun p hp q => ?_
  refine e1_2 (oK_elim q) fun V hV q => ?_
  refine e1_2 ro fun a ha e_157 => ?_
  obtain rfl := e_157
  obtain ⟨o, dx, m, e, hc, hd, hj, I, hf, _⟩ := inst_at R1 ha hp
  refine e1_2 (hf.1 x V hV) fun v hv rv => ?_
  obtain ⟨N, nm, qn, bs, sn, sub, col, dd, k0, k1, k2, k3, k5, hC, hN⟩ := g.bk.cls
  obtain ⟨hh, gg, d, t, os⟩ := s1
  exact load_attr (R1.base _ _ hC) (hN.keeps R1.base) g.bk.noG (g.bk.noF x hx) (fld_obj hx) I hv (handed rv) ((PostV.now (s := ⟨hh, gg, d, t, os⟩) R1 rv q).back st R1)
theorem e_mcall {o : Expr} {m : Str} {apos pos : Pos} {args : List Expr} {io : IE} {ies : List IE} {n : Nat} (g : GOk D c.G c.mts) (hO : OrcOk D k Φ) (ih : ∀ e ie, compE n c e = some ie → SE D Φ k c e ie) (ho : SE D Φ k c o io) (hm : c.mts.contains m = true) (hb : plainBase o = true)
    (hl : apos.endLine = pos.line) (hs : args.any isStar = false) (hf : args.length ≤ 20) (ha : mapO (compE n c) args = some ies) : Both D Φ k c (.Call (.Attribute o m apos) args [] pos) (.mcall io m ies) := by
  refine both_plain (fun env A γ H s L Q X hE hA R lr w => ?_) rfl (fun _ _ => rfl)
  obtain ⟨hfl, ⟨y, hy⟩, fa, of, hmt, hof, hfc, ⟨fd, hfd⟩, hfa⟩ := g.bk.mts m hm
  obtain ⟨N, nm, qn, bs, sn, sub, col, dd, k0, k1, k2, k3, k5, hC, hN⟩ := g.bk.cls
  rw [arm_eval_Call, attrBase hb]
  refine wpAny_bind (andThen (ho env A γ H s L _ X hE hA R lr w) ?_)
  intro vo s1 γ1 Vo H1 st R1 ro q
  refine e1_2 (oK_elim q) fun i hi q => ?_
  rw [refV_some hi] at ro
  refine e1_2 (oK_elim q) fun p hp q => ?_
  refine e1_2 (id ro) fun a hai e_160 => ?_
  obtain rfl := e_160
  obtain ⟨o', dx, mm, e, hc, hd, hj, I, hfs, hno⟩ := inst_at R1 hai hp
  refine wpAny_bind (wpAny_standAt ?_)
  have hform : methodCallForm (args.length + ([] : List Keyword).length) (backTo pos (starEach args env)) (backToKw pos (keywordEach [] env)) = true := by
    rw [starEach_of hs]
    unfold methodCallForm
    rw [Bool.and_eq_true, Bool.and_eq_true]
    exact ⟨⟨by rw [List.all_map]; exact List.all_eq_true.mpr fun _ _ => rfl, rfl⟩, decide_eq_true (show args.length + 0 + 0 < 30 by lia)⟩
  have hpos : methodCallPos true o env apos pos = pure pos := by unfold methodCallPos; rw [hl, beq_self_eq_true]; rfl
  unfold methodCall
  rw [hform, starEach_of hs]
  have hgm : wpAny D.M A (getMethod (.ref a) m (do return (← importBound o env).getD true)) (fun r s' => r = (.ref fa, [.ref a]) ∧ s' = s1) (PostX D γ s X) s1 := by
    obtain ⟨hh, gg, d, t, os⟩ := s1
    exact method_of (R1.base _ _ hC) (hN.keeps R1.base) g.bk.noG g.bk.noH hmt (R1.base _ _ hof) hfc hy I (hno m hfl) ⟨rfl, rfl⟩
  refine wpAny_bind (wpAny_holding (wpAny_mono hgm (fun r s' hr => ?_) fun _ _ x => x))
  obtain ⟨rfl, rfl⟩ := hr
  refine wpAny_bind (wpAny_of_eq hpos ?_)
  refine Calls.callWith_function (o := of) (fd := fd) (wpAny_mono (evalArgs_ok ih hE hA ha R1 (lr.stp R st) q) (fun b s2 hb => ?_) fun _ _ x => x.back st R1)
  obtain ⟨ps, kw⟩ := b
  obtain ⟨hkw, γ2, Vs, H2, st2, R2, rv, q⟩ := hb
  obtain rfl : kw = [] := hkw
  exact ⟨⟨R2.base _ _ hof, hfd⟩, backV (st.trans0 R1 st2) R2 (hO D.fr _ _ H2 Q X q A γ2 s2 (.ref a :: ps) fa hA.c R2 (Exists.intro _ ⟨ps, rfl, ro.stp0 R1 st2, rv⟩) hfa).2⟩
theorem HRel.made {γ : List Addr} {H : Hp} {h h' : Heap} {x dx : Addr} (R : HRel D γ H h) (M : Heap.MadeObj h h' x dx D.bk) : HRel D (γ ++ [dx] ++ [x]) (H ++ [.ns []] ++ [.inst H.length]) h' := by
  refine e1_4 (M.inst) fun o e hc hnc hd => ?_
  have hdx := M.dict o e
  rcases hd with ⟨q, _⟩ | ⟨d', q, hne, hn⟩
  · rw [hdx] at q; exact no_some q.symm
  rw [hdx] at q
  obtain rfl := Option.some.inj q
  refine (R.add (o := .ns []) M.keeps M.newD ⟨_, hn, ⟨fun _ _ h => no_some h, fun _ _ => rfl⟩, fun _ _ => rfl⟩).adopt (fun hm => ?_) (R.nin M.newX).2 (R.frs.ne M.newX) ⟨o, dx, e, ?_, hc, hnc, hdx, hne⟩
  · rcases List.mem_append.mp hm with q | q
    · exact (R.nin M.newX).1 q
    · exact hne (List.mem_singleton.mp q).symm
  · rw [List.getElem?_append_left (by rw [List.length_append, ← R.len]; exact Nat.lt_succ_self _), ← R.len, List.getElem?_concat_length]
theorem e_new {x : Str} {np pos : Pos} (g : GOk D c.G c.mts) (hO : OrcOk D k Φ) (hf : globV c x = some .bk) : Both D Φ k c (.Call (.Name x np) [] [] pos) .new := by
  refine both_plain (fun env A γ H s L Q X hE hA R lr w => ?_) rfl (fun _ _ => rfl)
  obtain ⟨N, nm, qn, bs, sn, sub, col, dd, k0, k1, k2, k3, k5, hC, hN⟩ := g.bk.cls
  refine e2_4 (g.bk.init) fun fi oi hmi hoi hfc hfa => ?_
  refine wpAny_Call_ofName (andThen (name_ok (Φ := Φ) (Q := fun V H' => V = .bk ∧ H' = H) g hE R lr (globV_lit hf) ⟨rfl, rfl⟩) ?_)
  intro vf s1 γ1 Vf H1 st R1 rf q
  obtain ⟨rfl, rfl⟩ := q
  obtain rfl := rf
  show wpAny D.M A (callWith pos (.ref D.bk) [] [] []) _ _ _
  unfold callWith
  refine wpAny_bind (wpAny_holding (evalArgs_nil3 (wpAny_bind (wpAny_standAt ?_))))
  refine wpAny_bind (m := keeperOf (.ref D.bk)) ?_
  unfold keeperOf
  refine wpAny_bind (wpAny_load (R1.base _ _ hC) ?_)
  refine wpAny_bind (wpAny_specialOf (T := "type") ⟨_, R1.base _ _ hC, rfl⟩ tc_lookup (wpAny_pure ?_))
  refine wpAny_bind (wpAny_mono (Q := PostV D γ s Q) ?_ (fun r s₂ hr => wpAny_bind (wpAny_holding (wpAny_point (wpAny_pure hr)))) fun _ _ x => x)
  show wpAny D.M A (call (.ref D.bk) []) _ _ _
  obtain ⟨hh, gg, d, t, os⟩ := s1
  refine wpAny_call_obj_init F.objNew (R1.base _ _ hC) (hN.keeps R1.base) hmi (R1.base _ _ hoi) hfc fun h' a dx M => ?_
  have R2 := R1.made M
  have st2 : Stp [] γ1 (γ1 ++ [dx] ++ [a]) ⟨hh, gg, d, t, os⟩ ⟨h', gg, d, t, os⟩ := .of ⟨_, _, rfl⟩ (fun b o _ _ e => M.keeps b o e) ⟨[dx] ++ [a], List.append_assoc _ _ _, fun b hb => by
    rcases List.mem_append.mp hb with q | q
    · rw [List.mem_singleton.mp q]; exact M.newD
    · rw [List.mem_singleton.mp q]; exact M.newX⟩
  have ra : Rep D (γ1 ++ [dx] ++ [a]) h' (.ref a) (.ref (H1.length + 1)) := Exists.intro a ⟨by
    have : H1.length + 1 = (γ1 ++ [dx]).length := by rw [List.length_append, R1.len]; rfl
    rw [this, List.getElem?_concat_length], rfl⟩
  have st02 := st.trans0 R1 st2
  refine wpAny_mono (hO D.fr _ _ _ _ X w _ _ ⟨h', gg, d, t, os⟩ [.ref a] fi (hA.under D.bk) R2 (Reps.one ra) hfa).2 (fun r s3 p => ?_) fun _ _ x => x.back st02 R2
  obtain ⟨γ3, V3, H3, st3, R3, r3, hnv, q3⟩ := p
  rw [isNoneV_eq hnv] at r3
  exact ⟨r3, γ3, _, H3, st02.trans0 R2 st3, R3, ra.stp0 R2 st3, q3⟩
theorem e_dct {pos : Pos} : Both D Φ k c (.Dict [] [] pos) .dct := by
  refine both_plain (fun env A γ H s L Q X hE hA R lr w => ?_) rfl (fun _ _ => rfl)
  refine wpAny_Dict_empty ?_
  have hk : ∀ b o, s.heap.get? b = some o → (s.heap.push { cls := .type "dict", data := .dict #[] }).get? b = some o := fun _ _ e => Heap.get?_push_of_some _ e
  exact ⟨γ ++ [s.heap.objs.size], .ref H.length, H ++ [.dict []], Stp.add (tk := s.toks) hk (none_end _), R.add (o := .dict []) (H := H) hk (none_end _) ⟨[], Heap.DictOf.new _, ⟨fun _ _ h => no_some h, fun _ _ => rfl⟩, Nat.le_refl _⟩, rep_new R, (show Q (.ref H.length) (H ++ [.dict []]) from w)⟩
end
end Mine
namespace Mine
open PySem PyProof.Rows
section
variable {D : Wd} {γ : List Addr} {H : Hp} {s : Shared} {A : Around} {E : Value → Shared → Prop}
theorem part_lo {h : Heap} {v : Value} {W : V} {a n : Nat} (r : Rep D γ h v W) (hc : cutLo W = some a) (hb : a ≤ n) : ∃ u, IsPart v u ∧ PySem.W.kms_lo u n = a := by
  cases W with
  | none => obtain rfl := r; exact ⟨none, .none, Option.some.inj hc⟩
  | int k =>
    obtain ⟨t, rfl⟩ := r
    refine ⟨some k, .int k t, ?_⟩
    have hc : (if 0 ≤ k then some k.toNat else none) = some a := hc
    by_cases h0 : 0 ≤ k
    · rw [if_pos h0] at hc
      have := Option.some.inj hc
      show (if k < 0 then n - (-k).toNat else min k.toNat n) = a
      rw [if_neg (by lia)]; lia
    · rw [if_neg h0] at hc; exact no_some hc
  | _ => exact no_some hc
theorem part_hi {h : Heap} {v : Value} {W : V} {b n : Nat} (r : Rep D γ h v W) (hc : cutHi n W = some b) (hb : b ≤ n) : ∃ u, IsPart v u ∧ PySem.W.kms_hi u n = b := by
  cases W with
  | none => obtain rfl := r; exact ⟨none, .none, Option.some.inj hc⟩
  | int k =>
    obtain ⟨t, rfl⟩ := r
    refine ⟨some k, .int k t, ?_⟩
    have hc : (if 0 ≤ k then some k.toNat else if k = -1 ∧ 0 < n then some (n - 1) else none) = some b := hc
    show (if k < 0 then n - (-k).toNat else min k.toNat n) = b
    by_cases h0 : 0 ≤ k
    · rw [if_pos h0] at hc
      have := Option.some.inj hc
      rw [if_neg (by lia)]; lia
    · rw [if_neg h0] at hc
      by_cases h1 : k = -1 ∧ 0 < n
      · rw [if_pos h1] at hc
        have := Option.some.inj hc
        rw [if_pos (by lia)]; lia
      · rw [if_neg h1] at hc; exact no_some hc
  | _ => exact no_some hc
theorem post_list {vl vu vt : Value} {zs : List Value} {l : List V} {Q : V → Hp → Prop} (R : HRel D γ H s.heap) (rs : Reps D γ s.heap zs l) (hz : l.length ≤ 2000000) (q : Q (.ref H.length) (H ++ [.list l])) :
    PostV D γ s Q (.ref (s.heap.objs.size + 1)) { s with heap := (s.heap.push { cls := .type "slice", data := .fields #[vl, vu, vt] }).push { cls := .type "list", data := .seq zs.toArray } } := by
  have e1 := Heap.get?_push_size (s.heap.push { cls := .type "slice", data := .fields #[vl, vu, vt] }) (o := { cls := .type "list", data := .seq zs.toArray }) rfl
  rw [Heap.size_push] at e1
  have hn1 : s.heap.get? (s.heap.objs.size + 1) = none := by
    cases q : s.heap.get? (s.heap.objs.size + 1) with
    | none => rfl
    | some o => exact absurd (Heap.lt_size q) (Nat.not_lt.mpr (Nat.le_succ _))
  exact PostV.addList (tk := s.toks) R rs hz (fun b o e => Heap.get?_push_of_some _ (Heap.get?_push_of_some _ e)) hn1 e1 q
theorem cutL_some {lo hi : V} {l m : List V} (h : cutL lo hi l = some m) : ∃ a b, cutLo lo = some a ∧ cutHi l.length hi = some b ∧ a ≤ l.length ∧ b ≤ l.length ∧ m = (l.drop a).take (b - a) := by
  refine e1_2 (Option.bind_eq_some_iff.mp h) fun a ha h => ?_
  refine e1_2 (Option.bind_eq_some_iff.mp h) fun b hb h => ?_
  by_cases hc : a ≤ l.length ∧ b ≤ l.length
  · rw [if_pos hc] at h
    exact ⟨a, b, ha, hb, hc.1, hc.2, (Option.some.inj h).symm⟩
  · rw [if_neg hc] at h; exact no_some h
theorem slice_ok {value : Expr} {lo hi : Option Expr} {p : Pos} {o vl vh : Value} {Vo Vl Vh : V} {Q : V → Hp → Prop} (R : HRel D γ H s.heap) (ro : Rep D γ s.heap o Vo) (rl : Rep D γ s.heap vl Vl) (rh : Rep D γ s.heap vh Vh) (h : pSlice Vo Vl Vh H Q) :
    wpAny D.M A (subscriptTail value (.Slice lo hi none p) o (.ref s.heap.objs.size)) (PostV D γ s Q) E { s with heap := s.heap.push { cls := .type "slice", data := .fields #[vl, vh, .none] } } := by
  refine e1_2 (oK_elim h) fun i hi' h => ?_
  rw [refV_some hi'] at ro
  refine e1_2 (oK_elim h) fun xs h1 h => ?_
  refine e1_2 (oK_elim h) fun ys h2 q => ?_
  obtain ⟨x, y, hx, hy, hxl, hyl, rfl⟩ := cutL_some h2
  refine e1_2 ro fun a hi3 e_162 => ?_
  obtain rfl := e_162
  refine e2_3 (R.list hi3 h1) fun vs m e rs z => ?_
  have hL : s.heap.IsList a vs.toArray := ⟨_, e, rfl, m, rfl⟩
  have hl := rs.length
  refine e1_2 (part_lo rl hx hxl) fun u pu eu => ?_
  refine e1_2 (part_hi rh hy hyl) fun u' pu' eu' => ?_
  refine tail_any (ops := [.ref s.heap.objs.size, .ref a]) (s := { s with heap := s.heap.push { cls := .type "slice", data := .fields #[vl, vh, .none] } }) (hL.push _).typeIs slot_list_getitem.lookup (wpAny_getItem_list_slice (hL.push _) (Heap.IsSliceOf.new ..) pu pu' .none (fun h => nomatch h) ?_ (by rw [sizeLine_eq]; show vs.length ≤ _; lia)) rfl
  rw [Heap.size_push, PySem.W.kms_pick_eq]
  unfold PySem.W.kms_pick
  rw [show vs.toArray.toList = vs from rfl, hl, eu, eu']
  exact post_list R ((rs.drop x).take (y - x)) (by rw [List.length_take, List.length_drop]; lia) q
theorem rev_ok {value : Expr} {st : Option Expr} {p : Pos} {o vk : Value} {Vo : V} {Q : V → Hp → Prop} (R : HRel D γ H s.heap) (ro : Rep D γ s.heap o Vo) (pk : IsPart vk (some (-1))) (h : pRev Vo H Q) :
    wpAny D.M A (subscriptTail value (.Slice none none st p) o (.ref s.heap.objs.size)) (PostV D γ s Q) E { s with heap := s.heap.push { cls := .type "slice", data := .fields #[.none, .none, vk] } } := by
  refine e1_2 (oK_elim h) fun i hi' h => ?_
  rw [refV_some hi'] at ro
  refine e1_2 (oK_elim h) fun xs h1 q => ?_
  refine e1_2 ro fun a hi3 e_163 => ?_
  obtain rfl := e_163
  refine e2_3 (R.list hi3 h1) fun vs m e rs z => ?_
  have hL : s.heap.IsList a vs.toArray := ⟨_, e, rfl, m, rfl⟩
  have hs : ∃ ops, subscripted (.Slice none none st p) false (.ref a) (.ref s.heap.objs.size) = operate ops (getItem (.ref a) (.ref s.heap.objs.size)) := by cases st <;> exact ⟨_, rfl⟩
  obtain ⟨ops, hs⟩ := hs
  refine tail_any (ops := ops) (s := { s with heap := s.heap.push { cls := .type "slice", data := .fields #[.none, .none, vk] } }) (hL.push _).typeIs slot_list_getitem.lookup (wpAny_getItem_list_slice (hL.push _) (Heap.IsSliceOf.new ..) .none .none pk (by decide) ?_ (by rw [sizeLine_eq]; show vs.length ≤ _; lia)) hs
  rw [Heap.size_push, PySem.W.krv_pick]
  exact post_list R rs.reverse (by rw [List.length_reverse, ← rs.length]; exact z) q
end
end Mine
namespace Mine
open PySem PyProof.Rows
structure Itr (D : Wd) (A : Around) (I : Addr) (fp : List Addr) (l : List V) (st : Hp → Prop) (Inv : List Addr → Nat → Heap → Prop) : Prop where
  mem : I ∈ fp
  frame : ∀ γ γ' i h h', Inv γ i h → (∃ δ, γ' = γ ++ δ) → (∀ b ∈ fp, ∀ o, h.get? b = some o → h'.get? b = some o) → (∀ a ws, TupAt h a ws → TupAt h' a ws) → Inv γ' i h'
  notTup : ∀ γ i h ws, Inv γ i h → ¬ TupAt h I ws
  nd : ∀ γ i h, Inv γ i h → ∀ b ∈ fp, ∀ o, h.get? b = some o → NotD o
  next : ∀ γ H (s : Shared) (i : Nat) (W : V) (Q : Option Value → Shared → Prop) (E : Value → Shared → Prop), l[i]? = some W → HRel D γ H s.heap → I ∉ γ → st H → Inv γ i s.heap →
    (∀ v h' tk, (∃ o, h'.get? I = some o) → (∀ b o, b ≠ I → s.heap.get? b = some o → h'.get? b = some o) → Inv γ (i + 1) h' → Rep D γ h' v W → Q (some v) { s with heap := h', toks := tk }) → wpAny D.M A (pyNext (.ref I)) Q E s
  done : ∀ γ H (s : Shared) (Q : Option Value → Shared → Prop) (E : Value → Shared → Prop), HRel D γ H s.heap → st H → Inv γ l.length s.heap →
    (∀ h' tk, (∀ b o, b ≠ I → s.heap.get? b = some o → h'.get? b = some o) → Q none { s with heap := h', toks := tk }) → wpAny D.M A (pyNext (.ref I)) Q E s
  self : ∀ γ i (s : Shared) (Q : Value → Shared → Prop) (E : Value → Shared → Prop), Inv γ i s.heap → Q (.ref I) s → wpAny D.M A (pyIter (.ref I)) Q E s
  own : ∀ γ i (s : Shared) (T : Addr) (elts : List Expr) (x1 : Nat) (pos : Pos) (Q : Unit → Shared → Prop) (E : Value → Shared → Prop), Inv γ i s.heap → Q () s → wpAny D.M A (letOwnedTupleGo (.Tuple elts x1 pos) (.ref I) (.ref T)) Q E s
theorem own_of {D : Wd} {A : Around} {s : Shared} {I T : Addr} {o : Obj} {n : String} {elts : List Expr} {x1 : Nat} {pos : Pos} {Q : Unit → Shared → Prop} {E : Value → Shared → Prop} (ho : s.heap.get? I = some o) (hc : o.cls = .type n)
    (hn : ["enumerate", "zip", "dict_itemiterator", "dict_reverseitemiterator", "odict_iterator", "itertools.zip_longest", "itertools.pairwise"].contains n = false) (hQ : Q () s) : wpAny D.M A (letOwnedTupleGo (.Tuple elts x1 pos) (.ref I) (.ref T)) Q E s := by
  unfold letOwnedTupleGo
  refine wpAny_bind (wpAny_load ho ?_)
  rw [hc]
  cases o.data with
  | fields vs =>
    show wpAny _ A (if (["enumerate", "zip", "dict_itemiterator", "dict_reverseitemiterator", "odict_iterator", "itertools.zip_longest", "itertools.pairwise"].contains n && vs[0]? == some (rawInt T)) = true then _ else _) Q E s
    rw [hn, Bool.false_and, if_neg Bool.false_ne_true]
    exact wpAny_pure hQ
  | _ => exact wpAny_pure hQ
section
variable {D : Wd} {A : Around} {k : Nat}
theorem tupAt_but {h h' : Heap} {I : Addr} (hk : ∀ b o, b ≠ I → h.get? b = some o → h'.get? b = some o) (hn : ∀ ws, ¬ TupAt h I ws) {a : Addr} {ws : List Value} (x : TupAt h a ws) : TupAt h' a ws := by
  refine e1_2 (id x) fun n e z => ?_
  exact ⟨n, hk _ _ (by rintro rfl; exact hn _ x) e, z⟩
theorem HRel.but {γ : List Addr} {H : Hp} {h h' : Heap} {I : Addr} (R : HRel D γ H h) (hk : ∀ b o, b ≠ I → h.get? b = some o → h'.get? b = some o) (hI : I ∉ γ) (hB : D.hB.get? I = none) (hn : ∀ ws, ¬ TupAt h I ws) (hF : (∃ o, h.get? I = some o ∧ NotD o) ∨ (∃ o, h'.get? I = some o ∧ ¬ NotD o) ∨ ∀ e ∈ D.fr, e.frame ≠ some I) : HRel D γ H h' where
  len := R.len
  nodup := R.nodup
  objs := fun i a o e1 e2 => (R.objs i a o e1 e2).mono ⟨[], by simp⟩ (fun _ _ => tupAt_but hk hn) fun ob e => hk a ob (fun q => hI (q ▸ List.mem_of_getElem? e1)) e
  fresh := R.fresh
  base := fun b o e => hk _ _ (by rintro rfl; rw [hB] at e; exact no_some e) (R.base b o e)
  frs := fun e he => by
    obtain ⟨kd, L, o, a, b, n, c, d⟩ := R.frs e he
    by_cases hL : L = I
    · subst hL
      rcases hF with ⟨o', e1, e2⟩ | ⟨o', e1, e2⟩ | hF
      · rw [c] at e1; obtain rfl := Option.some.inj e1; exact absurd e2 d
      · exact ⟨kd, L, o', a, b, n, e1, e2⟩
      · exact absurd a (hF e he)
    · exact ⟨kd, L, o, a, b, n, hk _ _ hL c, d⟩
noncomputable def rangeInv (I : Addr) (a : Int) (n : Nat) (_ : List Addr) (i : Nat) (h : Heap) : Prop := IsRangeIter h I (a + (i : Int)) ((n : Int) - (i : Int)) 1
theorem itr_range (hA : AOk D k A) (I : Addr) (a : Int) (n : Nat) : Itr D A I [I] ((List.range n).map fun (j : Nat) => V.int (a + (j : Int))) (fun _ => True) (rangeInv I a n) where
  mem := by simp
  frame := fun γ γ' i h h' iv _ hk _ => hk I (by simp) _ iv
  notTup := fun γ i h ws iv t => by
    refine e1_2 t fun m e _ => ?_
    have iv' : h.get? I = some _ := iv
    rw [iv'] at e; simp at e
  nd := fun γ i h iv b hb o e => by
    have iv' : h.get? I = some _ := iv
    rw [List.mem_singleton.mp hb, iv'] at e; obtain rfl := Option.some.inj e; exact notD_fields rfl
  next := fun γ H s i W Q E hl R hI _ iv hQ => by
    have hi : i < n := by
      have := (List.getElem?_eq_some_iff.mp hl).1; simpa using this
    rw [List.getElem?_map, List.getElem?_range hi] at hl
    simp at hl
    refine wpAny_pyNext_range_item iv (by lia) fun h' hit hs => hQ _ h' _ ⟨_, hit⟩ (fun b o hb e => hs.extBut b o hb e) ?_ ?_
    · show IsRangeIter h' I (a + ((i + 1 : Nat) : Int)) ((n : Int) - ((i + 1 : Nat) : Int)) 1
      have e1 : a + ((i + 1 : Nat) : Int) = a + (i : Int) + 1 := by lia
      have e2 : (n : Int) - ((i + 1 : Nat) : Int) = (n : Int) - (i : Int) - 1 := by lia
      rw [e1, e2]; exact hit
    · subst hl; exact rep_i
  done := fun γ H s Q E R _ iv hQ => by
    have iv' : IsRangeIter s.heap I (a + (n : Int)) ((n : Int) - (n : Int)) 1 := by
      have : ((List.range n).map fun (j : Nat) => V.int (a + (j : Int))).length = n := by simp
      rw [this] at iv; exact iv
    exact wpAny_pyNext_range_end hA.handled iv' (by lia) fun h' he => hQ h' s.toks fun b o hb e => he b o hb e
  self := fun γ i s Q E iv q => (Walks.range (prog := D.prog) (w := D.w) (A := A) hA.handled I a 1 n).self i s Q E (by
    show IsRangeIter s.heap I (a + (i : Nat) * 1) ((n : Int) - (i : Nat)) 1
    rw [Int.mul_one]; exact iv) q
  own := fun γ i s T elts x1 pos Q E iv q => own_of iv rfl (by decide) q
noncomputable def tupInv (mg : Wd) (I t : Addr) (vs : List Value) (l : List V) (γ : List Addr) (i : Nat) (h : Heap) : Prop :=
  h.IsTupleIter I t i ∧ TupAt h t vs ∧ Reps mg γ h vs l
theorem itr_tup (hA : AOk D k A) (I t : Addr) (hne : t ≠ I) (vs : List Value) (l : List V) : Itr D A I [I, t] l (fun _ => True) (tupInv D I t vs l) where
  mem := by simp
  frame := fun γ γ' i h h' iv hg hk ht => by
    refine e0_3 iv fun e_164 b r => ?_
    obtain ⟨o, e, c, d⟩ := e_164
    exact ⟨⟨o, hk I (by simp) o e, c, d⟩, ht _ _ b, Reps.mono hg ht r⟩
  notTup := fun γ i h ws iv x => by
    obtain ⟨⟨o, e, c, d⟩, _⟩ := iv
    refine e1_2 x fun m e' _ => ?_
    rw [e] at e'; cases e'; simp at c
  nd := fun γ i h iv b hb o e => by
    refine e0_3 iv fun e_165 e_166 _ => ?_
    obtain ⟨o', e', c, d⟩ := e_165
    obtain ⟨n, e2, _⟩ := e_166
    rcases List.mem_cons.mp hb with q | q
    · rw [q, e'] at e; obtain rfl := Option.some.inj e; exact notD_fields d
    · rw [List.mem_singleton.mp q, e2] at e; obtain rfl := Option.some.inj e; exact notD_seq rfl
  next := fun γ H s i W Q E hl R hI _ iv hQ => by
    refine e0_3 iv fun it ta rs => ?_
    have hnt : ∀ ws, ¬ TupAt s.heap I ws := fun ws x => by
      refine e1_3 it fun o e c d => ?_
      refine e1_2 x fun m e' _ => ?_
      rw [e] at e'; cases e'; simp at c
    refine e1_2 (rs.get hl) fun v hv rv => ?_
    refine wpAny_pyNext_tuple_item it ta.isTuple (x := v) (by simpa using hv) fun h' hit hs => ?_
    have hk : ∀ b o, b ≠ I → s.heap.get? b = some o → h'.get? b = some o := fun b o hb e => hs.extBut b o hb e
    have ht : ∀ a ws, TupAt s.heap a ws → TupAt h' a ws := fun _ _ => tupAt_but hk hnt
    exact hQ v h' s.toks (let ⟨o, e, _⟩ := hit; ⟨o, e⟩) hk ⟨hit, ht _ _ ta, Reps.mono ⟨[], by simp⟩ ht rs⟩ (Rep.mono ⟨[], by simp⟩ ht rv)
  done := fun γ H s Q E R _ iv hQ => by
    refine e0_3 iv fun it ta rs => ?_
    exact wpAny_pyNext_tuple_end hA.handled it ta.isTuple (by simp [rs.length]) fun h' he => hQ h' s.toks fun b o hb e => he b o hb e
  self := fun γ i s Q E iv q => (Walks.tuple (prog := D.prog) (w := D.w) (A := A) hA.handled I t hne vs.toArray).self i s Q E ⟨iv.1, iv.2.1.isTuple⟩ q
  own := fun γ i s T elts x1 pos Q E iv q => let ⟨⟨_, e, c, _⟩, _⟩ := iv; own_of e c (by decide) q
noncomputable def lstInv (I a : Addr) (j : Nat) (γ : List Addr) (i : Nat) (h : Heap) : Prop := h.IsListIter I a i ∧ γ[j]? = some a
theorem itr_list (hA : AOk D k A) (I a : Addr) (j : Nat) (l : List V) : Itr D A I [I] l (fun H => listAt H j = some l) (lstInv I a j) where
  mem := by simp
  frame := fun γ γ' i h h' iv hg hk ht => by
    obtain ⟨⟨o, e, c, d⟩, b⟩ := iv
    exact ⟨⟨o, hk I (by simp) o e, c, d⟩, getElem?_ext hg b⟩
  notTup := fun γ i h ws iv x => by
    obtain ⟨⟨o, e, c, d⟩, _⟩ := iv
    refine e1_2 x fun m e' _ => ?_
    rw [e] at e'; cases e'; simp at c
  nd := fun γ i h iv b hb o e => by
    obtain ⟨⟨o', e', c, d⟩, _⟩ := iv
    rw [List.mem_singleton.mp hb, e'] at e; obtain rfl := Option.some.inj e; exact notD_fields d
  next := fun γ H s i W Q E hl R hI hst iv hQ => by
    obtain ⟨it, hj⟩ := iv
    have hnt : ∀ ws, ¬ TupAt s.heap I ws := fun ws x => by
      refine e1_3 it fun o e c d => ?_
      refine e1_2 x fun m e' _ => ?_
      rw [e] at e'; cases e'; simp at c
    refine e2_3 (R.list hj hst) fun vs n e rs z => ?_
    refine e1_2 (rs.get hl) fun v hv rv => ?_
    refine wpAny_pyNext_list_item it (items := vs.toArray) ⟨_, e, rfl, n, rfl⟩ (x := v) (by simpa using hv) fun h' hit hs => ?_
    have hk : ∀ b o, b ≠ I → s.heap.get? b = some o → h'.get? b = some o := fun b o hb e => hs.extBut b o hb e
    have ht : ∀ a ws, TupAt s.heap a ws → TupAt h' a ws := fun _ _ => tupAt_but hk hnt
    exact hQ v h' s.toks (let ⟨o, e, _⟩ := hit; ⟨o, e⟩) hk ⟨hit, hj⟩ (Rep.mono ⟨[], by simp⟩ ht rv)
  done := fun γ H s Q E R hst iv hQ => by
    obtain ⟨it, hj⟩ := iv
    refine e2_3 (R.list hj hst) fun vs n e rs z => ?_
    exact wpAny_pyNext_list_end hA.handled it (items := vs.toArray) ⟨_, e, rfl, n, rfl⟩ (by simp [rs.length]) fun h' he => hQ h' s.toks fun b o hb e => he b o hb e
  self := fun γ i s Q E iv q => wpAny_pyIter_listiter iv.1 q
  own := fun γ i s T elts x1 pos Q E iv q => let ⟨⟨_, e, c, _⟩, _⟩ := iv; own_of e c (by decide) q
noncomputable def revInv (I a : Addr) (j : Nat) (l : List V) (γ : List Addr) (i : Nat) (h : Heap) : Prop := h.IsRevIter I a ((l.length : Int) - 1 - (i : Int)) ∧ γ[j]? = some a
theorem itr_rev (hA : AOk D k A) (I a : Addr) (j : Nat) (l : List V) : Itr D A I [I] l.reverse (fun H => listAt H j = some l) (revInv I a j l) where
  mem := by simp
  frame := fun γ γ' i h h' iv hg hk ht => by
    obtain ⟨⟨o, e, c, d⟩, b⟩ := iv
    exact ⟨⟨o, hk I (by simp) o e, c, d⟩, getElem?_ext hg b⟩
  notTup := fun γ i h ws iv x => by
    obtain ⟨⟨o, e, c, d⟩, _⟩ := iv
    refine e1_2 x fun m e' _ => ?_
    rw [e] at e'; cases e'; simp at c
  nd := fun γ i h iv b hb o e => by
    obtain ⟨⟨o', e', c, d⟩, _⟩ := iv
    rw [List.mem_singleton.mp hb, e'] at e; obtain rfl := Option.some.inj e; exact notD_fields d
  next := fun γ H s i W Q E hl R hI hst iv hQ => by
    obtain ⟨it, hj⟩ := iv
    have hnt : ∀ ws, ¬ TupAt s.heap I ws := fun ws x => by
      refine e1_3 it fun o e c d => ?_
      refine e1_2 x fun m e' _ => ?_
      rw [e] at e'; cases e'; simp at c
    refine e2_3 (R.list hj hst) fun vs n e rs z => ?_
    have hi : i < l.length := by have := (List.getElem?_eq_some_iff.mp hl).1; simpa using this
    rw [List.getElem?_reverse hi] at hl
    refine e1_2 (rs.get hl) fun v hv rv => ?_
    have e1 : (l.length : Int) - 1 - (i : Int) = ((l.length - 1 - i : Nat) : Int) := by lia
    rw [e1] at it
    refine wpAny_pyNext_rev_item it (items := vs.toArray) ⟨_, e, rfl, n, rfl⟩ (x := v) (by simpa using hv) fun h' hit hs => ?_
    have hk : ∀ b o, b ≠ I → s.heap.get? b = some o → h'.get? b = some o := fun b o hb e => hs.extBut b o hb e
    have ht : ∀ a ws, TupAt s.heap a ws → TupAt h' a ws := fun _ _ => tupAt_but hk hnt
    refine hQ v h' s.toks (let ⟨o, e, _⟩ := hit; ⟨o, e⟩) hk ⟨?_, hj⟩ (Rep.mono ⟨[], by simp⟩ ht rv)
    have e2 : (l.length : Int) - 1 - ((i + 1 : Nat) : Int) = ((l.length - 1 - i : Nat) : Int) - 1 := by lia
    rw [e2]; exact hit
  done := fun γ H s Q E R hst iv hQ => by
    obtain ⟨it, hj⟩ := iv
    have e1 : (l.length : Int) - 1 - ((l.reverse.length : Nat) : Int) = -1 := by simp; lia
    rw [e1] at it
    exact wpAny_pyNext_rev_end hA.handled it fun h' he => hQ h' s.toks fun b o hb e => he b o hb e
  self := fun γ i s Q E iv q => wpAny_pyIter_revIter iv.1 q
  own := fun γ i s T elts x1 pos Q E iv q => let ⟨⟨_, e, c, _⟩, _⟩ := iv; own_of e c (by decide) q
noncomputable def SrcPost (D : Wd) (A : Around) (γ : List Addr) (s : Shared) (K : List V → (Hp → Prop) → Hp → Prop) (it : Value) (s2 : Shared) : Prop :=
  ∃ γ2 H2 I fp l st Inv, it = .ref I ∧ Stp [] γ γ2 s s2 ∧ HRel D γ2 H2 s2.heap ∧ Itr D A I fp l st Inv ∧ Inv γ2 0 s2.heap ∧ (∀ b ∈ fp, b ∉ γ2 ∧ (∃ o, s2.heap.get? b = some o) ∧ (b = I ∨ ∃ ws, TupAt s2.heap b ws)) ∧ s.heap.get? I = none ∧ st H2 ∧ l.length ≤ 2000000 ∧ K l st H2
theorem itr_str (hA : AOk D k A) (I : Addr) (x : Str) (t : Tok) (ha : x.cps.all (· < 128) = true) : Itr D A I [I] (x.cps.toList.map fun c => V.str ⟨#[c]⟩) (fun _ => True) (fun _ i h => h.IsStrIter I "str_ascii_iterator" x t i) where
  mem := by simp
  frame := fun γ γ' i h h' iv _ hk _ => by
    refine e1_3 iv fun o e c d => ?_
    exact ⟨o, hk I (by simp) o e, c, d⟩
  notTup := fun γ i h ws iv q => by
    refine e1_3 iv fun o e c d => ?_
    refine e1_2 q fun m e' _ => ?_
    rw [e] at e'; cases e'; simp at c
  nd := fun γ i h iv b hb o e => by
    refine e1_3 iv fun o' e' c d => ?_
    rw [List.mem_singleton.mp hb, e'] at e; obtain rfl := Option.some.inj e; exact notD_fields d
  next := fun γ H s i W Q E hl R hI _ iv hQ => by
    rw [List.getElem?_map, Option.map_eq_some_iff] at hl
    refine e1_2 hl fun c hc e_167 => ?_
    obtain rfl := e_167
    have hc' : x.cps[i]? = some c := by simpa using hc
    refine wpAny_pyNext_ascii_item iv hc' fun h' hit hs => ?_
    refine hQ _ h' _ (let ⟨o, e, _⟩ := hit; ⟨o, e⟩) (fun b o hb e => hs.extBut b o hb e) hit ?_
    have hlt : c < 128 := by simpa using (Array.all_eq_true'.mp ha) c (Array.mem_of_getElem? hc')
    exact rep_s ⟨by show 1 ≤ 2000000; decide, strOk_iff.mpr fun d hd => by simp at hd; lia⟩
  done := fun γ H s Q E R _ iv hQ => wpAny_pyNext_ascii_end hA.handled iv (by simp) fun h' he => hQ h' s.toks fun b o hb e => he b o hb e
  self := fun γ i s Q E iv q => wpAny_pyIter_striter_ascii iv q
  own := fun γ i s T elts x1 pos Q E iv q => let ⟨_, e, c, _⟩ := iv; own_of e c (by decide) q
theorem grow_push {s : Shared} (o : Obj) : ∀ b o', s.heap.get? b = some o' → (s.heap.push o).get? b = some o' := fun _ _ e => Heap.get?_push_of_some _ e
theorem nin_end {γ : List Addr} {H : Hp} {s : Shared} (R : HRel D γ H s.heap) : s.heap.objs.size ∉ γ := (R.nin (none_end _)).1
theorem none_back {γ γ0 : List Addr} {H : Hp} {s s0 : Shared} (st : Stp [] γ0 γ s0 s) (R : HRel D γ H s.heap) {a : Addr} (hn : s.heap.get? a = none) : s0.heap.get? a = none := by
  cases q : s0.heap.get? a with
  | none => rfl
  | some o =>
    by_cases hg : a ∈ γ0
    · refine e1_2 (st.ext) fun δ e _ => ?_
      exact absurd (by rw [e]; exact List.mem_append_left _ hg) (R.nin hn).1
    · obtain ⟨o', e'⟩ := st.live hg (fun h => nomatch h) q
      rw [hn] at e'; exact no_some e'
theorem stp_push {γ : List Addr} {s : Shared} {o : Obj} {tk : Nat} : Stp [] γ γ s { s with heap := s.heap.push o, toks := tk } := stp_grow (grow_push o)
theorem fp_one {γ : List Addr} {H : Hp} {s : Shared} {o : Obj} (R : HRel D γ H s.heap) (ho : o.isFreed = false) : ∀ b ∈ [s.heap.objs.size], b ∉ γ ∧ (∃ o', (s.heap.push o).get? b = some o') ∧ (b = s.heap.objs.size ∨ ∃ ws, TupAt (s.heap.push o) b ws) := fun b hb => by
  rw [List.mem_singleton.mp hb]
  exact ⟨nin_end R, ⟨_, Heap.get?_push_size _ ho⟩, .inl rfl⟩
theorem val_src {γ : List Addr} {H : Hp} {s : Shared} {v : Value} {W : V} {K : List V → (Hp → Prop) → Hp → Prop} {E : Value → Shared → Prop} (hA : AOk D k A) (R : HRel D γ H s.heap) (r : Rep D γ s.heap v W)
    (h : pVal W H (fun l st => K l st H)) : wpAny D.M A (pyIter v) (SrcPost D A γ s K) E s := by
  cases W with
  | tup l =>
    replace h : K l (fun _ => True) H := h
    refine e2_3 r fun t vs e_168 ta rs => ?_
    obtain rfl := e_168
    have hlt : t < s.heap.objs.size := by obtain ⟨n, e, _⟩ := ta; exact Heap.lt_size e
    have htg : t ∉ γ := fun hm => (R.alive hm).2 vs ta
    refine wpAny_pyIter_tuple ta.isTuple ?_
    refine ⟨γ, H, s.heap.objs.size, [s.heap.objs.size, t], l, fun _ => True, tupInv D s.heap.objs.size t vs l, rfl, stp_push (tk := s.toks), R.grow (grow_push _), itr_tup hA _ t (Nat.ne_of_lt hlt) vs l, ?_, ?_, none_end _, trivial, by rw [← rs.length]; exact ta.size, h⟩
    · exact ⟨⟨_, Heap.get?_push_size _ rfl, rfl, rfl⟩, tupAt_grow (grow_push _) ta, Reps.mono ⟨[], by simp⟩ (fun _ _ => tupAt_grow (grow_push _)) rs⟩
    · intro b hb
      simp at hb
      rcases hb with rfl | rfl
      · exact ⟨nin_end R, ⟨_, Heap.get?_push_size _ rfl⟩, .inl rfl⟩
      · have ta' := tupAt_grow (grow_push { cls := .type "tuple_iterator", data := .fields #[.ref b, .int 0 0] }) ta
        refine e1_2 (id ta') fun n e _ => ?_
        exact ⟨htg, ⟨_, e⟩, .inr ⟨vs, ta'⟩⟩
  | str x =>
    obtain ⟨ha, h⟩ := h
    refine e1_2 r fun t e_169 f => ?_
    obtain rfl := e_169
    refine wpAny_pyIter_strU ?_
    have ety : strIterType x = "str_ascii_iterator" := by unfold strIterType; rw [ha]; rfl
    rw [ety]
    refine ⟨γ, H, s.heap.objs.size, [s.heap.objs.size], _, fun _ => True, fun _ i h => h.IsStrIter s.heap.objs.size "str_ascii_iterator" x t i, rfl, stp_push (tk := s.toks), R.grow (grow_push _), itr_str hA _ x t ha, ?_, ?_, none_end _, trivial, by simpa using (show x.cps.size ≤ 2000000 from f.1), h⟩
    · exact ⟨_, Heap.get?_push_size _ rfl, rfl, rfl⟩
    · exact fp_one R rfl
  | ref j =>
    refine e1_2 (oK_elim (show oK (listAt H j) _ from h)) fun l hl h => ?_
    refine e1_2 r fun a hj e_170 => ?_
    obtain rfl := e_170
    refine e2_3 (R.list hj hl) fun vs n e rs z => ?_
    refine wpAny_pyIter_list (items := vs.toArray) ⟨_, e, rfl, n, rfl⟩ ?_
    refine ⟨γ, H, s.heap.objs.size, [s.heap.objs.size], l, fun H' => listAt H' j = some l, lstInv s.heap.objs.size a j, rfl, stp_push (tk := s.toks), R.grow (grow_push _), itr_list hA _ a j l, ?_, ?_, none_end _, hl, by rw [← rs.length]; exact z, h⟩
    · exact ⟨⟨_, Heap.get?_push_size _ rfl, rfl, rfl⟩, hj⟩
    · exact fp_one R rfl
  | _ => exact h.elim
theorem range_src {γ : List Addr} {H : Hp} {s s0 : Shared} {r : Addr} {a b : Int} {t u v : Tok} {K : List V → (Hp → Prop) → Hp → Prop} {E : Value → Shared → Prop} {γ0 : List Addr} (hA : AOk D k A) (st : Stp [] γ0 γ s0 s) (R : HRel D γ H s.heap)
    (hr : IsRange s.heap r a b 1 t u v) (ha : -(2 ^ 62) ≤ a) (ha' : a < 2 ^ 62) (hb : -(2 ^ 62) ≤ b) (hb' : b < 2 ^ 62) (hz : b - a ≤ 1000000) (h : K (rangeL a b) (fun _ => True) H) : wpAny D.M A (pyIter (.ref r)) (SrcPost D A γ0 s0 K) E s := by
  refine wpAny_pyIter_range hr (small_one ha ha' hb hb') ?_
  have hsz : Builtin.Range.rangeSize a b 1 = (((b - a).toNat : Nat) : Int) := by rw [rangeSize_one]; split <;> lia
  refine ⟨γ, H, s.heap.objs.size, [s.heap.objs.size], rangeL a b, fun _ => True, rangeInv s.heap.objs.size a (b - a).toNat, rfl, st.trans0 R (stp_push (tk := s.toks)), R.grow (grow_push _), itr_range hA _ a _, ?_, ?_, none_back st R (none_end _), trivial, by simp [rangeL]; lia, h⟩
  · show (s.heap.push _).get? s.heap.objs.size = some _
    rw [Heap.get?_push_size _ rfl, hsz]
    simp
  · exact fp_one R rfl
theorem rev_src {γ : List Addr} {H : Hp} {s s0 : Shared} {x : Value} {j : Nat} {l : List V} {K : List V → (Hp → Prop) → Hp → Prop} {E : Value → Shared → Prop} {γ0 : List Addr} (hA : AOk D k A) (st : Stp [] γ0 γ s0 s) (R : HRel D γ H s.heap)
    (rv : Rep D γ s.heap x (.ref j)) (hl : listAt H j = some l) (h : K l.reverse (fun H' => listAt H' j = some l) H) : wpAny D.M A (call (.type "reversed") [x]) (fun x s1 => wpAny D.M A (pyIter x) (SrcPost D A γ0 s0 K) E s1) E s := by
  refine e1_2 rv fun a hj e_171 => ?_
  obtain rfl := e_171
  refine e2_3 (R.list hj hl) fun vs n e rs z => ?_
  refine call_reversed_list (items := vs.toArray) ⟨_, e, rfl, n, rfl⟩ ?_
  have hit : (s.heap.push (revObj a ((vs.toArray.size : Int) - 1))).IsRevIter s.heap.objs.size a ((l.length : Int) - 1 - ((0 : Nat) : Int)) := by
    refine ⟨_, Heap.get?_push_size _ rfl, rfl, ?_⟩
    simp [revObj, rs.length]
  refine wpAny_pyIter_revIter hit ?_
  refine ⟨γ, H, s.heap.objs.size, [s.heap.objs.size], l.reverse, fun H' => listAt H' j = some l, revInv s.heap.objs.size a j l, rfl, st.trans0 R (stp_push (tk := s.toks)), R.grow (grow_push _), itr_rev hA _ a j l, ⟨hit, hj⟩, fp_one R rfl, none_back st R (none_end _), hl, by rw [List.length_reverse, ← rs.length]; exact z, h⟩
theorem SrcPost.back {γ γ1 : List Addr} {H1 : Hp} {s s1 s2 : Shared} {K : List V → (Hp → Prop) → Hp → Prop} {it : Value} (t : Stp [] γ γ1 s s1) (R : HRel D γ1 H1 s1.heap) (h : SrcPost D A γ1 s1 K it s2) : SrcPost D A γ s K it s2 := by
  obtain ⟨γ2, H2, I, fp, l, st, Inv, e, t2, R2, it, iv, hf, hn, hs, hK⟩ := h
  refine ⟨γ2, H2, I, fp, l, st, Inv, e, t.trans0 R t2, R2, it, iv, hf, ?_, hs, hK⟩
  exact none_back t R hn
end
section
variable {D : Wd} {Φ : Orc} {k : Nat} {c : CC}
theorem src_val {iter : Expr} {ie : IE} {env : Env} {A : Around} {γ : List Addr} {H : Hp} {s : Shared} {L : Lc} {X : XL} {K : List V → (Hp → Prop) → Hp → Prop} (ih : SE D Φ k c iter ie) (hE : EnvOk c env) (hA : AOk D k A) (R : HRel D γ H s.heap)
    (lr : LRel D γ env c.slots s.heap L) (w : (wp2 Φ ie).E L H (fun v H1 => pVal v H1 (fun l st => K l st H1)) X) :
    wpAny D.M A (eval iter env) (fun x s1 => wpAny D.M A (pyIter x) (SrcPost D A γ s K) (PostX D γ s X) s1) (PostX D γ s X) s := by
  refine andThen (ih env A γ H s L _ X hE hA R lr w) ?_
  intro v s1 γ1 V H1 st R1 rv q
  exact wpAny_mono (val_src hA R1 rv q) (fun it s2 p => p.back st R1) fun _ _ x => x
theorem src_call {n : Nat} {g0 : Str} {gp pos : Pos} {as : List Expr} {ies : List IE} {T : Ty} {env : Env} {A : Around} {γ : List Addr} {H : Hp} {s : Shared} {L : Lc} {X : XL} {P : List V → Hp → Prop} {R' : Value → Shared → Prop} (g : GOk D c.G c.mts) (ih : ∀ e ie, compE n c e = some ie → SE D Φ k c e ie)
    (hW : globV c g0 = some (.ty T)) (hs : as.any isStar = false) (ha : mapO (compE n c) as = some ies) (hE : EnvOk c env) (hA : AOk D k A) (R : HRel D γ H s.heap) (lr : LRel D γ env c.slots s.heap L) (w : wpEs Φ ies L H P X)
    (hq : ∀ γ2 H2 s2 xs Ws, Stp [] γ γ2 s s2 → HRel D γ2 H2 s2.heap → Reps D γ2 s2.heap xs Ws → P Ws H2 → wpAny D.M A (call (.type T.name) xs) R' (PostX D γ s X) s2) :
    wpAny D.M A (eval (.Call (.Name g0 gp) as [] pos) env) R' (PostX D γ s X) s := by
  refine wpAny_Call_ofName (andThen (name_ok (Φ := Φ) (Q := fun V H' => V = .ty T ∧ H' = H) g hE R lr (globV_lit hW) ⟨rfl, rfl⟩) ?_)
  intro vf s1 γ1 Vf H1 st R1 rf q
  obtain ⟨rfl, rfl⟩ := q
  obtain rfl := rf
  rw [starEach_of hs]
  refine PyProof.Rows.callWith_type (by simp) (wpAny_mono (evalArgs_ok ih hE hA ha R1 (lr.stp R st) w) (fun b s2 hb => ?_) fun _ _ x => x.back st R1)
  obtain ⟨ps, kw⟩ := b
  obtain ⟨hkw, γ2, Vs, H2, st2, R2, rv, q⟩ := hb
  obtain rfl : kw = [] := hkw
  exact hq γ2 H2 s2 ps Vs (st.trans0 R1 st2) R2 rv q
theorem srcK_some {W : V} {kk : SrcK} (h : srcK W = some kk) : (W = .ty .range ∧ kk = .range) ∨ (W = .ty .reversed ∧ kk = .rev) := by
  cases W with
  | ty t => cases t with
    | range => exact .inl ⟨rfl, (Option.some.inj h).symm⟩
    | reversed => exact .inr ⟨rfl, (Option.some.inj h).symm⟩
    | _ => exact no_some h
  | _ => exact no_some h
theorem src_ok {n : Nat} {iter : Expr} {kk : SrcK} {ie : IE} {env : Env} {A : Around} {γ : List Addr} {H : Hp} {s : Shared} {L : Lc} {X : XL} {K : List V → (Hp → Prop) → Hp → Prop} (g : GOk D c.G c.mts) (ih : ∀ e ie, compE n c e = some ie → SE D Φ k c e ie)
    (hc : compSrc (compE n c) c iter = some (kk, ie)) (hE : EnvOk c env) (hA : AOk D k A) (R : HRel D γ H s.heap)
    (lr : LRel D γ env c.slots s.heap L) (w : (wp2 Φ ie).E L H (fun v H1 => pSrc kk v H1 (fun l st => K l st H1)) X) :
    wpAny D.M A (eval iter env) (fun x s1 => wpAny D.M A (pyIter x) (SrcPost D A γ s K) (PostX D γ s X) s1) (PostX D γ s X) s := by
  unfold compSrc at hc
  cases hs : srcN c iter with
  | none =>
    rw [hs] at hc
    refine e1_2 (Option.map_eq_some_iff.mp hc) fun v hv he => ?_
    cases he
    exact src_val (ih _ _ hv) hE hA R lr w
  | some ka =>
    rw [hs] at hc
    refine e3_2 (onCall_some hs) fun f as p e_172 hs => ?_
    obtain rfl := e_172
    refine e2_2 (onName_some hs) fun g0 px e_173 hs => ?_
    obtain rfl := e_173
    refine e1_2 (Option.map_eq_some_iff.mp hs) fun k' hk e_174 => ?_
    obtain rfl := e_174
    refine e1_2 (Option.bind_eq_some_iff.mp hk) fun W hW hk => ?_
    cases as with
    | nil => exact no_some hc
    | cons a r =>
      obtain ⟨hst, hc⟩ := onlyIf_some (show onlyIf (!isStar a) _ = some (kk, ie) from hc)
      have one : ∀ {v}, compE n c a = some v → mapO (compE n c) [a] = some [v] := fun h => by show (compE n c a).bind _ = _; rw [h]; rfl
      have st1 : [a].any isStar = false := by rw [List.any_cons, bnot hst]; rfl
      rcases srcK_some hk with ⟨rfl, rfl⟩ | ⟨rfl, rfl⟩
      · cases r with
        | nil =>
          refine e1_2 (Option.map_eq_some_iff.mp hc) fun v hv he => ?_
          cases he
          refine src_call (P := fun vs H' => on1P vs fun v => pSrc .range v H' (fun l st => K l st H')) g ih hW st1 (one hv) hE hA R lr w fun γ2 H2 s2 xs Ws st R2 rxs q0 => ?_
          refine e1_2 (on1P_elim q0) fun W e_175 q => ?_
          obtain rfl := e_175
          refine e2_3 rxs fun x r e_176 rx e_177 => ?_
          obtain rfl := e_176
          obtain rfl := e_177
          refine e1_3 (oK_elim (show oK (intV W) _ from q)) fun b hb q2 h => ?_
          rw [intV_some hb] at rx
          obtain ⟨t, rfl⟩ := rx
          exact call_range_1 (range_src (s0 := s) (γ0 := γ) (γ := γ2) (H := H2) hA (st.trans0 R2 stp_push) (R2.grow (grow_push _)) (IsRange.new _ _ _ _ _ _ _) (by decide) (by decide) q2.1 (by lia) (by lia) h)
        | cons b r =>
          obtain ⟨hst2, hc2⟩ := onlyIf_some (show onlyIf (!isStar b && r.isEmpty) _ = some (kk, ie) from hc)
          rw [Bool.and_eq_true] at hst2
          obtain rfl : r = [] := List.isEmpty_iff.mp hst2.2
          refine e2_3 (oTwo_some hc2) fun v v' hv hv' he => ?_
          cases he
          refine src_call (P := fun vs H' => vs.length ≤ 1000000 ∧ pSrc .range2 (.tup vs) H' (fun l st => K l st H')) g ih hW (by rw [List.any_cons, List.any_cons, bnot hst, bnot hst2.1]; rfl) (by show (compE n c a).bind _ = _; rw [hv]; show (((compE n c b).bind _).map _) = _; rw [hv']; rfl) hE hA R lr w fun γ2 H2 s2 xs Ws st R2 rxs q0 => ?_
          refine e2_2 (on2P_elim (show on2P Ws _ from q0.2)) fun W W' e_178 q2 => ?_
          obtain rfl := e_178
          obtain ⟨x, r, rfl, rx, x', r', rfl, rx', rfl⟩ := rxs
          refine e2_4 (pInt_elim q2) fun i j e_182 e_183 q3 h => ?_
          obtain rfl := e_182
          obtain rfl := e_183
          obtain ⟨t, rfl⟩ := rx; obtain ⟨t', rfl⟩ := rx'
          exact call_range_2 (range_src (s0 := s) (γ0 := γ) (γ := γ2) (H := H2) hA (st.trans0 R2 stp_push) (R2.grow (grow_push _)) (IsRange.new _ _ _ _ _ _ _) q3.1 q3.2.1 q3.2.2.1 q3.2.2.2.1 q3.2.2.2.2 h)
      · obtain ⟨hr, hc2⟩ := onlyIf_some (show onlyIf r.isEmpty _ = some (kk, ie) from hc)
        obtain rfl : r = [] := List.isEmpty_iff.mp hr
        refine e1_2 (Option.map_eq_some_iff.mp hc2) fun v hv he => ?_
        cases he
        refine src_call (P := fun vs H' => on1P vs fun v => pSrc .rev v H' (fun l st => K l st H')) g ih hW st1 (one hv) hE hA R lr w fun γ2 H2 s2 xs Ws st R2 rxs q0 => ?_
        refine e1_2 (on1P_elim q0) fun W e_184 q => ?_
        obtain rfl := e_184
        refine e2_3 rxs fun x r e_185 rx e_186 => ?_
        obtain rfl := e_185
        obtain rfl := e_186
        refine e1_2 (oK_elim (show oK (refV W) _ from q)) fun j hj q2 => ?_
        rw [refV_some hj] at rx
        refine e1_2 (oK_elim q2) fun l hl q3 => ?_
        exact rev_src hA st R2 rx hl q3
end
end Mine
namespace Mine
open PySem PyProof.Rows
noncomputable def closGo (env : Env) : List (Str × NameKind) → List (Str × Addr) → List (Str × Addr)
  | [], acc => acc
  | (n, k) :: r, acc => if k == .free then (match env.cells.lookup n with | some a => closGo env r ((n, a) :: acc) | none => closGo env r acc) else closGo env r acc
theorem closGo_eq {env : Env} : ∀ (names : List (Str × NameKind)) (acc : List (Str × Addr)), (∀ x ∈ names, x.2 = .free → ∃ a, env.cells.lookup x.1 = some a) →
    (forIn names acc (fun (x : Str × NameKind) (cs : List (Str × Addr)) => (if x.2 == .free then (do let c ← cellOf env x.1; pure (ForInStep.yield ((x.1, c) :: cs))) else pure (ForInStep.yield cs) : Sem (ForInStep (List (Str × Addr)))))) = pure (closGo env names acc)
  | [], acc, _ => rfl
  | (n, k) :: r, acc, h => by
    have hr : ∀ x ∈ r, x.2 = .free → ∃ a, env.cells.lookup x.1 = some a := fun x hx => h x (List.mem_cons_of_mem _ hx)
    rw [List.forIn_cons, closGo]
    cases hk : (k == NameKind.free) with
    | true =>
      have hk' : k = .free := by simpa using hk
      obtain ⟨a, ha⟩ := h (n, k) List.mem_cons_self hk'
      have : cellOf env n = pure a := by unfold cellOf; simp only at ha; rw [ha]
      simp only at ha
      simp only [if_true, this, ha, pure_bind]
      exact closGo_eq r _ hr
    | false =>
      simp only [Bool.false_eq_true, if_false, pure_bind]
      exact closGo_eq r _ hr
theorem closureFor_go {env : Env} {scope : Scope} (h : ∀ x ∈ scope.names, x.2 = .free → ∃ a, env.cells.lookup x.1 = some a) : closureFor scope env = pure (closGo env scope.names []) := by
  have := closGo_eq scope.names [] h
  unfold closureFor
  have e : (forIn scope.names ([] : List (Str × Addr)) fun x r => (do if (x.2 == NameKind.free) = true then (do let c ← cellOf env x.1; pure (ForInStep.yield ((x.1, c) :: r))) else pure (ForInStep.yield r) : Sem (ForInStep (List (Str × Addr))))) = pure (closGo env scope.names []) := this
  exact (congrArg (fun m : Sem (List (Str × Addr)) => m >>= fun cs => pure cs) e)
theorem closGo_mem {env : Env} : ∀ (names : List (Str × NameKind)) (acc : List (Str × Addr)), (∀ n a, (n, a) ∈ acc → env.cells.lookup n = some a) → ∀ n a, (n, a) ∈ closGo env names acc → env.cells.lookup n = some a
  | [], acc, h, n, a, hm => h n a hm
  | (m, k) :: r, acc, h, n, a, hm => by
    rw [closGo] at hm
    split at hm
    · split at hm
      · rename_i b hb
        refine closGo_mem r _ ?_ n a hm
        intro n' a' hm'
        rcases List.mem_cons.mp hm' with q | q
        · cases q; exact hb
        · exact h n' a' q
      · exact closGo_mem r _ h n a hm
    · exact closGo_mem r _ h n a hm
theorem closGo_keep {env : Env} : ∀ (names : List (Str × NameKind)) (acc : List (Str × Addr)) n a, (n, a) ∈ acc → (n, a) ∈ closGo env names acc
  | [], _, _, _, h => h
  | (m, k) :: r, acc, n, a, h => by
    rw [closGo]
    split
    · split
      · exact closGo_keep r _ n a (List.mem_cons_of_mem _ h)
      · exact closGo_keep r _ n a h
    · exact closGo_keep r _ n a h
theorem closGo_has {env : Env} : ∀ (names : List (Str × NameKind)) (acc : List (Str × Addr)) n a, (n, NameKind.free) ∈ names → env.cells.lookup n = some a → (n, a) ∈ closGo env names acc
  | (m, k) :: r, acc, n, a, h, hl => by
    rw [closGo]
    rcases List.mem_cons.mp h with q | q
    · cases q
      simp only [beq_self_eq_true, if_true, hl]
      exact closGo_keep r _ _ _ List.mem_cons_self
    · split
      · split
        · exact closGo_has r _ n a q hl
        · exact closGo_has r _ n a q hl
      · exact closGo_has r _ n a q hl
theorem lookup_of_mem {l : List (Str × Addr)} {n : Str} {a : Addr} (h : (n, a) ∈ l) : ∃ b, l.lookup n = some b := by
  cases e : l.lookup n with
  | some b => exact ⟨b, rfl⟩
  | none =>
    have := List.lookup_eq_none_iff.mp e (n, a) h
    simp at this
theorem closGo_lookup {env : Env} {names : List (Str × NameKind)} {n : Str} (h : (n, NameKind.free) ∈ names) {a : Addr} (hl : env.cells.lookup n = some a) : (closGo env names []).lookup n = some a := by
  obtain ⟨b, hb⟩ := lookup_of_mem (closGo_has names [] n a h hl)
  have := closGo_mem names [] (by simp) n b (mem_of_lookup hb)
  rw [hl] at this; cases this; exact hb
theorem relab_cell {scope outer : Scope} {y : Str} (h : (relab scope outer).names.lookup y = some .cell) : (y, NameKind.cell) ∈ scope.names ∨ ((y, NameKind.free) ∈ scope.names ∧ outer.names.lookup y = some .cell) := by
  unfold relab at h
  simp only at h
  revert h
  generalize scope.names = l
  induction l with
  | nil => intro h; exact no_some h
  | cons p r ih =>
    obtain ⟨n, k⟩ := p
    intro h
    simp only [List.map_cons] at h
    have next : (r.map fun x => if (x.2 == NameKind.free && outer.kind == .function && outer.names.lookup x.1 == some .cell) then (x.1, NameKind.cell) else (x.1, x.2)).lookup y = some .cell → (y, NameKind.cell) ∈ (n, k) :: r ∨ ((y, NameKind.free) ∈ (n, k) :: r ∧ outer.names.lookup y = some .cell) := fun h => by
      rcases ih h with q | ⟨a, b⟩
      · exact .inl (List.mem_cons_of_mem _ q)
      · exact .inr ⟨List.mem_cons_of_mem _ a, b⟩
    by_cases hc : (k == NameKind.free && outer.kind == .function && outer.names.lookup n == some .cell) = true
    · rw [if_pos hc, List.lookup_cons] at h
      cases hy : y == n with
      | true =>
        obtain rfl : y = n := eq_of_beq hy
        rw [Bool.and_eq_true, Bool.and_eq_true, beq_iff_eq, beq_iff_eq] at hc
        exact .inr ⟨by rw [hc.1.1]; exact List.mem_cons_self, eq_of_beq hc.2⟩
      | false => rw [hy] at h; exact next h
    · rw [if_neg hc, List.lookup_cons] at h
      cases hy : y == n with
      | true =>
        obtain rfl : y = n := eq_of_beq hy
        rw [hy] at h
        obtain rfl := Option.some.inj h
        exact .inl List.mem_cons_self
      | false => rw [hy] at h; exact next h
theorem relab_at {scope outer : Scope} {y : Str} {k : NameKind} (hk : k ≠ .free) (h : scope.names.lookup y = some k) : (relab scope outer).names.lookup y = some k := by
  unfold relab
  revert h
  show scope.names.lookup y = some k → (scope.names.map _).lookup y = some k
  generalize scope.names = l
  induction l with
  | nil => intro h; exact no_some h
  | cons p r ih =>
    obtain ⟨n, k'⟩ := p
    intro h
    rw [List.lookup_cons] at h
    rw [List.map_cons]
    cases hy : y == n with
    | true =>
      rw [hy] at h
      obtain rfl := Option.some.inj h
      have : (k' == NameKind.free && outer.kind == .function && outer.names.lookup n == some .cell) = false := by
        rw [show (k' == NameKind.free) = false from beq_eq_false_iff_ne.mpr hk]; rfl
      simp only [this, Bool.false_eq_true, if_false]
      rw [List.lookup_cons, hy]
    | false =>
      rw [hy] at h
      have e : ∀ k2, ((n, k2) :: r.map fun x => if (x.2 == NameKind.free && outer.kind == .function && outer.names.lookup x.1 == some .cell) then (x.1, NameKind.cell) else (x.1, x.2)).lookup y = some k := fun k2 => by
        rw [List.lookup_cons, hy]; exact ih h
      by_cases hc : (k' == NameKind.free && outer.kind == .function && outer.names.lookup n == some .cell) = true
      · simp only [hc, if_true]; exact e _
      · simp only [hc]; exact e _
theorem cells_none : ∀ {names : List (Str × NameKind)} {n : Nat} {acc : List (Str × Addr)} {h : Heap}, names.filter isCell = [] → cellsFrom n names acc = acc ∧ pushCells h names = h
  | [], _, _, _, _ => ⟨rfl, rfl⟩
  | (y, k) :: r, n, acc, h, e => by
    rw [List.filter_cons] at e
    cases hk : isCell (y, k) with
    | true => rw [hk] at e; exact absurd e (List.cons_ne_nil _ _)
    | false =>
      rw [hk] at e
      have hk : (k == NameKind.cell) = false := hk
      unfold cellsFrom pushCells
      rw [hk]
      exact cells_none (names := r) e
theorem cells_one : ∀ {names : List (Str × NameKind)} {x : Str} {n : Nat} {acc : List (Str × Addr)} {h : Heap}, names.filter isCell = [(x, .cell)] → cellsFrom n names acc = (x, n) :: acc ∧ pushCells h names = h.push { cls := .type "cell", data := .cell none }
  | [], _, _, _, _, e => absurd e.symm (List.cons_ne_nil _ _)
  | (y, k) :: r, x, n, acc, h, e => by
    rw [List.filter_cons] at e
    cases hk : isCell (y, k) with
    | true =>
      rw [hk] at e
      have hk : (k == NameKind.cell) = true := hk
      obtain ⟨e1, e2⟩ := List.cons.inj (show (y, k) :: r.filter isCell = _ from e)
      obtain rfl : y = x := congrArg Prod.fst e1
      unfold cellsFrom pushCells
      rw [hk]
      exact cells_none (names := r) e2
    | false =>
      rw [hk] at e
      have hk : (k == NameKind.cell) = false := hk
      unfold cellsFrom pushCells
      rw [hk]
      exact cells_one (names := r) e
theorem relab_local {scope outer : Scope} {y : Str} (h : (relab scope outer).names.lookup y = some .local) : (y, NameKind.local) ∈ scope.names := by
  unfold relab at h
  simp only at h
  revert h
  generalize scope.names = l
  induction l with
  | nil => intro h; simp at h
  | cons p r ih =>
    obtain ⟨n, k⟩ := p
    intro h
    simp only [List.map_cons] at h
    by_cases hc : (k == NameKind.free && outer.kind == .function && outer.names.lookup n == some .cell) = true
    · rw [if_pos hc] at h
      rw [List.lookup_cons] at h
      cases hy : y == n with
      | true => rw [hy] at h; simp at h
      | false => rw [hy] at h; exact List.mem_cons_of_mem _ (ih h)
    · rw [if_neg hc] at h
      rw [List.lookup_cons] at h
      cases hy : y == n with
      | true =>
        rw [hy] at h
        have : y = n := by simpa using hy
        subst this
        simp only at h
        cases h
        exact List.mem_cons_self
      | false => rw [hy] at h; exact List.mem_cons_of_mem _ (ih h)
end Mine
namespace Mine
open PySem PyProof.Rows
theorem base_none {D : Wd} {γ : List Addr} {H : Hp} {s : Shared} (R : HRel D γ H s.heap) {z : Addr} (h : s.heap.get? z = none) : D.hB.get? z = none := by
  cases e : D.hB.get? z with
  | none => rfl
  | some o => have := R.base _ _ e; rw [h] at this; cases this
noncomputable def frA (D : Wd) : List Addr := D.fr.filterMap (·.frame)
theorem FrsOk.at {D : Wd} {γ : List Addr} {h : Heap} (f : FrsOk D γ h) {b : Addr} (hb : b ∈ frA D) : (D.hB.get? b = none ∧ b ∉ γ) ∧ ∃ o, h.get? b = some o ∧ ¬ NotD o := by
  refine e1_2 (List.mem_filterMap.mp hb) fun e he hf => ?_
  obtain ⟨k, L, o, a, b', n, c, d⟩ := f e he
  rw [hf] at a; obtain rfl := Option.some.inj a
  exact ⟨⟨b', n⟩, o, c, d⟩
theorem frsFun {h base : Heap} : ∀ {l : List Env}, (∀ e ∈ l, e.scope.kind = .function ∧ ∃ (L : Addr) (o : Obj), e.frame = some L ∧ base.get? L = none ∧ h.get? L = some o ∧ ¬ NotD o) → h.FunFrames base l
  | [], _ => trivial
  | e :: r, f => by
    obtain ⟨k, L, o, a, b, c, d⟩ := f e List.mem_cons_self
    exact ⟨(by rw [k]; intro q; cases q), ⟨L, o, a, b, c, fun vs q => d (notD_fields q)⟩, frsFun fun e he => f e (List.mem_cons_of_mem _ he)⟩
structure Land (ex : List Addr) (h h' : Heap) : Prop where
  stays : ∀ b o, b ∉ ex → h.get? b = some o → h'.get? b = some o
  up : h.UpToSlots h'
structure ExF (D : Wd) (γ : List Addr) (s : Shared) (h : Heap) (ex : List Addr) : Prop where
  each : ∀ b ∈ ex, b ∈ frA D ∨ (s.heap.get? b = none ∧ D.hB.get? b = none ∧ b ∉ γ ∧ ∃ o vs, h.get? b = some o ∧ o.data = .fields vs)
  frs : ∀ b ∈ frA D, b ∈ ex
theorem Land.of {ex : List Addr} {h h' : Heap} (st : (PySem.W.hideAll h ex).StaysIn h') (up : h.UpToSlots h') : Land ex h h' := ⟨fun b o hb e => st b o (PySem.W.hideAll_get _ e hb), up⟩
section
variable {D : Wd} {γ γ1 γ0 : List Addr} {H H1 H0 : Hp} {s s1 : Shared} {env : Env} {slots : List (Str × Nat)} {L : Lc} {ex : List Addr} {h h' : Heap}
theorem Land.same (l : Land ex h h') (F : FrsOk D γ h) (X : ExF D γ s h ex) {b : Addr} {o : Obj} (nd : NotD o) (nf : ∀ vs, o.data ≠ .fields vs) (e : h.get? b = some o) : h'.get? b = some o :=
  l.stays b o (fun hb => by
    rcases X.each b hb with q | ⟨_, _, _, o', vs, e', d⟩
    · obtain ⟨_, o', e', d⟩ := F.at q
      rw [e] at e'; obtain rfl := Option.some.inj e'; exact d nd
    · rw [e] at e'; obtain rfl := Option.some.inj e'; exact nf vs d) e
theorem Land.tup (l : Land ex h h') (F : FrsOk D γ h) (X : ExF D γ s h ex) {a : Addr} {vs : List Value} (t : TupAt h a vs) : TupAt h' a vs := by
  refine e1_2 t fun n e z => ?_
  exact ⟨n, l.same F X (notD_seq rfl) (fun vs q => by cases q) e, z⟩
theorem Land.frs (l : Land ex h h') (F : FrsOk D γ h) : FrsOk D γ h' := F.but fun b o _ e d => by
  obtain ⟨sl, e'⟩ := l.up b o e fun vs q => d (notD_fields q)
  exact ⟨_, e', fun q => d q⟩
theorem Land.base (l : Land ex h h') (R : HRel D γ H h) (X : ExF D γ s h ex) : ∀ b o, D.hB.get? b = some o → h'.get? b = some o := fun b o e => l.stays b o (fun hb => by
    rcases X.each b hb with q | ⟨_, q, _⟩
    · obtain ⟨⟨q, _⟩, _⟩ := R.frs.at q; rw [e] at q; exact no_some q.symm
    · rw [e] at q; exact no_some q.symm) (R.base b o e)
theorem Land.rep (l : Land ex h h') (F : FrsOk D γ h) (X : ExF D γ s h ex) {v : Value} {V : V} (r : Rep D γ h v V) : Rep D γ h' v V := Rep.mono ⟨[], by simp⟩ (fun _ _ => l.tup F X) r
theorem Land.rel (l : Land ex h h') (R : HRel D γ H h) (X : ExF D γ s h ex) : HRel D γ H h' where
  len := R.len
  nodup := R.nodup
  objs := fun i a o e1 e2 => (R.objs i a o e1 e2).mono ⟨[], by simp⟩ (fun _ _ => l.tup R.frs X) fun ob e => l.stays a ob (fun hb => by
    have ha := List.mem_of_getElem? e1
    rcases X.each a hb with q | ⟨_, _, q, _⟩
    · exact (R.frs.at q).1.2 ha
    · exact q ha) e
  fresh := R.fresh
  base := l.base R X
  frs := l.frs R.frs
theorem Land.stp {wr : List Addr} (l : Land ex s1.heap h') (F : FrsOk D γ1 s1.heap) (X : ExF D γ1 s s1.heap ex) (st : Stp wr γ γ1 s s1) : Stp wr γ γ1 s { s1 with heap := h' } where
  same := by
    refine e2_1 (st.same) fun h1 t1 e => ?_
    exact ⟨h', t1, by rw [e]⟩
  keepS := fun b o hb hw e => by
    refine e1_2 (st.keepS b o hb hw e) fun sl e1 q => ?_
    by_cases nd : NotD o
    · refine ⟨sl, l.stays b _ (fun hx => ?_) e1, q⟩
      rcases X.each b hx with q' | ⟨q', _⟩
      · obtain ⟨_, o', e', d⟩ := F.at q'
        rw [e1] at e'; cases e'; exact d nd
      · rw [e] at q'; cases q'
    · obtain ⟨sl2, e2⟩ := l.up b _ e1 fun vs q => nd (notD_fields q)
      exact ⟨sl2, e2, fun q => absurd q nd⟩
  ext := st.ext
end
noncomputable def Held (base : Heap) (l : List Env) (e : Addr) (cls a0 : Value) (h : Heap) : Prop :=
  base.StaysIn h ∧ base.get? e = none ∧ h.FunFrames base l ∧ ∃ fl, h.TracedAtW base e cls a0 fl
section
variable {M : Model} {A : Around} {E : Value → Shared → Prop} {s : Shared} {base : Heap} {l : List Env} {e La : Addr} {cls a0 : Value} {Q : Unit → Shared → Prop}
theorem flies (o : Option Addr) (hh : Held base l e cls a0 s.heap) (hQ : ∀ h', Held base l e cls a0 h' → s.heap.UpToSlots h' → Q () { s with heap := h' }) : wpAny M A (setFlight (.ref e) o) Q E s := by
  obtain ⟨f1, f2, f3, fl, oe, vs, T, oT, ts, he, hcls, hd, h1, hnT, hTe, hT, hdT, h3⟩ := hh
  have hz : 3 < ts.size := (Array.getElem?_eq_some_iff.mp h3).1
  have ot : ∀ b, b ≠ T → (s.heap.update T (Obj.mapFields (·.setIfInBounds 3 (o.elim Value.none fun f => rawInt f)))).get? b = s.heap.get? b := fun b hb => Heap.get?_update_other _ _ (Ne.symm hb)
  have nr : ∀ b ob, s.heap.get? b = some ob → (∀ vs, ob.data ≠ .fields vs) → b ≠ T := fun b ob hb hn q => by
    rw [q, hT] at hb; cases hb; exact hn ts hdT
  unfold setFlight
  refine wpAny_bind (wpAny_field he hd h1 ?_)
  rw [if_pos (show (Value.ref T != Value.none) = true from by simp)]
  refine wpAny_setField hT hdT hz (hQ _ ⟨fun b ob hb => (ot b fun q => by rw [q, hnT] at hb; cases hb).trans (f1 b ob hb), f2, f3.of_keeps fun b ob hb hn => ⟨ob, (ot b (nr b ob hb hn)).trans hb, rfl⟩,
    _, oe, vs, T, _, _, (ot e (Ne.symm hTe)).trans he, hcls, hd, h1, hnT, hTe, Heap.get?_update_self _ hT (Obj.isFreed_of_fields (Obj.data_mapFields hdT _)), Obj.data_mapFields hdT _, Array.getElem?_setIfInBounds_self_of_lt hz⟩
    fun b ob hb hn => ⟨ob.slots, (ot b (nr b ob hb hn)).trans hb⟩)
theorem lands (hh : Held base l e cls a0 s.heap) (hQ : ∀ h', Heap.FlyingW base l e cls a0 h' → s.heap.UpToSlots h' → Q () { s with heap := h' }) : wpAny M A (setFlight (.ref e) none) Q E s := by
  obtain ⟨f1, f2, f3, fl, f4⟩ := hh
  exact wpAny_setFlight_noneW f1 f3 f4 fun h' k1 k2 k3 k4 => hQ h' ⟨k1, f2, k2, k3⟩ fun b o hb hn => ⟨o.slots, k4 b o hb hn⟩
theorem came {env : Env} (hh : Held base l e cls a0 s.heap) (hQ : ∀ h', Held base l e cls a0 h' → s.heap.UpToSlots h' → E (.ref e) { s with heap := h' }) : cameBackBy M A env E (.ref e) s := by
  obtain ⟨oe, vs, T, oT, ts, he, hcls, hd, h1, _⟩ := hh.2.2.2.choose_spec
  unfold cameBackBy
  refine wpAny_bind (wpAny_field he hd h1 ?_)
  rw [if_neg (show ¬ ((Value.ref T == Value.none) = true) from by simp)]
  first
    | exact wpAny_bind (wpAny_pure (flies _ hh hQ))
    | exact flies _ hh hQ
theorem noteFrame_same {v : Value} {env cenv : Env} (h : cenv.frame = env.frame) : noteFrame v cenv = noteFrame v env := by
  unfold noteFrame PySem.frameOf
  rw [h]
theorem note_at {env : Env} {outer : List Env} {fl : Value} (hfr : A.frames = some (env :: outer)) (hl : s.heap.FunFrames base (env :: outer)) (hf : env.frame = some La) (ht : s.heap.TracedAtW base e cls a0 fl) (hkb : base.StaysIn s.heap) (hen : base.get? e = none)
    (h : ∀ h', Held base (env :: outer) e cls a0 h' → s.heap.UpToSlots h' → Q () { s with heap := h' }) : wpAny M A (noteFrame (.ref e) env) Q E s := by
  have ht0 := ht
  refine e5_9 ht fun oe vs T oT ts he e_187 hd h1 hnT hTe hT hdT h3 => ?_
  obtain ⟨hcls, h0⟩ := e_187
  unfold noteFrame
  simp only [hf]
  refine wpAny_bind (wpAny_field he hd h1 ?_)
  rw [if_pos (show (Value.ref T != Value.none) = true from by simp)]
  refine wpAny_bind (wpAny_field hT hdT h3 ?_)
  cases hq : (fl == rawInt La) with
  | true =>
    rw [if_pos rfl]
    exact wpAny_pure (h s.heap ⟨hkb, hen, hl, fl, ht0⟩ (Heap.UpToSlots.refl _))
  | false =>
    rw [if_neg (by decide)]
    subst hcls
    refine wpAny_bind (wpAny_setField hT hdT (Array.getElem?_eq_some_iff.mp h3).1 ?_)
    have ot : ∀ b, b ≠ T → (s.heap.update T (Obj.mapFields (·.setIfInBounds 3 Value.none))).get? b = s.heap.get? b := fun b hb => Heap.get?_update_other _ _ (Ne.symm hb)
    have nr : ∀ b ob, s.heap.get? b = some ob → (∀ vs, ob.data ≠ .fields vs) → b ≠ T := fun b ob hb hn q => by
      rw [q, hT] at hb; cases hb; exact hn ts hdT
    refine wpAny_entryW hfr (hl.of_keeps fun b o hb hn => ⟨o, (ot b (nr b o hb hn)).trans hb, rfl⟩) hf ((ot e (Ne.symm hTe)).trans he)
      (fun b o hb => (ot b fun q => by rw [q, hnT] at hb; cases hb).trans (hkb b o hb)) hen hd (Array.getElem?_eq_some_iff.mp h1).1 h0
      fun h' ⟨x1, x2, x3, x4⟩ => h h' ⟨x1, hen, x2, _, x3⟩ fun b o hb hn => x4 b o ((ot b (nr b o hb hn)).trans hb) hn
end
section
variable {D : Wd} {γ γ0 : List Addr} {H H0 : Hp} {s s1 : Shared} {env : Env} {outer : List Env} {A : Around} {E : Value → Shared → Prop} {v : Value} {x : Exc} {La : Addr} {Q : Unit → Shared → Prop}
theorem ex_of (R0 : HRel D γ0 H0 s.heap) (R : HRel D γ H s1.heap) (hx : XNew D γ s s1.heap v x ∨ XFly D γ s s1.heap v x) :
    ∃ a oe vs C a0 ex, v = .ref a ∧ D.mg x.cls = some (.ref C) ∧ s.heap.get? a = none ∧ a ∈ ex ∧ ExF D γ s s1.heap ex ∧ s1.heap.get? a = some oe ∧ oe.cls = .ref C ∧ oe.data = .fields vs ∧ vs[0]? = some a0 ∧
      (vs[1]? = some .none ∨ ∃ fl, s1.heap.TracedAtW (PySem.W.hideAll s1.heap ex) a (.ref C) a0 fl) := by
  rcases hx with ⟨a, oe, vs, C, a0, e1, e2, e3, e4, e5, e6, e7, e8, na⟩ | ⟨a, oe, vs, C, a0, T, oT, ts, e1, e2, e3, e4, e5, e6, e7, e8, e9, e10, e11, e12, na, nT, fl, e13⟩
  · refine ⟨a, oe, vs, C, a0, frA D ++ [a], e1, e5, e2, by simp, ⟨fun b hb => ?_, fun b hb => List.mem_append_left _ hb⟩, e3, e4, e6, e7, .inl e8⟩
    rcases List.mem_append.mp hb with q | q
    · exact .inl q
    · simp at q; subst q; exact .inr ⟨e2, base_none R0 e2, na, oe, vs, e3, e6⟩
  · refine ⟨a, oe, vs, C, a0, frA D ++ [a, T], e1, e5, e2, by simp, ⟨fun b hb => ?_, fun b hb => List.mem_append_left _ hb⟩, e3, e4, e6, e7, .inr ⟨fl, oe, vs, T, oT, ts, e3, ⟨e4, e7⟩, e6, e8, PySem.W.hideAll_none _ (by simp), e10, e11, e12, e13⟩⟩
    rcases List.mem_append.mp hb with q | q
    · exact .inl q
    · simp at q
      rcases q with q | q
      · subst q; exact .inr ⟨e2, base_none R0 e2, na, oe, vs, e3, e6⟩
      · subst q; exact .inr ⟨e9, base_none R0 e9, nT, oT, ts, e11, e12⟩
theorem base_stays {h : Heap} {ex : List Addr} : (PySem.W.hideAll h ex).StaysIn h := fun _ _ e => PySem.W.of_hideAll _ e
theorem frs_fun {h : Heap} {ex : List Addr} (F : FrsOk D γ h) (X : ExF D γ s h ex) : h.FunFrames (PySem.W.hideAll h ex) D.fr := frsFun fun e he => by
  obtain ⟨k, L, o, a, b, _, c, d⟩ := F e he
  exact ⟨k, L, o, a, PySem.W.hideAll_none _ (X.frs L (List.mem_filterMap.mpr ⟨e, he, a⟩)), c, d⟩
theorem note_any (hfr : A.frames = some D.fr) (R0 : HRel D γ0 H0 s.heap) (R : HRel D γ H s1.heap) (htop : D.fr = env :: outer) (hf : env.frame = some La) (hx : XNew D γ s s1.heap v x ∨ XFly D γ s s1.heap v x)
    (h : ∀ a C a0 ex h', v = .ref a → D.mg x.cls = some (.ref C) → s.heap.get? a = none → a ∈ ex → ExF D γ s s1.heap ex → s1.heap.UpToSlots h' → Held (PySem.W.hideAll s1.heap ex) D.fr a (.ref C) a0 h' → Q () { s1 with heap := h' }) :
    wpAny D.M A (noteFrame v env) Q E s1 := by
  obtain ⟨a, oe, vs, C, a0, ex, rfl, hm, hn, hax, X, he, hc, hd, h0, h1⟩ := ex_of R0 R hx
  have F := frs_fun R.frs X
  have hen : (PySem.W.hideAll s1.heap ex).get? a = none := PySem.W.hideAll_none _ hax
  have fin : ∀ h', Held (PySem.W.hideAll s1.heap ex) D.fr a (.ref C) a0 h' → s1.heap.UpToSlots h' → Q () { s1 with heap := h' } := fun h' k1 k2 => h a C a0 ex h' rfl hm hn hax X k2 k1
  rw [htop] at F fin hfr
  rcases h1 with h1 | ⟨fl, h1⟩
  · unfold noteFrame
    simp only [hf]
    refine wpAny_bind (wpAny_field he hd h1 ?_)
    rw [if_neg (by decide)]
    exact wpAny_entryW hfr F hf he base_stays hen hd (Array.getElem?_eq_some_iff.mp h1).1 h0 (by rw [hc]; exact fun h' ⟨k1, k2, k3, k4⟩ => fin h' ⟨k1, hen, k2, _, k3⟩ k4)
  · exact note_at hfr F hf h1 base_stays hen fin
theorem fly_of {ex : List Addr} {h' : Heap} {a C : Addr} {a0 fl : Value} (back : ∀ b, s1.heap.get? b = none → s.heap.get? b = none) (F : FrsOk D γ s1.heap) (nin : ∀ b, s1.heap.get? b = none → b ∉ γ) (hna : a ∉ γ) (X : ExF D γ s s1.heap ex) (l : Land ex s1.heap h') (hm : D.mg x.cls = some (.ref C)) (hn : s.heap.get? a = none)
    (t : h'.TracedAtW (PySem.W.hideAll s1.heap ex) a (.ref C) a0 fl) : XFly D γ s h' (.ref a) x := by
  refine e5_9 t fun oe vs T oT ts e1 e_189 e4 e5 e6 e7 e8 e9 e10 => ?_
  obtain ⟨e2, e3⟩ := e_189
  have hT : s.heap.get? T = none ∧ T ∉ γ := by
    by_cases hT : T ∈ ex
    · rcases X.each T hT with q | ⟨q, _, q2, _⟩
      · obtain ⟨_, o, e, d⟩ := F.at q
        obtain ⟨sl, e'⟩ := l.up T o e fun vs q => d (notD_fields q)
        rw [e8] at e'
        have hd : oT.data = o.data := by rw [Option.some.inj e']
        exact absurd (notD_fields (hd ▸ e9)) d
      · exact ⟨q, q2⟩
    · have hz : s1.heap.get? T = none := by
        cases e : s1.heap.get? T with
        | none => rfl
        | some o => rw [PySem.W.hideAll_get _ e hT] at e6; exact no_some e6.symm
      exact ⟨back T hz, nin T hz⟩
  exact ⟨a, oe, vs, C, a0, T, oT, ts, rfl, hn, e1, e2, hm, e4, e3, e5, hT.1, e7, e8, e9, hna, hT.2, fl, e10⟩
end
end Mine
namespace Mine
open PySem PyProof.Rows
noncomputable def Up (h h' : Heap) (z : Addr) : Prop := ∀ o, h.get? z = some o → ∃ sl, h'.get? z = some { o with slots := sl } ∧ (NotD o → sl = o.slots)
theorem Up.of {h h' : Heap} {z : Addr} (hk : ∀ o, h.get? z = some o → h'.get? z = some o) : Up h h' z := fun o e => ⟨o.slots, hk o e, fun _ => rfl⟩
theorem Up.ns {h h' : Heap} {z : Addr} {m : Str → Option Value} (u : Up h h' z) (n : h.Ns z m) : h'.Ns z m := by
  refine e3_2 n fun o es ep ho r => ?_
  refine e1_2 (u o ho) fun sl e' _ => ?_
  exact ⟨_, es, ep, e', r⟩
theorem Up.cell {h h' : Heap} {z : Addr} {v : Option Value} (u : Up h h' z) (n : h.IsCell z v) : h'.IsCell z v := by
  refine e1_2 n fun o ho d => ?_
  refine e1_2 (u o ho) fun sl e' _ => ?_
  exact ⟨_, e', d⟩
theorem Up.then {h h' h2 : Heap} {z : Addr} (u : Up h h' z) (hk : ∀ o, h'.get? z = some o → h2.get? z = some o) : Up h h2 z := fun o e => let ⟨sl, e', q⟩ := u o e; ⟨sl, hk _ e', q⟩
noncomputable def VOk (cenv : Env) (x : Str) (z : Addr) (h : Heap) (P : Option Value → Prop) : Prop :=
  (cenv.kindOf x = some .local ∧ z = cenv.locals ∧ ∃ m, h.Ns z m ∧ P (m x)) ∨ (cenv.kindOf x = some .cell ∧ cenv.cells.lookup x = some z ∧ ∃ u, h.IsCell z u ∧ P u)
theorem VOk.at {cenv : Env} {x : Str} {z : Addr} {h h' : Heap} {P : Option Value → Prop} (hk : Up h h' z) : VOk cenv x z h P → VOk cenv x z h' P
  | .inl ⟨a, b, m, n, p⟩ => .inl ⟨a, b, m, hk.ns n, p⟩
  | .inr ⟨a, b, u, n, p⟩ => .inr ⟨a, b, u, hk.cell n, p⟩
theorem VOk.any {cenv : Env} {x : Str} {z : Addr} {h : Heap} {P : Option Value → Prop} : VOk cenv x z h P → VOk cenv x z h (fun _ => True)
  | .inl ⟨a, b, m, n, _⟩ => .inl ⟨a, b, m, n, trivial⟩
  | .inr ⟨a, b, u, n, _⟩ => .inr ⟨a, b, u, n, trivial⟩
theorem VOk.there {cenv : Env} {x : Str} {z : Addr} {h : Heap} {P : Option Value → Prop} : VOk cenv x z h P → (∃ o, h.get? z = some o) ∧ ∀ ws, ¬ TupAt h z ws
  | .inl ⟨_, _, m, ⟨o, es, ep, e, d, _⟩, _⟩ => ⟨⟨o, e⟩, fun ws ⟨k, e', _⟩ => by rw [e] at e'; rw [Option.some.inj e'] at d; cases d⟩
  | .inr ⟨_, _, u, ⟨o, e, d⟩, _⟩ => ⟨⟨o, e⟩, fun ws ⟨k, e', _⟩ => by rw [e] at e'; rw [Option.some.inj e'] at d; cases d⟩
theorem VOk.loc {cenv : Env} {x : Str} {z : Addr} {h h' : Heap} {P P' : Option Value → Prop} (v : VOk cenv x z h P) (v' : VOk cenv x z h' P') (hn : ∃ m, h.Ns cenv.locals m) (hs : ∀ b o, b ≠ z → h.get? b = some o → h'.get? b = some o) : ∃ m, h'.Ns cenv.locals m := by
  rcases v' with ⟨_, b, m, n, _⟩ | ⟨a, _, _⟩
  · rw [← b]; exact ⟨m, n⟩
  · rcases v with ⟨a', _⟩ | ⟨_, _, u, ⟨o, e, d⟩, _⟩
    · rw [a'] at a; cases a
    · obtain ⟨m, n⟩ := hn
      refine ⟨m, n.at' fun o' e' => hs _ o' (fun q => ?_) e'⟩
      refine e3_3 n fun o2 es ep e2 d2 _ => ?_
      rw [q, e] at e2
      rw [Option.some.inj e2, d2] at d; cases d
theorem store_var {M : Model} {A : Around} {E : Value → Shared → Prop} {s : Shared} {cenv : Env} {x : Str} {z : Addr} {v : Value} {P : Option Value → Prop} {Q : Unit → Shared → Prop} (hf : cenv.scope.kind = .function) (h : VOk cenv x z s.heap P)
    (hQ : ∀ h' tk, VOk cenv x z h' (· = some v) → (∀ b o, b ≠ z → s.heap.get? b = some o → h'.get? b = some o) → Q () { s with heap := h', toks := tk }) : wpAny M A (storeName cenv x v) Q E s := by
  rcases h with ⟨a, rfl, m, n, _⟩ | ⟨a, b, u, n, _⟩
  · exact wpAny_storeName_local a n (fun h' hn hs => hQ h' _ (.inl ⟨a, rfl, _, hn, if_pos rfl⟩) fun b o hb e => hs.extBut b o hb e) (by rw [hf]; rfl)
  · exact wpAny_storeName_cell hf a b n fun h' hn hs => hQ h' _ (.inr ⟨a, b, _, hn, rfl⟩) fun b o hb e => hs.extBut b o hb e
structure TgAt (D : Wd) (A : Around) (env cenv : Env) (slots slots' : List (Str × Nat)) (tgt : Expr) (L : Lc) (bd : V → Option Lc) (C z : Addr) (var : Heap → Prop) (vw : List Addr → V → Heap → Prop) : Prop where
  mv : ∀ h h', Up h h' z → var h → var h'
  there : ∀ h, var h → (∃ o, h.get? z = some o) ∧ ∀ ws, ¬ TupAt h z ws
  loc : ∀ h h', var h → var h' → (∃ m, h.Ns C m) → (∀ b o, b ≠ z → h.get? b = some o → h'.get? b = some o) → ∃ m, h'.Ns C m
  asg : ∀ (γ : List Addr) (s : Shared) (v : Value) (W : V) (L1 : Lc) (Q : Unit → Shared → Prop) (E : Value → Shared → Prop), bd W = some L1 → var s.heap → Rep D γ s.heap v W → (∀ h' tk, var h' → vw γ W h' → (∀ b o, b ≠ z → s.heap.get? b = some o → h'.get? b = some o) → Q () { s with heap := h', toks := tk }) → wpAny D.M A (assign tgt cenv v) Q E s
  mkL : ∀ (γ : List Addr) (h : Heap) (W : V) (L1 : Lc), bd W = some L1 → (∃ m, h.Ns C m) → vw γ W h → LRel D γ env slots h L → C ∉ γ → z ∉ γ → LRel D γ cenv slots' h L1
  go : ∀ (γ : List Addr) (I : Addr) (s : Shared) (v : Value) (W : V) (L1 : Lc) (Q : Unit → Shared → Prop) (E : Value → Shared → Prop), bd W = some L1 → Rep D γ s.heap v W → (∀ elts x1 pos T, wpAny D.M A (letOwnedTupleGo (.Tuple elts x1 pos) (.ref I) (.ref T)) Q E s) → Q () s → wpAny D.M A (letOwnedTupleGo tgt (.ref I) v) Q E s
structure CInv (D : Wd) (var : Heap → Prop) (z : Addr) (γ : List Addr) (s : Shared) (Dd C : Addr) (fp : List Addr) (Inv : List Addr → Nat → Heap → Prop) (st : Hp → Prop) (i : Nat) (acc : List V) (γ' : List Addr) (H' : Hp) (s' : Shared) : Prop where
  stp : Stp [] γ γ' s s'
  rel : HRel D γ' H' s'.heap
  out : ∃ ys n, s'.heap.get? Dd = some { cls := .type "list", data := .seq ys.toArray n } ∧ Reps D γ' s'.heap ys acc
  dnin : Dd ∉ γ'
  loc : ∃ m, s'.heap.Ns C m
  cnin : C ∉ γ'
  var : var s'.heap
  znin : z ∉ γ'
  inv : Inv γ' i s'.heap
  stb : st H'
  fps : ∀ b ∈ fp, b ∉ γ' ∧ ∃ o, s'.heap.get? b = some o
structure CFix (D : Wd) (s : Shared) (Dd C I z : Addr) (fp : List Addr) : Prop where
  d0 : s.heap.get? Dd = none
  c0 : s.heap.get? C = none
  i0 : s.heap.get? I = none
  dc : Dd ≠ C
  df : Dd ∉ fp
  cf : C ∉ fp
  z0 : s.heap.get? z = none
  dz : Dd ≠ z
  zf : z ∉ fp
theorem notTup_dict {h : Heap} {C : Addr} {m : Str → Option Value} (n : h.Ns C m) (ws : List Value) : ¬ TupAt h C ws := fun x => by
  refine e3_3 n fun o es ep e d _ => ?_
  refine e1_2 x fun k e' _ => ?_
  rw [e] at e'; cases e'; cases d
theorem notTup_list {h : Heap} {C : Addr} {vs : List Value} {n : Nat} (e : h.get? C = some { cls := .type "list", data := .seq vs.toArray n }) (ws : List Value) : ¬ TupAt h C ws := fun x => by
  refine e1_2 x fun k e' _ => ?_
  rw [e] at e'; simp at e'
theorem Stp.change {γ γ' : List Addr} {s s' : Shared} {h' : Heap} {tk : Nat} {z : Addr} (t : Stp [] γ γ' s s') (hk : ∀ b o, b ≠ z → s'.heap.get? b = some o → h'.get? b = some o) (hz : s.heap.get? z = none) : Stp [] γ γ' s { s' with heap := h', toks := tk } := by
  refine ⟨?_, fun b o hb hw e => let ⟨sl, e', q⟩ := t.keepS b o hb hw e; ⟨sl, hk b _ (by rintro rfl; rw [hz] at e; exact no_some e) e', q⟩, t.ext⟩
  refine e2_1 (t.same) fun h1 t1 e_190 => ?_
  obtain rfl := e_190
  exact ⟨_, _, rfl⟩
section
variable {D : Wd} {Φ : Orc} {k : Nat} {c : CC}
theorem comp_loop {n : Nat} {elt iter tgt : Expr} {pos : Pos} {scope : Scope} {ielt : IE} {c' : CC} {env cenv : Env} {A : Around} {L : Lc} {γ : List Addr} {H : Hp} {s : Shared} {Dd C I z : Addr} {fp : List Addr}
    {l : List V} {st : Hp → Prop} {Inv : List Addr → Nat → Heap → Prop} {K : List V → Hp → Prop} {Rr : Result → Shared → Prop} {bd : V → Option Lc} {var : Heap → Prop} {vw : List Addr → V → Heap → Prop}
    (hE' : EnvOk c' cenv) (hA : AOk D k A) (R0 : HRel D γ H s.heap) (lr : LRel D γ env c.slots s.heap L)
    (ihe : ∀ e ie, compE n c' e = some ie → Both D Φ k c' e ie) (hce : compE n c' elt = some ielt)
    (F : CFix D s Dd C I z fp) (it : Itr D A I fp l st Inv) (tg : TgAt D A env cenv c.slots c'.slots tgt L bd C z var vw)
    (fin : ∀ γ' H' s' acc, CInv D var z γ s Dd C fp Inv st l.length acc γ' H' s' → K acc H' → ∀ h' tk, (∀ b o, b ≠ I → s'.heap.get? b = some o → h'.get? b = some o) → Rr (.ok .next) { s' with heap := h', toks := tk }) :
    ∀ (i : Nat) (acc : List V) (γ' : List Addr) (H' : Hp) (s' : Shared), i ≤ l.length → acc.length ≤ i → l.length ≤ 2000000 → CInv D var z γ s Dd C fp Inv st i acc γ' H' s' →
      compGoB (fun L' H' K => (wp2 Φ ielt).E L' H' K noX) st bd (l.drop i) acc H' K →
      codeAny D.M A (.compLoop (.ListComp elt [⟨tgt, iter, [], 0⟩] scope pos) 0 (.ref I) (.ref Dd) cenv) Rr s' := by
  intro i acc γ' H' s' hi hacc hlen ci cg
  refine W.kcp_loop (fun m s' => ∃ i acc γ' H', m = l.length - i ∧ i ≤ l.length ∧ acc.length ≤ i ∧ CInv D var z γ s Dd C fp Inv st i acc γ' H' s' ∧
    compGoB (fun L' H' K => (wp2 Φ ielt).E L' H' K noX) st bd (l.drop i) acc H' K) ?_ (l.length - i) ⟨i, acc, γ', H', rfl, hi, hacc, ci, cg⟩
  clear cg ci hacc hi i acc γ' H' s'
  rintro m s' ⟨i, acc, γ', H', rfl, hi, hacc, ci, cg⟩
  have hIg : I ∉ γ' := (ci.fps I it.mem).1
  have hIB := base_none R0 F.i0
  have hDB := base_none R0 F.d0
  have hCI : C ≠ I := fun q => F.cf (q ▸ it.mem)
  have hzI : z ≠ I := fun q => F.zf (q ▸ it.mem)
  have hzB := base_none R0 F.z0
  have hDI : Dd ≠ I := fun q => F.df (q ▸ it.mem)
  by_cases hlt : i < l.length
  · have hW : l[i]? = some l[i] := by simp [hlt]
    have hdrop : l.drop i = l[i] :: l.drop (i + 1) := List.drop_eq_getElem_cons hlt
    rw [hdrop] at cg
    refine e1_2 (oK_elim (show oK (bd l[i]) _ from cg)) fun L1 hL1 cg => ?_
    refine it.next γ' H' s' i _ _ _ hW ci.rel hIg ci.stb ci.inv fun v h1 tk1 hI1 hk1 iv1 rv1 => ?_
    have nt1 := fun ws => it.notTup γ' i s'.heap ws ci.inv
    have R1 : HRel D γ' H' h1 := ci.rel.but hk1 hIg hIB nt1 (.inr (.inr (R0.frs.ne F.i0)))
    have v1 : var h1 := tg.mv _ _ (.of fun o e => hk1 _ o hzI e) ci.var
    refine (fun main => tg.go γ' I { s' with heap := h1, toks := tk1 } v l[i] L1 _ _ hL1 rv1 (fun elts x1 pos T => it.own γ' (i + 1) _ T elts x1 pos _ _ iv1 main) main) ?_
    refine tg.asg γ' { s' with heap := h1, toks := tk1 } v l[i] L1 _ _ hL1 v1 rv1 fun h2 tk2 v2 vw2 hk2 => ?_
    dsimp only at hk2 ⊢
    have loc2 : ∃ m, h2.Ns C m := tg.loc _ _ v1 v2 (let ⟨m, n⟩ := ci.loc; ⟨m, n.at' fun o e => hk1 _ o hCI e⟩) hk2
    have nt2 := (tg.there _ v1).2
    have R2 : HRel D γ' H' h2 := R1.but hk2 ci.znin hzB nt2 (.inr (.inr (R0.frs.ne F.z0)))
    have t2 : ∀ a ws, TupAt s'.heap a ws → TupAt h2 a ws := fun a ws q => tupAt_but hk2 nt2 (tupAt_but hk1 nt1 q)
    have stp2 : Stp [] γ γ' s { s' with heap := h2, toks := tk2 } := ((ci.stp.change (tk := tk1) hk1 F.i0).change (tk := tk2) hk2 F.z0)
    have lrs : LRel D γ' env c.slots h2 L := lr.stp R0 stp2
    have l2 := tg.mkL γ' h2 l[i] L1 hL1 loc2 vw2 lrs ci.cnin ci.znin
    have iv2 : Inv γ' (i + 1) h2 := it.frame γ' γ' (i + 1) h1 h2 iv1 ⟨[], by simp⟩ (fun b hb o e => hk2 b o (fun q => F.zf (q ▸ hb)) e) (fun a ws q => tupAt_but hk2 nt2 q)
    have fp2 : ∀ b ∈ fp, b ∉ γ' ∧ ∃ o, h2.get? b = some o := fun b hb => by
      refine ⟨(ci.fps b hb).1, ?_⟩
      obtain ⟨o, e⟩ := (ci.fps b hb).2
      by_cases hbI : b = I
      · subst hbI; obtain ⟨o', e'⟩ := hI1; exact ⟨o', hk2 _ _ (Ne.symm hzI) e'⟩
      · exact ⟨o, hk2 _ _ (fun q => F.zf (q ▸ hb)) (hk1 _ _ hbI e)⟩
    refine e2_2 (ci.out) fun ys ny hy ry => ?_
    have hy2 : h2.get? Dd = some { cls := .type "list", data := .seq ys.toArray ny } := hk2 _ _ F.dz (hk1 _ _ hDI hy)
    have ry2 : Reps D γ' h2 ys acc := Reps.mono ⟨[], by simp⟩ t2 ry
    have fr2 : ∀ b ∈ fp, ∀ o, h2.get? b = some o → NotD o := fun b hb o e => it.nd γ' (i + 1) h2 iv2 b hb o e
    clear v1 nt2 R1 hk2 vw2 lrs t2 nt1 hk1 rv1 iv1 hI1
    obtain ⟨s3, hs3⟩ : ∃ s3 : Shared, s3 = { s' with heap := h2, toks := tk2 } := ⟨_, rfl⟩
    rw [← hs3] at stp2 ⊢
    have hh : h2 = s3.heap := by rw [hs3]
    clear hs3
    subst hh
    refine wpAny_mono ((ihe elt ielt hce).1 cenv A γ' H' s3 _ _ noX hE' hA R2 l2 cg) (fun y s4 p => ?_) (fun _ _ p => p.no.elim)
    refine e3_4 p fun γ4 Y H4 st4 R4 ryv q4 => ?_
    have stp4 : Stp [] γ γ4 s s4 := stp2.trans0 R2 st4
    have dn4 : Dd ∉ γ4 := notin_ext st4 ci.dnin hy2
    have cn4 : C ∉ γ4 := by obtain ⟨m, o, es, ep, e, _⟩ := id loc2; exact notin_ext st4 ci.cnin e
    have zn4 : z ∉ γ4 := by obtain ⟨o, e⟩ := (tg.there _ v2).1; exact notin_ext st4 ci.znin e
    have t4 : ∀ a ws, TupAt s3.heap a ws → TupAt s4.heap a ws := fun a ws q => q.stp R2 st4 (fun _ h => nomatch h)
    have ext4 : ∃ δ, γ4 = γ' ++ δ := let ⟨δ, e, _⟩ := st4.ext; ⟨δ, e⟩
    have hy4 : s4.heap.get? Dd = some { cls := .type "list", data := .seq ys.toArray ny } := st4.keep _ _ ci.dnin (fun h => nomatch h) (notD_seq rfl) hy2
    have ry4 : Reps D γ4 s4.heap ys acc := Reps.mono ext4 t4 ry2
    have hyl := ry4.length
    refine wpAny_list_append_plain (items := ys.toArray) ⟨ny, hy4⟩ (fun h5 hp5 hs5 => ?_) (by rw [sizeLine_eq]; show ys.length ≤ _; lia)
    have hk5 : ∀ b o, b ≠ Dd → s4.heap.get? b = some o → h5.get? b = some o := fun b o hb e => hs5.extBut b o hb e
    have nt5 := notTup_list hy4
    have t5 : ∀ a ws, TupAt s4.heap a ws → TupAt h5 a ws := fun a ws q => tupAt_but hk5 nt5 q
    obtain ⟨n5, e5⟩ := hp5
    have em : ys.toArray.push y = (ys ++ [y]).toArray := by simp
    rw [em] at e5
    refine ⟨l.length - (i + 1), by lia, i + 1, acc ++ [Y], γ4, H4, rfl, hlt, by rw [List.length_append, List.length_singleton]; lia, ?_, q4.2⟩
    refine ⟨stp4.change (tk := s4.toks) hk5 F.d0, R4.but hk5 dn4 hDB nt5 (.inr (.inr (R0.frs.ne F.d0))), ⟨ys ++ [y], n5, e5, Reps.mono ⟨[], by simp⟩ t5 (ry4.append (Reps.one ryv))⟩, dn4, ?_, cn4, tg.mv _ _ (Up.then (fun o e => st4.keepS _ o ci.znin (fun h => nomatch h) e) fun o e => hk5 _ o (Ne.symm F.dz) e) v2, zn4, ?_, q4.1, ?_⟩
    · obtain ⟨m, n⟩ := loc2
      exact ⟨m, (st4.ns ci.cnin (fun h => nomatch h) n).at' fun o e => hk5 _ o (Ne.symm F.dc) e⟩
    · exact it.frame γ' γ4 (i + 1) s3.heap h5 iv2 ext4 (fun b hb o e => hk5 b o (fun q => F.df (q ▸ hb)) (st4.keep b o (fp2 b hb).1 (fun h => nomatch h) (fr2 b hb o e) e)) (fun a ws q => t5 a ws (t4 a ws q))
    · intro b hb
      obtain ⟨a, o, e⟩ := fp2 b hb
      exact ⟨notin_ext st4 a e, o, hk5 b o (fun q => F.df (q ▸ hb)) (st4.keep b o a (fun h => nomatch h) (fr2 b hb o e) e)⟩
  · have hin : i = l.length := by lia
    subst hin
    rw [List.drop_length] at cg
    exact it.done γ' H' s' _ _ ci.rel ci.stb ci.inv fun h1 tk1 hk1 => fin γ' H' s' acc ci cg h1 tk1 hk1
end
end Mine
namespace Mine
open PySem PyProof.Rows
section
variable {D : Wd} {Φ : Orc} {k : Nat} {c : CC}
theorem set_get {L : Lc} {n : Nat} {y v : V} (h : (L.set n (some y))[n]? = some (some v)) : v = y := by
  by_cases hn : n < L.length
  · rw [List.getElem?_set_self hn] at h
    exact (Option.some.inj (Option.some.inj h)).symm
  · rw [List.getElem?_eq_none_iff.mpr (by rw [List.length_set]; exact Nat.le_of_not_lt hn)] at h; exact no_some h
theorem HRel.adoptList {γ : List Addr} {H : Hp} {vs : List Value} {l : List V} {h : Heap} {a : Addr} {n : Nat} (R : HRel D γ H h) (r : Reps D γ h vs l) (hz : l.length ≤ 2000000)
    (hn : a ∉ γ) (hB : D.hB.get? a = none) (hf : ∀ e ∈ D.fr, e.frame ≠ some a) (ha : h.get? a = some { cls := .type "list", data := .seq vs.toArray n }) : HRel D (γ ++ [a]) (H ++ [.list l]) h :=
  R.adopt hn hB hf ⟨vs, n, ha, Reps.mono ⟨_, rfl⟩ (fun _ _ x => x) r, by rw [r.length]; exact hz⟩
theorem PostV.adopt {γ γ' : List Addr} {H H' : Hp} {s s' : Shared} {Q : V → Hp → Prop} {vs : List Value} {l : List V} {h' : Heap} {a : Addr} {n tk : Nat} (R0 : HRel D γ H s.heap) (st : Stp [] γ γ' s { s' with heap := h', toks := tk }) (R : HRel D γ' H' h') (r : Reps D γ' h' vs l) (hz : l.length ≤ 2000000)
    (hn : a ∉ γ') (h0 : s.heap.get? a = none) (hB : D.hB.get? a = none) (ha : h'.get? a = some { cls := .type "list", data := .seq vs.toArray n }) (h : Q (.ref H'.length) (H' ++ [.list l])) :
    PostV D γ s Q (.ref a) { s' with heap := h', toks := tk } := by
  refine ⟨γ' ++ [a], .ref H'.length, H' ++ [.list l], ⟨st.same, st.keepS, ?_⟩, R.adoptList r hz hn hB (R0.frs.ne h0) ha, ?_, h⟩
  · refine e1_2 (st.ext) fun δ e f => ?_
    refine ⟨δ ++ [a], by rw [e]; simp, fun b hb => ?_⟩
    rcases List.mem_append.mp hb with q | q
    · exact f b q
    · simp at q; subst q; exact h0
  · exact Exists.intro _ ⟨by rw [List.getElem?_append_right (by rw [R.len]; exact Nat.le_refl _)]; simp [R.len], rfl⟩
structure CompOk (c : CC) (scope : Scope) (x : Str) : Prop where
  kind : scope.kind = .function
  locs : ∀ y ∈ scope.names, y.2 = .local → scope.names.lookup y.1 = some .local
  frees : ∀ y ∈ scope.names, y.2 = .free → c.scope.names.lookup y.1 = some .cell
  var : (scope.names.lookup x = some .local ∧ scope.names.filter isCell = []) ∨ (scope.names.lookup x = some .cell ∧ scope.names.filter isCell = [(x, .cell)])
  own : ∀ y, (y, NameKind.local) ∈ scope.names → y = x ∨ c.slots.lookup y = none
  low : ∀ y i, c.slots.lookup y = some i → i < c.nxt
noncomputable abbrev inner (c : CC) (scope : Scope) (x : Str) : CC := innerC c scope x
theorem relabel_eq {scope : Scope} {env : Env} (he : EnvOk c env) : relabel scope env = relab scope c.scope := by
  rw [← he.scope]; rfl
theorem env_inner {scope : Scope} {x : Str} {env : Env} (he : EnvOk c env) (ok : CompOk c scope x) (cl : List (Str × Addr)) (C : Addr) : EnvOk (inner c scope x) (compEnvC scope cl C env) :=
  ⟨relabel_eq he, ok.kind, he.globals, he.builtins⟩
theorem lrel_inner {scope : Scope} {x : Str} {env : Env} {L : Lc} {C z : Addr} {n : Nat} (he : EnvOk c env) (ok : CompOk c scope x) :
    ∀ γ' h W v, (∃ m, h.Ns C m) → VOk (compEnvC scope (cellsFrom n scope.names (closGo env scope.names [])) C env) x z h (· = some v) → Rep D γ' h v W → LRel D γ' env c.slots h L → C ∉ γ' → z ∉ γ' → LRel D γ' (compEnvC scope (cellsFrom n scope.names (closGo env scope.names [])) C env) (inner c scope x).slots h (L.set c.nxt (some W)) := by
  intro γ' h W v hn hv rv lr hC hz
  have hrl : ∀ y, (compEnvC scope (cellsFrom n scope.names (closGo env scope.names [])) C env).kindOf y = (relab scope c.scope).names.lookup y := fun y => by
    show (relabel scope env).names.lookup y = _
    rw [relabel_eq he]
  have slot : ∀ {y : Str} {i : Nat} {V : V}, y = x → (inner c scope x).slots.lookup y = some i → (L.set c.nxt (some W))[i]? = some (some V) → V = W := fun {y i V} e hs hL => by
    have hs' : ((x, c.nxt) :: c.slots).lookup y = some i := hs
    rw [List.lookup_cons, beq_iff_eq.mpr e] at hs'
    obtain rfl := Option.some.inj hs'
    exact set_get hL
  have slotN : ∀ {y : Str} {i : Nat}, y ≠ x → (inner c scope x).slots.lookup y = some i → c.slots.lookup y = some i := fun {y i} e hs => by
    have hs' : ((x, c.nxt) :: c.slots).lookup y = some i := hs
    rw [List.lookup_cons, beq_eq_false_iff_ne.mpr e] at hs'
    exact hs'
  have own : ∀ (m : Str → Option Value), h.Ns C m → ((relab scope c.scope).names.lookup x = some .local → m x = some v) → LRel D γ' (compEnvC scope (cellsFrom n scope.names (closGo env scope.names [])) C env) (inner c scope x).slots h (L.set c.nxt (some W)) := fun m hm hx => by
    refine ⟨⟨m, hm, fun y i V hy hs hL => ?_⟩, fun y hy => ?_, hC, lr.tp⟩
    · rw [hrl] at hy
      by_cases hxy : y = x
      · obtain rfl := slot hxy hs hL
        rw [hxy] at hy ⊢
        exact ⟨v, hx hy, rv⟩
      · rcases ok.own y (relab_local hy) with q | q
        · exact absurd q hxy
        · rw [slotN hxy hs] at q; exact no_some q.symm
    · rw [hrl] at hy
      by_cases hxy : y = x
      · subst hxy
        rcases hv with ⟨a, _⟩ | ⟨_, b, u, hu, rfl⟩
        · rw [hrl, hy] at a; cases a
        · exact ⟨z, some v, b, hu, hz, fun i V hs hL => ⟨v, rfl, slot rfl hs hL ▸ rv⟩⟩
      · have nc : (y, NameKind.cell) ∉ scope.names := fun hm => by
          have hm' : (y, NameKind.cell) ∈ scope.names.filter isCell := List.mem_filter.mpr ⟨hm, rfl⟩
          rcases ok.var with ⟨_, q⟩ | ⟨_, q⟩
          · rw [q] at hm'; exact nomatch hm'
          · rw [q] at hm'; exact hxy (congrArg Prod.fst (List.mem_singleton.mp hm'))
        obtain ⟨hf, ho⟩ := (relab_cell hy).resolve_left nc
        have hk : env.kindOf y = some .cell := by unfold Env.kindOf; rw [he.scope]; exact ho
        refine e2_4 (lr.cel y hk) fun ca u e1 e2 e3 e4 => ?_
        have hcl : (cellsFrom n scope.names (closGo env scope.names [])).lookup y = some ca := by
          rcases ok.var with ⟨_, q⟩ | ⟨_, q⟩
          · rw [(cells_none (h := h) q).1]; exact closGo_lookup hf e1
          · rw [(cells_one (h := h) q).1, List.lookup_cons, beq_eq_false_iff_ne.mpr hxy]; exact closGo_lookup hf e1
        refine ⟨ca, u, hcl, e2, e3, fun i V hs hL => ?_⟩
        have hs' := slotN hxy hs
        have hlt := ok.low y i hs'
        rw [List.getElem?_set_ne (by lia)] at hL
        exact e4 i V hs' hL
  rcases id hv with ⟨a, b, m, hm, hmx⟩ | ⟨a, _, _⟩
  · exact own m ((show z = C from b) ▸ hm) fun _ => hmx
  · obtain ⟨m, hm⟩ := hn
    exact own m hm fun q => by rw [hrl, q] at a; cases a
theorem comp_env {M : Model} {A : Around} {E : Value → Shared → Prop} {s : Shared} {scope : Scope} {env : Env} {cl : List (Str × Addr)} {Q : Env → Shared → Prop}
    (h : Q { scope := scope, locals := s.heap.objs.size, globals := env.globals, cells := cellsFrom (s.heap.objs.size + 1) scope.names cl, qual := env.qual, func := none, code := env.code, frame := env.frame, builtins := env.builtins } { s with heap := pushCells (s.heap.push { cls := .type "dict", data := .dict #[] }) scope.names }) :
    wpAny M A (newFunctionEnv scope env.globals cl [] env.qual none .none (some env)) Q E s := by
  simp only [newFunctionEnv, Option.isSome_some, if_true]
  refine wpAny_bind (wpAny_alloc (wpAny_bind (wpAny_layCells _ (fun name kind cells => by cases kind == NameKind.cell <;> simp) _ _ _ _ ?_)))
  rw [show ({ s with heap := s.heap.push { cls := .type "dict", data := .dict #[] } } : Shared).heap.objs.size = s.heap.objs.size + 1 from Heap.size_push ..]
  rw [List.forIn_nil]
  exact wpAny_bind (wpAny_pure (wpAny_pure h))
theorem tg_name {k : Nat} {A : Around} {scope : Scope} {x : Str} {px : Pos} {env : Env} {L : Lc} {C z : Addr} {n : Nat} (he : EnvOk c env) (ok : CompOk c scope x) :
    TgAt D A env (compEnvC scope (cellsFrom n scope.names (closGo env scope.names [])) C env) c.slots (inner c scope x).slots (.Name x px) L (bd1 c.nxt L) C z
      (fun h => VOk (compEnvC scope (cellsFrom n scope.names (closGo env scope.names [])) C env) x z h (fun _ => True)) (fun γ W h => ∃ v, VOk (compEnvC scope (cellsFrom n scope.names (closGo env scope.names [])) C env) x z h (· = some v) ∧ Rep D γ h v W) where
  mv := fun _ _ hk v => v.at hk
  there := fun _ v => v.there
  loc := fun _ _ v v' hn hs => v.loc v' hn hs
  asg := fun γ s v W L1 Q E _ hv rv q => wpAny_assign_Name (store_var (by show (relabel scope env).kind = _; rw [relabel_eq he]; exact ok.kind) hv fun h2 tk2 v2 hk2 => q h2 tk2 v2.any ⟨v, v2, Rep.mono ⟨[], by simp⟩ (fun _ _ q => tupAt_but hk2 hv.there.2 q) rv⟩ hk2)
  mkL := fun γ h W L1 hb hn hv lr hC hz => by
    obtain rfl := Option.some.inj hb
    refine e1_2 hv fun v hv rv => ?_
    exact lrel_inner he ok γ h W v hn hv rv lr hC hz
  go := fun _ _ _ _ _ _ _ _ _ _ _ q => wpAny_pure q
structure CompOk2 (c : CC) (scope : Scope) (x y : Str) : Prop where
  kind : scope.kind = .function
  locs : ∀ y ∈ scope.names, y.2 = .local → scope.names.lookup y.1 = some .local
  frees : ∀ y ∈ scope.names, y.2 = .free → c.scope.names.lookup y.1 = some .cell
  vx : scope.names.lookup x = some .local
  vy : scope.names.lookup y = some .local
  ne : x ≠ y
  nocell : scope.names.filter isCell = []
  own : ∀ w, (w, NameKind.local) ∈ scope.names → w = x ∨ w = y ∨ c.slots.lookup w = none
  low : ∀ y i, c.slots.lookup y = some i → i < c.nxt
theorem bd2_some {j : Nat} {L L1 : Lc} {W : V} (h : bd2 j L W = some L1) : ∃ a b, W = .tup [a, b] ∧ L1 = (L.set j (some a)).set (j + 1) (some b) := by
  refine e1_2 (Option.map_eq_some_iff.mp h) fun p hp e_191 => ?_
  obtain rfl := e_191
  refine e1_2 (Option.bind_eq_some_iff.mp hp) fun l hl h2 => ?_
  rw [tupV_some hl]
  cases l with
  | nil => exact no_some h2
  | cons a r => cases r with
    | nil => exact no_some h2
    | cons b r => cases r with
      | nil => rw [← Option.some.inj h2]; exact ⟨a, b, rfl, rfl⟩
      | cons _ _ => exact no_some h2
theorem lrel_inner2 {scope : Scope} {x y : Str} {env : Env} {L : Lc} {C : Addr} {n : Nat} {γ : List Addr} {h : Heap} {a b : V} {va vb : Value} {m : Str → Option Value} (he : EnvOk c env) (ok : CompOk2 c scope x y) (hm : h.Ns C m) (hx : m x = some va) (hy : m y = some vb) (ra : Rep D γ h va a) (rb : Rep D γ h vb b)
    (lr : LRel D γ env c.slots h L) (hC : C ∉ γ) : LRel D γ (compEnvC scope (cellsFrom n scope.names (closGo env scope.names [])) C env) (innerC2 c scope x y).slots h ((L.set c.nxt (some a)).set (c.nxt + 1) (some b)) := by
  have hrl : ∀ y, (compEnvC scope (cellsFrom n scope.names (closGo env scope.names [])) C env).kindOf y = (relab scope c.scope).names.lookup y := fun y => by
    show (relabel scope env).names.lookup y = _
    rw [relabel_eq he]
  have old : ∀ {w : Str} {i : Nat}, w ≠ x → w ≠ y → (innerC2 c scope x y).slots.lookup w = some i → c.slots.lookup w = some i := fun {w i} e1 e2 hs => by
    have hs' : ((x, c.nxt) :: (y, c.nxt + 1) :: c.slots).lookup w = some i := hs
    rw [List.lookup_cons, beq_eq_false_iff_ne.mpr e1] at hs'
    have hs' : ((y, c.nxt + 1) :: c.slots).lookup w = some i := hs'
    rw [List.lookup_cons, beq_eq_false_iff_ne.mpr e2] at hs'
    exact hs'
  refine ⟨⟨m, hm, fun w i V hw hs hL => ?_⟩, fun w hw => ?_, hC, lr.tp⟩
  · rw [hrl] at hw
    by_cases hwx : w = x
    · subst hwx
      have hs' : ((w, c.nxt) :: (y, c.nxt + 1) :: c.slots).lookup w = some i := hs
      rw [List.lookup_cons, beq_self_eq_true] at hs'
      obtain rfl := Option.some.inj hs'
      rw [List.getElem?_set_ne (Nat.succ_ne_self _)] at hL
      obtain rfl := set_get hL
      exact ⟨va, hx, ra⟩
    · by_cases hwy : w = y
      · subst hwy
        have hs' : ((x, c.nxt) :: (w, c.nxt + 1) :: c.slots).lookup w = some i := hs
        rw [List.lookup_cons, beq_eq_false_iff_ne.mpr hwx] at hs'
        have hs' : ((w, c.nxt + 1) :: c.slots).lookup w = some i := hs'
        rw [List.lookup_cons, beq_self_eq_true] at hs'
        obtain rfl := Option.some.inj hs'
        obtain rfl := set_get hL
        exact ⟨vb, hy, rb⟩
      · rcases ok.own w (relab_local hw) with q | q | q
        · exact absurd q hwx
        · exact absurd q hwy
        · rw [old hwx hwy hs] at q; exact no_some q.symm
  · rw [hrl] at hw
    have nc : (w, NameKind.cell) ∉ scope.names := fun hm => by
      have hm' : (w, NameKind.cell) ∈ scope.names.filter isCell := List.mem_filter.mpr ⟨hm, rfl⟩
      rw [ok.nocell] at hm'; exact nomatch hm'
    have hloc : ∀ {z}, scope.names.lookup z = some .local → w ≠ z := fun hz e => by
      rw [e, relab_at (by decide) hz] at hw; cases hw
    obtain ⟨hf, ho⟩ := (relab_cell hw).resolve_left nc
    have hk : env.kindOf w = some .cell := by unfold Env.kindOf; rw [he.scope]; exact ho
    refine e2_4 (lr.cel w hk) fun ca u e1 e2 e3 e4 => ?_
    refine ⟨ca, u, ?_, e2, e3, fun i V hs hL => ?_⟩
    · show (cellsFrom n scope.names (closGo env scope.names [])).lookup w = _
      rw [(cells_none (h := h) ok.nocell).1]; exact closGo_lookup hf e1
    · have hs' := old (hloc ok.vx) (hloc ok.vy) hs
      have hlt := ok.low w i hs'
      rw [List.getElem?_set_ne (by lia), List.getElem?_set_ne (by lia)] at hL
      exact e4 i V hs' hL
theorem tg_pair {k : Nat} {A : Around} {scope : Scope} {x y : Str} {px py tp : Pos} {kk : Nat} {env : Env} {L : Lc} {C : Addr} {n : Nat} (hA : AOk D k A) (he : EnvOk c env) (ok : CompOk2 c scope x y) :
    TgAt D A env (compEnvC scope (cellsFrom n scope.names (closGo env scope.names [])) C env) c.slots (innerC2 c scope x y).slots (.Tuple [.Name x px, .Name y py] kk tp) L (bd2 c.nxt L) C C
      (fun h => ∃ m, h.Ns C m) (fun γ W h => ∃ m a b va vb, W = .tup [a, b] ∧ h.Ns C m ∧ m x = some va ∧ m y = some vb ∧ Rep D γ h va a ∧ Rep D γ h vb b) where
  mv := fun _ _ hk ⟨m, hm⟩ => ⟨m, hk.ns hm⟩
  there := fun _ ⟨m, hm⟩ => ⟨let ⟨o, _, _, e, _⟩ := hm; ⟨o, e⟩, notTup_dict hm⟩
  loc := fun _ _ _ v' _ _ => v'
  asg := fun γ s v W L1 Q E hb ⟨m, hm⟩ rv q => by
    refine e2_2 (bd2_some hb) fun a b e_192 e_193 => ?_
    obtain rfl := e_192
    obtain rfl := e_193
    obtain ⟨T, vs, rfl, ta, va, r, rfl, ra, vb, r', rfl, rb, rfl⟩ := rv
    have hk2 : (relabel scope env).kind = .function := by rw [relabel_eq he]; exact ok.kind
    have kd : ∀ {z}, scope.names.lookup z = some .local → (compEnvC scope (cellsFrom n scope.names (closGo env scope.names [])) C env).kindOf z = some .local := fun q => by
      show (relabel scope env).names.lookup _ = _
      rw [relabel_eq he]; exact relab_at (by decide) q
    refine W.kcp_assign hA.handled ta.isTuple (kd ok.vx) (kd ok.vy) (by show ((relabel scope env).kind == .class || ((relabel scope env).kind == .module && _)) = false; rw [hk2]; rfl) hm fun h' tk hn hk => ?_
    have mono : ∀ {v V}, Rep D γ s.heap v V → Rep D γ h' v V := fun r => Rep.mono ⟨[], by simp⟩ (fun _ _ q => tupAt_but hk (notTup_dict hm) q) r
    exact q h' tk ⟨_, hn⟩ ⟨_, a, b, va, vb, rfl, hn, by rw [if_neg ok.ne, if_pos rfl], if_pos rfl, mono ra, mono rb⟩ hk
  mkL := fun γ h W L1 hb _ hv lr hC _ => by
    obtain ⟨m, a, b, va, vb, rfl, hm, hx, hy, ra, rb⟩ := hv
    refine e2_2 (bd2_some hb) fun a' b' e e_199 => ?_
    obtain rfl := e_199
    cases e
    exact lrel_inner2 he ok hm hx hy ra rb lr hC
  go := fun γ I s v W L1 Q E hb rv hown q => by
    refine e2_2 (bd2_some hb) fun a b e_200 e_201 => ?_
    obtain rfl := e_200
    obtain rfl := e_201
    refine e2_2 rv fun T vs e_202 _ => ?_
    obtain rfl := e_202
    exact hown _ _ _ _
structure CompG (D : Wd) (k : Nat) (c : CC) (scope : Scope) (tgt : Expr) (c' : CC) (bdf : Lc → V → Option Lc) : Prop where
  kind : scope.kind = .function
  locs : ∀ y ∈ scope.names, y.2 = .local → scope.names.lookup y.1 = some .local
  frees : ∀ y ∈ scope.names, y.2 = .free → c.scope.names.lookup y.1 = some .cell
  gok : GOk D c.G c.mts → GOk D c'.G c'.mts
  env : ∀ env, EnvOk c env → ∀ cl C, EnvOk c' (compEnvC scope cl C env)
  tg : ∀ env A L, EnvOk c env → AOk D k A → ∀ G2 : Heap, (pushCells (G2.push { cls := .type "dict", data := .dict #[] }) scope.names).Ns G2.objs.size (fun _ => none) → ∃ z var vw, TgAt D A env (compEnvC scope (cellsFrom (G2.objs.size + 1) scope.names (closGo env scope.names [])) G2.objs.size env) c.slots c'.slots tgt L (bdf L) G2.objs.size z var vw ∧ var (pushCells (G2.push { cls := .type "dict", data := .dict #[] }) scope.names) ∧ G2.objs.size ≤ z
theorem cg_name {scope : Scope} {x : Str} {px : Pos} (ok : CompOk c scope x) : CompG D k c scope (.Name x px) (inner c scope x) (bd1 c.nxt) where
  kind := ok.kind
  locs := ok.locs
  frees := ok.frees
  gok := fun g => g
  env := fun _ hE cl C => env_inner hE ok cl C
  tg := fun env A L hE _ G2 hns₁ => by
    have hrl : ∀ {k}, k ≠ .free → scope.names.lookup x = some k → (compEnvC scope (cellsFrom (G2.objs.size + 1) scope.names (closGo env scope.names [])) G2.objs.size env).kindOf x = some k := fun hk q => by
      show (relabel scope env).names.lookup x = _
      rw [relabel_eq hE]; exact relab_at hk q
    rcases ok.var with ⟨q1, q2⟩ | ⟨q1, q2⟩
    · exact ⟨G2.objs.size, _, _, tg_name (k := k) hE ok, .inl ⟨hrl (by decide) q1, rfl, _, hns₁, trivial⟩, Nat.le_refl _⟩
    · refine ⟨G2.objs.size + 1, _, _, tg_name (k := k) hE ok, .inr ⟨hrl (by decide) q1, ?_, none, ⟨{ cls := .type "cell", data := .cell none }, ?_, rfl⟩, trivial⟩, Nat.le_succ _⟩
      · show (cellsFrom (G2.objs.size + 1) scope.names (closGo env scope.names [])).lookup x = _
        rw [(cells_one (h := G2) q2).1, List.lookup_cons, beq_self_eq_true]
      · rw [(cells_one (n := 0) (acc := []) q2).2]
        have := Heap.get?_push_size (G2.push { cls := .type "dict", data := .dict #[] }) (o := { cls := .type "cell", data := .cell none }) rfl
        rw [Heap.size_push] at this
        exact this
theorem cg_pair {scope : Scope} {x y : Str} {px py tp : Pos} {kt : Nat} (ok : CompOk2 c scope x y) : CompG D k c scope (.Tuple [.Name x px, .Name y py] kt tp) (innerC2 c scope x y) (bd2 c.nxt) where
  kind := ok.kind
  locs := ok.locs
  frees := ok.frees
  gok := fun g => g
  env := fun _ hE cl C => ⟨relabel_eq hE, ok.kind, hE.globals, hE.builtins⟩
  tg := fun env A L hE hA G2 hns₁ => ⟨_, _, _, tg_pair hA hE ok, ⟨_, hns₁⟩, Nat.le_refl _⟩
noncomputable def compW (Φ : Orc) (ss : IE) (kk : SrcK) (ielt : IE) (bdf : Lc → V → Option Lc) : ET := .of fun L H Q X => (wp2 Φ ss).E L H (fun v H1 => pSrc kk v H1 fun items st => compGoB (fun L' H' K => (wp2 Φ ielt).E L' H' K noX) st (bdf L) items [] H1 (fun ys H2 => ys.length ≤ 1000000 ∧ Q (.ref H2.length) (H2 ++ [.list ys]))) X
theorem comp_run {n : Nat} {elt iter tgt : Expr} {pos cp : Pos} {c' : CC} {bdf : Lc → V → Option Lc} {scope : Scope} {ielt : IE} {kk : SrcK} {ss : IE} {env : Env} {A : Around} {X : XL} {L : Lc} {γ : List Addr} {H : Hp} {s : Shared}
    {Kf : List V → Hp → Prop} {use : Option (Value → Sem Unit)} {Qf : Value → Shared → Prop} (g : GOk D c.G c.mts) (ih : ∀ c e ie, GOk D c.G c.mts → compE n c e = some ie → Both D Φ k c e ie) (cg : CompG D k c scope tgt c' bdf)
    (hsrc : compSrc (compE n c) c iter = some (kk, ss)) (hce : compE n c' elt = some ielt) (hE : EnvOk c env) (hA : AOk D k A) (R : HRel D γ H s.heap)
    (lr : LRel D γ env c.slots s.heap L) (hset : ∀ x, foldedSetIterable iter env x = pure x)
    (w : (wp2 Φ ss).E L H (fun v H1 => pSrc kk v H1 fun items st => compGoB (fun L' H' K => (wp2 Φ ielt).E L' H' K noX) st (bdf L) items [] H1 Kf) X)
    (fin : ∀ γ' H' s' Dd C acc, Stp [] γ γ' s s' → HRel D γ' H' s'.heap → (∃ ys n, s'.heap.get? Dd = some { cls := .type "list", data := .seq ys.toArray n } ∧ Reps D γ' s'.heap ys acc) → Dd ∉ γ' → s.heap.get? Dd = none → (∃ m, s'.heap.Ns C m) → C ∉ γ' → s.heap.get? C = none → Dd ≠ C → Kf acc H' →
      compPost D.M A (PostX D γ s X) use Qf (.ref Dd) C (.ok .next) s') :
    wpAny D.M A (comprehension (.ListComp elt [⟨tgt, iter, [], 0⟩] scope pos) scope env cp (newList []) false (eval iter env) use) Qf (PostX D γ s X) s := by
  have hclos : closureFor scope env = pure (closGo env scope.names []) := closureFor_go fun y hy hf => by
    have hk : env.kindOf y.1 = some .cell := by unfold Env.kindOf; rw [hE.scope]; exact cg.frees y hy hf
    refine e2_2 (lr.cel y.1 hk) fun ca u e1 _ => ?_
    exact ⟨ca, e1⟩
  refine wpAny_comprehension_free (use := use) rfl hset hclos cg.kind cg.locs (wpAny_mono (src_ok (K := fun l st H1 => compGoB (fun L' H' K => (wp2 Φ ielt).E L' H' K noX) st (bdf L) l [] H1 Kf) g (fun e ie h => (ih c e ie g h).1) hsrc hE hA R lr w)
    (fun xv s1 h1 => wpAny_mono h1 (fun it s2 h2 => ?_) fun _ _ e => e) fun _ _ e => e)
  refine e7_10 h2 fun γ2 H2 I fp l st Inv e_203 stp2 R2 itr iv fps hI0 hst hlen cgo => ?_
  obtain rfl := e_203
  refine wpAny_newObj_type (hd := by size_fits) (comp_env ?_)
  dsimp only
  generalize hH2 : s2.heap.push { cls := .type "list", dict := none, data := .seq ([] : List Value).toArray } = G2
  have hC : G2.objs.size = s2.heap.objs.size + 1 := by rw [← hH2, Heap.size_push]
  have hDC : s2.heap.objs.size ≠ G2.objs.size := by rw [hC]; exact Nat.ne_of_lt (Nat.lt_succ_self _)
  have fresh : ∀ a, s2.heap.objs.size ≤ a → s2.heap.get? a = none := fun a ha => by
    cases e : s2.heap.get? a with
    | none => rfl
    | some o' => exact absurd (Heap.lt_size e) (Nat.not_lt.mpr ha)
  have fresh0 : ∀ a, s2.heap.objs.size ≤ a → s.heap.get? a = none := fun a ha => none_back stp2 R2 (fresh a ha)
  have nin2 : ∀ a, s2.heap.objs.size ≤ a → a ∉ γ2 := fun a ha => (R2.nin (fresh a ha)).1
  have keep1 : ∀ b o, G2.get? b = some o → (pushCells (G2.push { cls := .type "dict", data := .dict #[] }) scope.names).get? b = some o := fun b o e => pushCells_keeps _ _ b o (Heap.get?_push_of_some _ e)
  have hns₁ : (pushCells (G2.push { cls := .type "dict", data := .dict #[] }) scope.names).Ns G2.objs.size fun _ => none := (Heap.Ns.new G2 (.type "dict")).keeps (pushCells_keeps _ _)
  refine e3_3 (cg.tg env A L hE hA G2 hns₁) fun z var vw tg hvar hz => ?_
  have hz : s2.heap.objs.size < z := by rw [hC] at hz; exact hz
  generalize hh1 : pushCells (G2.push { cls := .type "dict", data := .dict #[] }) scope.names = h₁ at keep1 hns₁ hvar ⊢
  have old : ∀ b o, s2.heap.get? b = some o → h₁.get? b = some o := fun b o e => keep1 b o (hH2 ▸ Heap.get?_push_of_some _ e)
  have hacc : h₁.get? s2.heap.objs.size = some { cls := .type "list", data := .seq ([] : List Value).toArray } := keep1 _ _ (hH2 ▸ Heap.get?_push_size _ rfl)
  have F : CFix D s s2.heap.objs.size G2.objs.size I z fp := by
    refine ⟨fresh0 _ (Nat.le_refl _), fresh0 _ (by rw [hC]; exact Nat.le_succ _), hI0, hDC, fun hm => ?_, fun hm => ?_, fresh0 _ (Nat.le_of_lt hz), Nat.ne_of_lt hz, fun hm => ?_⟩
    · obtain ⟨_, ⟨o, e⟩, _⟩ := fps _ hm; exact absurd (Heap.lt_size e) (Nat.lt_irrefl _)
    · obtain ⟨_, ⟨o, e⟩, _⟩ := fps _ hm; exact absurd (Heap.lt_size e) (by rw [hC]; exact Nat.not_lt.mpr (Nat.le_succ _))
    · obtain ⟨_, ⟨o, e⟩, _⟩ := fps _ hm; exact absurd (Heap.lt_size e) (Nat.not_lt.mpr (Nat.le_of_lt hz))
  have loop : ∀ s3 : Shared, s3 = { s2 with heap := h₁ } →
      codeAny D.M A (.compLoop (.ListComp elt [⟨tgt, iter, [], 0⟩] scope pos) 0 (.ref I) (.ref s2.heap.objs.size) (compEnvC scope (cellsFrom (G2.objs.size + 1) scope.names (closGo env scope.names [])) G2.objs.size env))
        (compPost D.M A (PostX D γ s X) use Qf (.ref s2.heap.objs.size) G2.objs.size) s3 := by
    rintro s3 rfl
    have st3 : Stp [] γ2 γ2 s2 { s2 with heap := h₁ } := stp_grow (tk := s2.toks) old
    refine comp_loop (env := env) (c := c) (c' := c') (st := st) (Inv := Inv) (l := l) (K := Kf) (fp := fp) (L := L) (bd := bdf L) (γ := γ) (H := H) (s := s) (C := G2.objs.size)
      (cg.env env hE _ _) hA R lr (fun e ie h => ih c' e ie (cg.gok g) h) hce F itr tg ?_ 0 [] γ2 H2 _ (Nat.zero_le _) (by simp) hlen ?_ cgo
    · intro γ' H' s' acc ci hK h' tk hk
      refine e2_2 (ci.out) fun ys ny hy ry => ?_
      have hIg : I ∉ γ' := (ci.fps I itr.mem).1
      have nt := fun ws => itr.notTup γ' l.length s'.heap ws ci.inv
      refine fin γ' H' _ _ _ acc (ci.stp.change (tk := tk) hk F.i0) (ci.rel.but hk hIg (base_none R F.i0) nt (.inr (.inr (R.frs.ne F.i0)))) ⟨ys, ny, hk _ _ (fun q => F.df (q ▸ itr.mem)) hy, Reps.mono ⟨[], by simp⟩ (fun _ _ q => tupAt_but hk nt q) ry⟩ ci.dnin F.d0 ?_ ci.cnin F.c0 hDC hK
      obtain ⟨m, hm⟩ := ci.loc
      exact ⟨m, hm.at' fun o e => hk _ o (fun q => F.cf (q ▸ itr.mem)) e⟩
    · refine ⟨stp2.trans0 R2 st3, R2.grow old, ⟨[], 0, hacc, (show Reps _ _ _ [] [] from rfl)⟩, nin2 _ (Nat.le_refl _), ⟨_, hns₁⟩, nin2 _ (by rw [hC]; exact Nat.le_succ _), hvar, nin2 _ (Nat.le_of_lt hz), ?_, hst, ?_⟩
      · exact itr.frame γ2 γ2 0 s2.heap h₁ iv ⟨[], by simp⟩ (fun b hb o e => old b o e) (fun _ _ q => tupAt_grow old q)
      · intro b hb
        refine e0_3 (fps b hb) fun a e_204 _ => ?_
        obtain ⟨o, e⟩ := e_204
        exact ⟨a, o, old b o e⟩
  have iv1 : Inv γ2 0 h₁ := itr.frame γ2 γ2 0 s2.heap h₁ iv ⟨[], by simp⟩ (fun b hb o e => old b o e) (fun _ _ q => tupAt_grow old q)
  exact codeAny_compStart_list (loop _ rfl) (itr.self γ2 0 _ _ _ iv1 (loop _ rfl))
theorem e_comp {n : Nat} {elt iter tgt : Expr} {pos : Pos} {scope : Scope} {c' : CC} {ielt : IE} {kk : SrcK} {ss ie : IE} {bdf : Lc → V → Option Lc} (g : GOk D c.G c.mts) (ih : ∀ c e ie, GOk D c.G c.mts → compE n c e = some ie → Both D Φ k c e ie) (cg : CompG D k c scope tgt c' bdf)
    (hsrc : compSrc (compE n c) c iter = some (kk, ss)) (hce : compE n c' elt = some ielt) (hset : ∀ env x, foldedSetIterable iter env x = pure x) (hie : wp2 Φ ie = compW Φ ss kk ielt bdf) :
    Both D Φ k c (.ListComp elt [⟨tgt, iter, [], 0⟩] scope pos) ie := by
  refine both_plain (fun env A γ H s L Q X hE hA R lr w => ?_) (by rw [hie]; rfl) (fun _ _ => rfl)
  rw [hie] at w
  rw [eval_ListComp]
  refine comp_run (use := none) (cp := _) g ih cg hsrc hce hE hA R lr (hset env) w ?_
  intro γ' H' s' Dd C acc stp R' ho dn d0 hc cn c0 hdc hK
  obtain ⟨m, hm⟩ := hc
  refine ⟨m, hm, fun h' hs => ?_⟩
  have hk : ∀ b o, b ≠ C → s'.heap.get? b = some o → h'.get? b = some o := fun b o hb e => hs.extBut b o hb e
  have nt := notTup_dict hm
  refine e2_2 ho fun ys ny hy ry => ?_
  have R'' : HRel D γ' H' h' := R'.but hk cn (base_none R c0) nt (.inr (.inr (R.frs.ne c0)))
  have hy' := hk _ _ hdc hy
  have ry' : Reps D γ' h' ys acc := Reps.mono ⟨[], by simp⟩ (fun _ _ q => tupAt_but hk nt q) ry
  exact PostV.adopt (h' := h') (tk := s'.toks) R (stp.change hk c0) R'' ry' (by have := hK.1; lia) dn d0 (base_none R d0) hy' hK.2
end
end Mine
namespace Mine
open PySem PyProof.Rows
section
variable {D : Wd} {Φ : Orc} {k : Nat}
theorem noSetIter {iter : Expr} {n : Nat} {c : CC} {p : SrcK × IE} (h : compSrc (compE n c) c iter = some p) : ∀ env x, foldedSetIterable iter env x = pure x := by
  intro env x
  cases iter <;> first | rfl | (cases n <;> exact no_some h)
theorem opt_part {lo : Option Expr} {il : Option IE} {n : Nat} {c : CC} {env : Env} {A : Around} {γ : List Addr} {H : Hp} {s : Shared} {L : Lc} {Q : V → Hp → Prop} {X : XL} (ih : ∀ e ie, compE n c e = some ie → SE D Φ k c e ie) (h : optE (compE n c) lo = some il)
    (hE : EnvOk c env) (hA : AOk D k A) (R : HRel D γ H s.heap) (lr : LRel D γ env c.slots s.heap L) (w : wpO Φ il L H Q X) : wpAny D.M A (evalPart lo env) (PostV D γ s Q) (PostX D γ s X) s := by
  cases lo with
  | none => obtain rfl := Option.some.inj h; exact wpAny_evalPart_none (PostV.here (V := .none) R (show Rep _ _ _ _ .none from rfl) w)
  | some e =>
    refine e1_2 (Option.map_eq_some_iff.mp h) fun a ha e_205 => ?_
    obtain rfl := e_205
    exact wpAny_evalPart_some (ih _ _ ha env A γ H s L Q X hE hA R lr w)
theorem e_slice {o : Expr} {p pos : Pos} {lo hi : Option Expr} {n : Nat} {c : CC} {io : IE} {il ih' : Option IE} (ih : ∀ e ie, compE n c e = some ie → SE D Φ k c e ie) (ho : compE n c o = some io) (hl : optE (compE n c) lo = some il) (hh : optE (compE n c) hi = some ih') :
    Both D Φ k c (.Subscript o (.Slice lo hi none p) pos) (.slice io il ih') := by
  refine both_plain (fun env A γ H s L Q X hE hA R lr w => ?_) rfl (fun _ _ => rfl)
  refine Subscript_ (andThen (ih _ _ ho env A γ H s L _ X hE hA R lr w) ?_)
  intro vo s1 γ1 Vo H1 st1 R1 ro q1
  refine wpAny_Slice (thenV st1 R1 (opt_part ih hl hE hA R1 (lr.stp R st1) q1) ?_)
  intro vl s2 γ2 Vl H2 st2 R2 rl q2
  have st02 := st1.trans0 R1 st2
  refine thenV st02 R2 (opt_part ih hh hE hA R2 (lr.stp R st02) q2) ?_
  intro vh s3 γ3 Vh H3 st3 R3 rh q3
  rw [evalPart_none]
  refine wpAny_pure ?_
  exact wpAny_mono (slice_ok R3 ((ro.stp0 R1 st2).stp0 R2 st3) (rl.stp0 R2 st3) rh q3) (fun _ _ x => x.back (st02.trans0 R2 st3) R3) (fun _ _ x => x)
theorem isM1_some {e : Expr} (h : isM1 e = true) : ∃ n p p', e = .UnaryOp .USub (.Constant (.int 1) n p) p' := by
  cases e with
  | UnaryOp o e p =>
    cases o with
    | USub =>
      cases e with
      | Constant k n p2 =>
        cases k with
        | int i => rw [show i = 1 from eq_of_beq h]; exact ⟨n, p2, p, rfl⟩
        | _ => exact Bool.noConfusion h
      | _ => exact Bool.noConfusion h
    | _ => exact Bool.noConfusion h
  | _ => exact Bool.noConfusion h
theorem e_rev {o e : Expr} {p pos : Pos} {c : CC} {io : IE} (ho : SE D Φ k c o io) (he : isM1 e = true) : Both D Φ k c (.Subscript o (.Slice none none (some e) p) pos) (.rev io) := by
  refine both_plain (fun env A γ H s L Q X hE hA R lr w => ?_) rfl (fun _ _ => rfl)
  refine e3_1 (isM1_some he) fun n p1 p2 e_206 => ?_
  obtain rfl := e_206
  refine Subscript_ (andThen (ho env A γ H s L _ X hE hA R lr w) ?_)
  intro vo s1 γ1 Vo H1 st1 R1 ro q1
  refine wpAny_Slice (wpAny_evalPart_none (wpAny_evalPart_none (wpAny_evalPart_some (UnaryOp_ (wpAny_Constant_int (neg_int ?_))))))
  have st2 : Stp [] γ1 γ1 s1 { s1 with toks := s1.toks + 1 + 1 } := stp_grow fun _ _ e => e
  exact wpAny_mono (rev_ok (s := { s1 with toks := s1.toks + 1 + 1 }) R1 ro (.int (-1) _) q1) (fun _ _ x => (x.back st2 R1).back st1 R1) (fun _ _ x => x)
theorem okComp_of {scope outer : Scope} (hok : okComp scope outer = true) : scope.kind = .function ∧ (∀ y ∈ scope.names, y.2 = .local → scope.names.lookup y.1 = some .local) ∧ (∀ y ∈ scope.names, y.2 = .free → outer.names.lookup y.1 = some .cell) := by
  unfold okComp at hok
  simp only [Bool.and_eq_true, beq_iff_eq, List.all_eq_true, Bool.or_eq_true, bne_iff_ne, ne_eq] at hok
  exact ⟨hok.1, fun y hy hl => (hok.2 y hy).1.resolve_left fun q => q hl, fun y hy hf => ((hok.2 y hy).2.resolve_left fun q => q hf).2⟩
theorem compOk_of {c : CC} {scope : Scope} {x : Str} {a : Int} (hs : okC c scope x a = true) : a = 0 ∧ CompOk c scope x := by
  unfold okC okVar at hs
  simp only [Bool.and_eq_true, Bool.or_eq_true] at hs
  obtain ⟨⟨⟨⟨ha, hok⟩, hvar⟩, hown⟩, hlow⟩ := hs
  refine e0_3 (okComp_of hok) fun k1 k3 k4 => ?_
  rw [List.all_eq_true] at hown hlow
  refine ⟨eq_of_beq ha, k1, k3, k4, hvar.imp (fun h => ⟨eq_of_beq h.1, List.isEmpty_iff.mp h.2⟩) (fun h => ⟨eq_of_beq h.1, eq_of_beq h.2⟩), fun y hy => ?_, fun y i hl => of_decide_eq_true (hlow (y, i) (mem_of_lookup hl))⟩
  have := hown (y, .local) hy
  simp only [Bool.or_eq_true, bne_iff_ne, ne_eq, beq_iff_eq, Option.isNone_iff_eq_none] at this
  rcases this with (q | q) | q
  · exact absurd trivial q
  · exact .inl q
  · exact .inr q
theorem compOk2_of {c : CC} {scope : Scope} {x y : Str} {a : Int} (hs : okC2 c scope x y a = true) : a = 0 ∧ CompOk2 c scope x y := by
  unfold okC2 at hs
  simp only [Bool.and_eq_true] at hs
  obtain ⟨⟨⟨⟨ha, hok⟩, ⟨⟨⟨hx, hy⟩, hne⟩, hnc⟩⟩, hown⟩, hlow⟩ := hs
  refine e0_3 (okComp_of hok) fun k1 k3 k4 => ?_
  rw [List.all_eq_true] at hown hlow
  refine ⟨eq_of_beq ha, k1, k3, k4, eq_of_beq hx, eq_of_beq hy, fun q => ?_, List.isEmpty_iff.mp hnc, fun w hw => ?_, fun y i hl => of_decide_eq_true (hlow (y, i) (mem_of_lookup hl))⟩
  · rw [q, beq_self_eq_true] at hne; exact Bool.noConfusion hne
  · have := hown (w, .local) hw
    simp only [Bool.or_eq_true, bne_iff_ne, ne_eq, beq_iff_eq, Option.isNone_iff_eq_none] at this
    rcases this with ((q | q) | q) | q
    · exact absurd trivial q
    · exact .inl q
    · exact .inr (.inl q)
    · exact .inr (.inr q)
theorem lc_inv {n : Nat} {c : CC} {elt : Expr} {gens : List Comprehension} {scope : Scope} {ie : IE} (h0 : cLc (compE n) c elt gens scope = some ie) :
    ∃ tgt iter kk ss ielt c' bdf, gens = [⟨tgt, iter, [], 0⟩] ∧ CompG D k c scope tgt c' bdf ∧ compSrc (compE n c) c iter = some (kk, ss) ∧ compE n c' elt = some ielt ∧ wp2 Φ ie = compW Φ ss kk ielt bdf := by
  refine e1_2 (on1_some h0) fun e_207 e0 h1 => ?_
  obtain ⟨tgt, iter, ifs, a⟩ := e_207
  clear h0
  subst e0
  have h : (match isTup tgt with
    | true => onTup tgt fun ts => on2 ts fun tx ty => onName tx fun x => onName ty fun y => onlyIf (okC2 c scope x y a && ifs.isEmpty) (oTwo (fun ks e => IE.comp2 e c.nxt ks.1 ks.2) (compSrc (compE n c) c iter) (compE n (innerC2 c scope x y) elt))
    | false => onName tgt fun x => onlyIf (okC c scope x a && ifs.isEmpty) (oTwo (fun ks e => IE.comp e c.nxt ks.1 ks.2) (compSrc (compE n c) c iter) (compE n (innerC c scope x) elt))) = some ie := h1
  clear h1
  cases ht : isTup tgt with
  | true =>
    rw [ht] at h
    refine e3_2 (onTup_some h) fun es kt tp e1 h2 => ?_
    clear h
    refine e2_2 (on2_some h2) fun tx ty e2 h => ?_
    clear h2
    refine e2_2 (onName_some h) fun x px e3 h2 => ?_
    clear h
    refine e2_2 (onName_some h2) fun y py e4 h => ?_
    clear h2
    subst e4 e3 e2 e1
    obtain ⟨hs, h5⟩ := onlyIf_some h
    rw [Bool.and_eq_true] at hs
    obtain ⟨ha, ok⟩ := compOk2_of hs.1
    refine e2_3 (oTwo_some h5) fun ks e k1 k2 e_208 => ?_
    obtain rfl := e_208
    exact ⟨_, iter, ks.1, ks.2, e, _, _, by rw [ha, List.isEmpty_iff.mp hs.2], cg_pair ok, k1, k2, rfl⟩
  | false =>
    rw [ht] at h
    refine e2_2 (onName_some h) fun x px e1 h2 => ?_
    clear h
    subst e1
    obtain ⟨hs, h5⟩ := onlyIf_some h2
    rw [Bool.and_eq_true] at hs
    obtain ⟨ha, ok⟩ := compOk_of hs.1
    refine e2_3 (oTwo_some h5) fun ks e k1 k2 e_209 => ?_
    obtain rfl := e_209
    exact ⟨_, iter, ks.1, ks.2, e, _, _, by rw [ha, List.isEmpty_iff.mp hs.2], cg_name ok, k1, k2, rfl⟩
theorem e_lc {n : Nat} {c : CC} {elt : Expr} {gens : List Comprehension} {scope : Scope} {pos : Pos} {ie : IE} (g : GOk D c.G c.mts) (ih : ∀ c e ie, GOk D c.G c.mts → compE n c e = some ie → Both D Φ k c e ie) (h : cLc (compE n) c elt gens scope = some ie) : Both D Φ k c (.ListComp elt gens scope pos) ie := by
  obtain ⟨tgt, iter, kk, ss, ielt, c', bdf, rfl, cg, h1, h2, hie⟩ := lc_inv (D := D) (Φ := Φ) (k := k) h
  exact e_comp g ih cg h1 h2 (noSetIter h1) hie
theorem isBk_some {o : Option V} (h : isBk o = true) : o = some .bk := by
  cases o with
  | none => exact Bool.noConfusion h
  | some v => cases v with
    | bk => rfl
    | _ => exact Bool.noConfusion h
theorem e_fn {n : Nat} {c : CC} {fn : Expr} {args : List Expr} {p : Pos} {ie : IE} (hO : OrcOk D k Φ) (g : GOk D c.G c.mts) (ihE : ∀ e ie, compE n c e = some ie → SE D Φ k c e ie) (h : cCall (compE n c) c fn args p = some ie) : Both D Φ k c (.Call fn args [] p) ie := by
  obtain ⟨hs, h⟩ := onlyIf_some h
  rw [Bool.and_eq_true, Bool.not_eq_true'] at hs
  cases fn with
  | Name x px =>
    have h : (match isBk (globV c x) with
      | true => onlyIf args.isEmpty (some IE.new)
      | false => oTwo IE.call (globV c x) (mapO (compE n c) args)) = some ie := h
    cases hb : isBk (globV c x) with
    | true =>
      rw [hb] at h
      obtain ⟨h0, h⟩ := onlyIf_some h
      obtain rfl : args = [] := List.isEmpty_iff.mp h0
      obtain rfl := Option.some.inj h
      exact e_new g hO (isBk_some hb)
    | false =>
      rw [hb] at h
      refine e2_3 (oTwo_some h) fun a b h1 h2 e_211 => ?_
      obtain rfl := e_211
      exact e_call g hO ihE hs.1 h1 h2
  | Attribute o name apos =>
    obtain ⟨hs2, h⟩ := onlyIf_some h
    rw [Bool.and_eq_true] at hs2
    have hl := Nat.eq_of_beq_eq_true hs2.2
    cases hm : mtOf name with
    | some m =>
      rw [hm] at h
      have h : (match m.one with
        | true => on1 args fun a => oTwo (fun v i => IE.meth v m [i]) (compE n c o) (compE n c a)
        | false => onlyIf args.isEmpty ((compE n c o).map fun v => IE.meth v m [])) = some ie := h
      rw [mtOf_some hm]
      cases h1 : m.one with
      | true =>
        rw [h1] at h
        refine e1_2 (on1_some h) fun a e_212 h => ?_
        obtain rfl := e_212
        refine e2_3 (oTwo_some h) fun v ia ho hia e_213 => ?_
        obtain rfl := e_213
        have hst := hs.1
        rw [List.any_cons, Bool.or_eq_false_iff] at hst
        exact e_meth (ihE _ _ ho) (ihE _ _ hia) hs2.1 hl hst.1 h1
      | false =>
        rw [h1] at h
        obtain ⟨h0, h⟩ := onlyIf_some h
        obtain rfl : args = [] := List.isEmpty_iff.mp h0
        refine e1_2 (Option.map_eq_some_iff.mp h) fun v ho e_214 => ?_
        obtain rfl := e_214
        exact e_meth0 (ihE _ _ ho) hs2.1 hl h1
    | none =>
      rw [hm] at h
      obtain ⟨hc, h⟩ := onlyIf_some h
      refine e2_3 (oTwo_some h) fun v as ho ha e_215 => ?_
      obtain rfl := e_215
      exact e_mcall g hO ihE (ihE _ _ ho) hc hs2.1 hl hs.1 (Nat.ble_eq.mp hs.2) ha
  | _ => exact no_some h
theorem e_cm {n : Nat} {c : CC} {l : Expr} {ops : List CmpOp} {rs : List Expr} {p : Pos} {ie : IE} (ihE : ∀ e ie, compE n c e = some ie → SE D Φ k c e ie) (h : cCmp (compE n c) (compE n c l) ops rs = some ie) : Both D Φ k c (.Compare l ops rs p) ie := by
  cases ops with
  | nil => exact no_some h
  | cons op ops =>
    cases ops with
    | nil =>
      refine e1_2 (on1_some (show on1 rs _ = some ie from h)) fun r e_216 h => ?_
      obtain rfl := e_216
      refine e2_3 (oTwo_some h) fun a b h1 h2 e_217 => ?_
      obtain rfl := e_217
      exact e_cmp (ihE _ _ h1) (ihE _ _ h2) (noMarks h2)
    | cons op2 ops =>
      obtain ⟨hl, h⟩ := onlyIf_some (show onlyIf _ _ = some ie from h)
      refine e2_2 (on2_some h) fun r r' e_218 h => ?_
      obtain rfl := e_218
      refine e3_4 (oThree_some h) fun a b d h1 h2 h3 e_219 => ?_
      obtain rfl := e_219
      cases ops with
      | nil => exact e_cmp2 (ihE _ _ h1) (ihE _ _ h2) (ihE _ _ h3) (noMarks h3)
      | cons _ _ => exact Bool.noConfusion hl
theorem soundE (hO : OrcOk D k Φ) : ∀ (n : Nat) (c : CC) (e : Expr) (ie : IE), GOk D c.G c.mts → compE n c e = some ie → Both D Φ k c e ie := by
  intro n
  induction n with
  | zero => intro c e ie g h; exact no_some h
  | succ n ih =>
    intro c e ie g h
    have ihB : ∀ e ie, compE n c e = some ie → Both D Φ k c e ie := fun e ie h => ih c e ie g h
    have ihE : ∀ e ie, compE n c e = some ie → SE D Φ k c e ie := fun e ie h => (ihB e ie h).1
    cases e with
    | Constant kk a b =>
      obtain ⟨W, hW, rfl⟩ := Option.map_eq_some_iff.mp h; exact e_const hW
    | Name x p => exact e_name g h
    | BinOp l op r p => obtain ⟨a, b, h1, h2, rfl⟩ := oTwo_some h; exact e_bin (ihE _ _ h1) (ihE _ _ h2)
    | UnaryOp op x p =>
      cases op with
      | USub => obtain ⟨a, ha, rfl⟩ := Option.map_eq_some_iff.mp h; exact e_neg (ihE _ _ ha)
      | Not => obtain ⟨a, ha, rfl⟩ := Option.map_eq_some_iff.mp h; exact e_not (ihB _ _ ha)
      | _ => exact no_some h
    | BoolOp op vs p =>
      refine e1_2 (Option.bind_eq_some_iff.mp h) fun ies h1 h2 => ?_
      cases op with
      | And => exact e_and ihB h1 h2
      | Or => exact e_or ihB h1 h2
    | IfExp t a b p => obtain ⟨a, b, d, h1, h2, h3, rfl⟩ := oThree_some h; exact e_ite (ihB _ _ h1) (ihB _ _ h2) (ihB _ _ h3)
    | Compare l ops rs p => exact e_cm ihE h
    | Tuple es a p =>
      obtain ⟨hs, h⟩ := onlyIf_some h
      refine e1_2 (Option.map_eq_some_iff.mp h) fun a ha e_220 => ?_
      obtain rfl := e_220
      exact e_tup ihE (bnot hs) ha
    | List es p =>
      obtain ⟨hs, h⟩ := onlyIf_some h
      refine e1_2 (Option.map_eq_some_iff.mp h) fun a ha e_221 => ?_
      obtain rfl := e_221
      exact e_lst ihE (bnot hs) ha
    | Call f args kw p =>
      obtain ⟨hs, h⟩ := onlyIf_some h
      obtain rfl : kw = [] := List.isEmpty_iff.mp hs
      exact e_fn hO g ihE h
    | Subscript o i p =>
      have plain : oTwo IE.sub (compE n c o) (compE n c i) = some ie → Both D Φ k c (.Subscript o i p) ie := fun h => by
        refine e2_3 (oTwo_some h) fun a b h1 h2 e_222 => ?_
        obtain rfl := e_222
        exact e_sub (ihE _ _ h1) (ihE _ _ h2) (noSlice h2)
      cases i with
      | Slice lo hi st sp =>
        cases st with
        | none =>
          refine e3_4 (oThree_some (show oThree IE.slice _ _ _ = some ie from h)) fun a b d h1 h2 h3 e_223 => ?_
          obtain rfl := e_223
          exact e_slice ihE h1 h2 h3
        | some e =>
          obtain ⟨hc, h⟩ := onlyIf_some (show onlyIf _ _ = some ie from h)
          rw [Bool.and_eq_true, Bool.and_eq_true] at hc
          refine e1_2 (Option.map_eq_some_iff.mp h) fun a ha e_224 => ?_
          obtain rfl := e_224
          obtain rfl := Option.isNone_iff_eq_none.mp hc.1.2
          obtain rfl := Option.isNone_iff_eq_none.mp hc.2
          exact e_rev (ihE _ _ ha) hc.1.1
      | _ => exact plain h
    | ListComp elt gens scope pos => exact e_lc g ih h
    | Attribute o x p =>
      obtain ⟨hc, h⟩ := onlyIf_some h
      rw [Bool.and_eq_true] at hc
      refine e1_2 (Option.map_eq_some_iff.mp h) fun a ha e_225 => ?_
      obtain rfl := e_225
      exact e_attr g (ihE _ _ ha) hc.1 hc.2
    | Dict ks vs p =>
      obtain ⟨hc, h⟩ := onlyIf_some h
      rw [Bool.and_eq_true] at hc
      obtain rfl := Option.some.inj h
      obtain rfl := List.isEmpty_iff.mp hc.1
      obtain rfl := List.isEmpty_iff.mp hc.2
      exact e_dct
    | _ => exact no_some h
end
end Mine
namespace Mine
open PySem PyProof.Rows
noncomputable def ownA (env : Env) : List Addr := env.locals :: env.cells.map (·.2)
structure FRel (D : Wd) (γ : List Addr) (env : Env) (slots : List (Str × Nat)) (h : Heap) (L : Lc) : Prop where
  l : LRel D γ env slots h L
  own : ∀ a ∈ ownA env, a ∉ γ ∧ D.hB.get? a = none ∧ (∃ o, h.get? a = some o) ∧ ∀ ws, ¬ TupAt h a ws
  apart : env.cells.Pairwise fun x y => x.2 ≠ y.2
  above : ∀ p ∈ env.cells, p.2 ≠ env.locals
  top : ∃ outer, D.fr = env :: outer ∧ env.frame = some env.locals
noncomputable def FlRep (mg : Wd) (γ : List Addr) (h : Heap) (fl : Flow) (F : Fl) : Prop := match F with
  | .next => fl = .next
  | .cont => fl = .cont
  | .ret V => ∃ v, fl = .ret v ∧ Rep mg γ h v V
noncomputable def PostF (D : Wd) (γ : List Addr) (s : Shared) (env : Env) (slots : List (Str × Nat)) (Q : QS) (fl : Flow) (s' : Shared) : Prop :=
  ∃ γ' H' L' F, Stp (ownA env) γ γ' s s' ∧ HRel D γ' H' s'.heap ∧ FRel D γ' env slots s'.heap L' ∧ FlRep D γ' s'.heap fl F ∧ Q F L' H'
noncomputable def PostE (D : Wd) (γ : List Addr) (s : Shared) (env : Env) (slots : List (Str × Nat)) (X : XS) (e : Value) (s' : Shared) : Prop :=
  ∃ γ' H' L' x, Stp (ownA env) γ γ' s s' ∧ HRel D γ' H' s'.heap ∧ FRel D γ' env slots s'.heap L' ∧ ((XNew D γ' s s'.heap e x ∨ XFly D γ' s s'.heap e x) ∧ (x.cls, x.ups) ∈ D.ex) ∧ X x L' H'
theorem PostE.no {D : Wd} {γ : List Addr} {s : Shared} {env : Env} {slots : List (Str × Nat)} {e : Value} {s' : Shared} (h : PostE D γ s env slots noXS e s') : False := by
  obtain ⟨_, _, _, _, _, _, _, _, x⟩ := h; exact x
structure SlotsOk (c : CC) : Prop where
  inj : ∀ (x y : Str) (i : Nat), c.slots.lookup x = some i → c.slots.lookup y = some i → x = y
section
variable {D : Wd} {Φ : Orc} {k : Nat} {γ γ1 : List Addr} {H H1 : Hp} {s s1 : Shared} {env : Env} {slots : List (Str × Nat)} {L : Lc}
theorem FRel.stp (f : FRel D γ env slots s.heap L) (R : HRel D γ H s.heap) (t : Stp [] γ γ1 s s1) : FRel D γ1 env slots s1.heap L where
  l := f.l.stp R t
  own := fun a ha => by
    refine e0_4 (f.own a ha) fun h1 h2 e_226 h3 => ?_
    obtain ⟨o, e⟩ := e_226
    refine e1_2 (t.keepS _ _ h1 (fun h => nomatch h) e) fun sl e' hs => ?_
    refine ⟨notin_ext t h1 e, h2, ⟨_, e'⟩, fun ws q => h3 ws ?_⟩
    refine e1_2 q fun n q1 q2 => ?_
    rw [e'] at q1
    have hd : o.data = .seq ws.toArray n := congrArg Obj.data (Option.some.inj q1)
    rw [hs (notD_seq hd)] at q1
    exact ⟨n, e.trans q1, q2⟩
  apart := f.apart
  above := f.above
  top := f.top
theorem Stp.transF {wr γ2 : List Addr} {s2 : Shared} (R1 : HRel D γ1 H1 s1.heap) (a : Stp wr γ γ1 s s1) (b : Stp wr γ1 γ2 s1 s2) (hw : ∀ x ∈ wr, ∃ o', s1.heap.get? x = some o') : Stp wr γ γ2 s s2 :=
  a.trans R1 b (fun x hx _ _ => hw x hx)
theorem FRel.alive (f : FRel D γ env slots s.heap L) : ∀ x ∈ ownA env, ∃ o', s.heap.get? x = some o' := fun x hx => by
  obtain ⟨_, _, e, _⟩ := f.own x hx; exact e
theorem PostF.back {Q : QS} {fl : Flow} {s' : Shared} {L1 : Lc} (t : Stp (ownA env) γ γ1 s s1) (R : HRel D γ1 H1 s1.heap) (f : FRel D γ1 env slots s1.heap L1) (h : PostF D γ1 s1 env slots Q fl s') : PostF D γ s env slots Q fl s' := by
  refine e4_5 h fun γ' H' L' F a b c d e => ?_
  exact ⟨γ', H', L', F, t.transF R a f.alive, b, c, d, e⟩
theorem fresh_backF {wr : List Addr} (t : Stp wr γ γ1 s s1) (R : HRel D γ1 H1 s1.heap) (hw : ∀ x ∈ wr, ∃ o', s1.heap.get? x = some o') {a : Addr} (h : s1.heap.get? a = none) : s.heap.get? a = none := by
  cases e : s.heap.get? a with
  | none => rfl
  | some o =>
    by_cases hg : a ∈ γ
    · refine e1_2 (t.ext) fun δ e1 _ => ?_
      obtain ⟨⟨o', e'⟩, _⟩ := R.alive (a := a) (by rw [e1]; exact List.mem_append_left _ hg)
      rw [h] at e'; exact no_some e'
    · by_cases hx : a ∈ wr
      · obtain ⟨o', e'⟩ := hw a hx
        rw [h] at e'; exact no_some e'
      · obtain ⟨o', e'⟩ := t.live hg hx e
        rw [h] at e'; exact no_some e'
theorem PostE.back {X : XS} {e : Value} {s' : Shared} {L1 : Lc} (t : Stp (ownA env) γ γ1 s s1) (R : HRel D γ1 H1 s1.heap) (f : FRel D γ1 env slots s1.heap L1) (h : PostE D γ1 s1 env slots X e s') : PostE D γ s env slots X e s' := by
  refine e4_5 h fun γ' H' L' x a b c e_227 q => ?_
  obtain ⟨d, m⟩ := e_227
  have fb : ∀ a, s1.heap.get? a = none → s.heap.get? a = none := fun a => fresh_backF t R f.alive
  exact ⟨γ', H', L', x, t.transF R a f.alive, b, c, ⟨d.imp (·.from fb) (·.from fb), m⟩, q⟩
theorem PostX.toE {X : XS} {e : Value} {s' : Shared} (f : FRel D γ env slots s.heap L) (R : HRel D γ H s.heap) (h : PostX D γ s (fun x => X x L) e s') : PostE D γ s env slots X e s' := by
  refine e3_4 h fun γ' H' x a b e_228 q => ?_
  obtain ⟨c, m⟩ := e_228
  exact ⟨γ', H', L, x, a.weak, b, f.stp R a, ⟨.inr c, m⟩, q⟩
theorem lookup_cell_mem {x : Str} {c : Addr} (h : env.cells.lookup x = some c) : c ∈ ownA env := List.mem_cons_of_mem _ (List.mem_map.mpr ⟨(x, c), mem_of_lookup h, rfl⟩)
theorem notTup_cell {h : Heap} {c : Addr} {u : Option Value} (x : h.IsCell c u) (ws : List Value) : ¬ TupAt h c ws := fun q => by
  refine e1_2 x fun o e d => ?_
  refine e1_2 q fun n e' _ => ?_
  rw [e] at e'; cases e'; cases d
theorem notTup_same {h h' : Heap} {a : Addr} {o : Obj} (e : h.get? a = some o) (e' : h'.get? a = some o) (q : ∀ ws, ¬ TupAt h a ws) (ws : List Value) : ¬ TupAt h' a ws := fun x => by
  refine e1_2 x fun n q1 q2 => ?_
  rw [e'] at q1; cases q1
  exact q ws ⟨n, e, q2⟩
theorem store_ok {c : CC} {A : Around} {E : Value → Shared → Prop} {x : Str} {i : Nat} {v : Value} {W : V} (hE : EnvOk c env) (so : SlotsOk c) (R : HRel D γ H s.heap) (f : FRel D γ env c.slots s.heap L) (hs : slotV c x = some i) (rv : Rep D γ s.heap v W) :
    wpAny D.M A (storeName env x v) (fun _ s' => Stp (ownA env) γ γ s s' ∧ HRel D γ H s'.heap ∧ FRel D γ env c.slots s'.heap (L.set i (some W))) E s := by
  have hkf : env.scope.kind = .function := by rw [hE.scope]; exact hE.kind
  have hkind : ∀ y, env.kindOf y = c.scope.names.lookup y := fun y => by unfold Env.kindOf; rw [hE.scope]
  refine e1_2 (Option.bind_eq_some_iff.mp hs) fun kk hk hs => ?_
  have hk' : env.kindOf x = some kk := (hkind x).trans hk
  cases kk with
  | «local» =>
    have hs : c.slots.lookup x = some i := hs
    refine e1_2 (f.l.ns) fun m hn fm => ?_
    refine e0_4 (f.own env.locals List.mem_cons_self) fun lg lB _ cL => ?_
    refine wpAny_storeName_local hk' hn (fun h' hn' hs' => ?_) (by rw [hkf]; rfl)
    have hkk : ∀ b o, b ≠ env.locals → s.heap.get? b = some o → h'.get? b = some o := fun b o hb e => hs'.extBut b o hb e
    have tt : ∀ a ws, TupAt s.heap a ws → TupAt h' a ws := fun a ws q => tupAt_but hkk cL q
    refine ⟨Stp.of ⟨_, _, rfl⟩ (fun b o _ hb e => hkk b o (fun q => hb (q ▸ List.mem_cons_self)) e) ⟨[], by simp, by simp⟩, R.but hkk lg lB cL (.inr (.inl (isD_ns hn'))), ⟨⟨⟨_, hn', ?_⟩, ?_, lg, f.l.tp⟩, ?_, f.apart, f.above, f.top⟩⟩
    · intro y j V hy hj hL
      by_cases hxy : y = x
      · subst hxy
        rw [hs] at hj; obtain rfl := Option.some.inj hj
        obtain rfl := set_get hL
        exact ⟨v, by simp, Rep.mono ⟨[], by simp⟩ tt rv⟩
      · have hij : i ≠ j := fun q => hxy (so.inj y x i (q ▸ hj) hs)
        rw [List.getElem?_set_ne hij] at hL
        refine e1_2 (fm y j V hy hj hL) fun u hu ru => ?_
        exact ⟨u, by simp [hxy, hu], Rep.mono ⟨[], by simp⟩ tt ru⟩
    · intro y hy
      refine e2_4 (f.l.cel y hy) fun ca u e1 e2 e3 e4 => ?_
      refine ⟨ca, u, e1, e2.sameBut hs' (f.above (y, ca) (mem_of_lookup e1)), e3, fun j V hj hL => ?_⟩
      have hij : i ≠ j := fun q => by
        have := so.inj y x i (q ▸ hj) hs
        subst this; rw [hy] at hk'; cases hk'
      rw [List.getElem?_set_ne hij] at hL
      refine e1_2 (e4 j V hj hL) fun w hw rw_ => ?_
      exact ⟨w, hw, Rep.mono ⟨[], by simp⟩ tt rw_⟩
    · intro a ha
      refine e0_4 (f.own a ha) fun a1 a2 e_229 a3 => ?_
      obtain ⟨o, e⟩ := e_229
      by_cases hal : a = env.locals
      · subst hal
        exact ⟨a1, a2, (let ⟨o', _, _, eo, _⟩ := hn'; ⟨o', eo⟩), notTup_dict hn'⟩
      · exact ⟨a1, a2, ⟨o, hkk _ _ hal e⟩, notTup_same e (hkk _ _ hal e) a3⟩
  | cell =>
    have hs : c.slots.lookup x = some i := hs
    refine e2_4 (f.l.cel x hk') fun ca u e1 e2 e3 e4 => ?_
    refine e0_4 (f.own ca (lookup_cell_mem e1)) fun lg lB _ cL => ?_
    have hcl : ca ≠ env.locals := f.above (x, ca) (mem_of_lookup e1)
    refine wpAny_storeName_cell hkf hk' e1 e2 (fun h' hc' hs' => ?_)
    have hkk : ∀ b o, b ≠ ca → s.heap.get? b = some o → h'.get? b = some o := fun b o hb e => hs'.extBut b o hb e
    have tt : ∀ a ws, TupAt s.heap a ws → TupAt h' a ws := fun a ws q => tupAt_but hkk cL q
    refine e1_2 (f.l.ns) fun m hn fm => ?_
    refine ⟨Stp.of ⟨_, s.toks, rfl⟩ (fun b o _ hb e => hkk b o (fun q => hb (q ▸ lookup_cell_mem e1)) e) ⟨[], by simp, by simp⟩, R.but hkk lg lB cL (.inl (let ⟨o, e, d⟩ := e2; ⟨o, e, fun es n q => by rw [d] at q; cases q⟩)), ⟨⟨⟨m, hn.sameBut hs' (Ne.symm hcl), ?_⟩, ?_, f.l.nin, f.l.tp⟩, ?_, f.apart, f.above, f.top⟩⟩
    · intro y j V hy hj hL
      have hij : i ≠ j := fun q => by
        have := so.inj y x i (q ▸ hj) hs
        subst this; rw [hy] at hk'; cases hk'
      rw [List.getElem?_set_ne hij] at hL
      refine e1_2 (fm y j V hy hj hL) fun w hw rw_ => ?_
      exact ⟨w, hw, Rep.mono ⟨[], by simp⟩ tt rw_⟩
    · intro y hy
      by_cases hxy : y = x
      · subst hxy
        refine ⟨ca, some v, e1, hc', e3, fun j V hj hL => ?_⟩
        rw [hs] at hj; obtain rfl := Option.some.inj hj
        obtain rfl := set_get hL
        exact ⟨v, rfl, Rep.mono ⟨[], by simp⟩ tt rv⟩
      · refine e2_4 (f.l.cel y hy) fun cb u' f1 f2 f3 f4 => ?_
        have hne : cb ≠ ca := fun q => hxy (name_of_addr f.apart (mem_of_lookup f1) (q ▸ mem_of_lookup e1))
        refine ⟨cb, u', f1, f2.sameBut hs' hne, f3, fun j V hj hL => ?_⟩
        have hij : i ≠ j := fun q => hxy (so.inj y x i (q ▸ hj) hs)
        rw [List.getElem?_set_ne hij] at hL
        refine e1_2 (f4 j V hj hL) fun w hw rw_ => ?_
        exact ⟨w, hw, Rep.mono ⟨[], by simp⟩ tt rw_⟩
    · intro a ha
      refine e0_4 (f.own a ha) fun a1 a2 e_230 a3 => ?_
      obtain ⟨o, e⟩ := e_230
      by_cases hal : a = ca
      · subst hal
        exact ⟨a1, a2, (let ⟨o', eo, _⟩ := hc'; ⟨o', eo⟩), notTup_cell hc'⟩
      · exact ⟨a1, a2, ⟨o, hkk _ _ hal e⟩, notTup_same e (hkk _ _ hal e) a3⟩
  | _ => exact no_some hs
end
section
variable {D : Wd} {γ γ1 γ0 : List Addr} {H H1 H0 : Hp} {s s1 : Shared} {env : Env} {slots : List (Str × Nat)} {L : Lc} {ex : List Addr} {h h' : Heap}
theorem FRel.butN {h h' : Heap} {I : Addr} (f : FRel D γ env slots h L) (hk : ∀ b o, b ≠ I → h.get? b = some o → h'.get? b = some o) (hI : I ∉ ownA env) (nt : ∀ ws, ¬ TupAt h I ws) : FRel D γ env slots h' L where
  l := {
    ns := by
      refine e1_2 (f.l.ns) fun m n r => ?_
      refine ⟨m, n.at' fun o e => hk _ o (fun q => hI (q ▸ List.mem_cons_self)) e, fun x i V a b c => ?_⟩
      refine e1_2 (r x i V a b c) fun v e q => ?_
      exact ⟨v, e, Rep.mono ⟨[], by simp⟩ (fun _ _ q => tupAt_but hk nt q) q⟩
    cel := fun x hx => by
      refine e2_4 (f.l.cel x hx) fun c u a e_231 hc r => ?_
      obtain ⟨o, ho, hd⟩ := e_231
      refine ⟨c, u, a, ⟨o, hk _ _ (fun q => hI (q ▸ lookup_cell_mem a)) ho, hd⟩, hc, fun i V b d => ?_⟩
      refine e1_2 (r i V b d) fun v e q => ?_
      exact ⟨v, e, Rep.mono ⟨[], by simp⟩ (fun _ _ q => tupAt_but hk nt q) q⟩
    nin := f.l.nin
    tp := f.l.tp }
  own := fun a ha => by
    refine e0_4 (f.own a ha) fun a1 a2 e_232 a3 => ?_
    obtain ⟨o, e⟩ := e_232
    have e' := hk a o (fun q => hI (q ▸ ha)) e
    exact ⟨a1, a2, ⟨o, e'⟩, notTup_same e e' a3⟩
  apart := f.apart
  above := f.above
  top := f.top
theorem Stp.butF {wr : List Addr} {h' : Heap} {tk : Nat} {z : Addr} (t : Stp wr γ γ1 s s1) (hk : ∀ b o, b ≠ z → s1.heap.get? b = some o → h'.get? b = some o) (hz : s.heap.get? z = none) : Stp wr γ γ1 s { s1 with heap := h', toks := tk } := by
  refine ⟨?_, fun b o hb hw e => let ⟨sl, e', q⟩ := t.keepS b o hb hw e; ⟨sl, hk b _ (by rintro rfl; rw [hz] at e; exact no_some e) e', q⟩, t.ext⟩
  refine e2_1 (t.same) fun h1 t1 e_233 => ?_
  obtain rfl := e_233
  exact ⟨_, _, rfl⟩
theorem Land.frel (l : Land ex h h') (R : HRel D γ H h) (X : ExF D γ s h ex) (alive : ∀ a ∈ ownA env, ∃ o, s.heap.get? a = some o) (f : FRel D γ env slots h L) : FRel D γ env slots h' L where
  l := {
    ns := by
      refine e1_2 (f.l.ns) fun m n r => ?_
      refine ⟨m, l.up.ns n, fun x i V a b c => ?_⟩
      refine e1_2 (r x i V a b c) fun v e q => ?_
      exact ⟨v, e, l.rep R.frs X q⟩
    cel := fun x hx => by
      refine e2_4 (f.l.cel x hx) fun c u a e_234 hc r => ?_
      obtain ⟨o, ho, hd⟩ := e_234
      refine ⟨c, u, a, ⟨o, l.same R.frs X (fun es n q => by rw [hd] at q; cases q) (fun vs q => by rw [hd] at q; cases q) ho, hd⟩, hc, fun i V b d => ?_⟩
      refine e1_2 (r i V b d) fun v e q => ?_
      exact ⟨v, e, l.rep R.frs X q⟩
    nin := f.l.nin
    tp := f.l.tp }
  own := fun a ha => by
    refine e0_4 (f.own a ha) fun a1 a2 e_235 a3 => ?_
    obtain ⟨o, e⟩ := e_235
    by_cases hx : a ∈ ex
    · rcases X.each a hx with q | ⟨q, _⟩
      · obtain ⟨_, o', e', d⟩ := R.frs.at q
        rw [e] at e'; cases e'
        obtain ⟨sl, e2⟩ := l.up a o e fun vs q => d (notD_fields q)
        refine ⟨a1, a2, ⟨_, e2⟩, fun ws t => d ?_⟩
        refine e1_2 t fun n t1 _ => ?_
        rw [e2] at t1
        have hd : o.data = .seq ws.toArray n := congrArg Obj.data (Option.some.inj t1)
        exact notD_seq hd
      · obtain ⟨o', e'⟩ := alive a ha
        rw [e'] at q; cases q
    · have e2 := l.stays a o hx e
      exact ⟨a1, a2, ⟨o, e2⟩, notTup_same e e2 a3⟩
  apart := f.apart
  above := f.above
  top := f.top
theorem not_g {a : Addr} (R : HRel D γ H h) (X : ExF D γ s h ex) (ha : a ∈ ex) : a ∉ γ := by
  rcases X.each a ha with q | ⟨_, _, q, _⟩
  · exact (R.frs.at q).1.2
  · exact q
theorem held_back {A : Around} {X : XS} {e : Value} {k : Nat} (hA : AOk D k A) (R0 : HRel D γ H s.heap) (alive : ∀ a ∈ ownA env, ∃ o, s.heap.get? a = some o) (p : PostE D γ s env slots X e s1) :
    notedBy D.M A env (fun e s' => cameBackBy D.M A env (PostE D γ s env slots X) e s') e s1 := by
  refine e4_5 p fun γ' H' L' x st R1 fr1 e_236 q => ?_
  obtain ⟨hx, hex⟩ := e_236
  refine e1_2 (fr1.top) fun outer htop hfr => ?_
  refine note_any hA.frames R0 R1 htop hfr hx fun a C a0 ex h' e1 hmg hn hax XF up hh => ?_
  subst e1
  refine came hh fun h2 hh2 up2 => ?_
  obtain ⟨k1, k2, k3, fl, k4⟩ := hh2
  have land : Land ex s1.heap h2 := Land.of k1 (up.trans up2)
  exact ⟨γ', H', L', x, land.stp R1.frs XF st, land.rel R1 XF, land.frel R1 XF alive fr1, ⟨.inr (fly_of (fun b => fresh_backF st R1 fr1.alive) R1.frs (fun b hb => (R1.nin hb).1) (not_g R1 XF hax) XF land hmg hn k4), hex⟩, q⟩
end
end Mine
set_option maxRecDepth 100000
namespace Mine
open PySem
open Sem (wp)
namespace F2
theorem lk_class : typeLookup (.type "ValueError") "__class__" = pure (some (.builtin "object.__class__")) := by rw [typeLookup_type, builtinLookup_eq_fast]; kernel_rfl
theorem lk_getattr : typeLookup (.type "ValueError") "__getattr__" = pure none := by rw [typeLookup_type, builtinLookup_eq_fast]; kernel_rfl
theorem typeOf_ve : typeOf (.type "ValueError") = pure (.type "type") := by kernel_rfl
end F2
section
variable {prog : Program} {w : World} {A : Around} {E : Value → Shared → Prop} {h : Heap} {g : Array GenState} {d : Drawn} {t : Nat} {os : OsState} {a C : Addr} {o : Obj} {bm : List Value}
theorem lookupTail {M : Model} {bmB tl : List Value} {n : Str} {y : Option Value} {Q : Option Value → Shared → Prop} (hn : n ∈ qN) (T : TailN h bmB tl) (hrest : lookupAlong bmB n = pure y) (hq : Q y ⟨h, g, d, t, os⟩) :
    wpAny M A (lookupAlong tl n) Q E ⟨h, g, d, t, os⟩ := by
  induction T with
  | base => rw [hrest]; exact wpAny_pure hq
  | own hA hN hni _ ih =>
    rw [lookupAlong_cons]
    refine wpAny_bind (wpAny_classOwn_cls hA hN ?_)
    rw [hni n hn]
    exact ih
theorem lookupOwn {M : Model} {n : Str} {y : Option Value} {Q : Option Value → Shared → Prop} (hn : n ∈ qN) (hC : ClsAt h C bm) (hB : typeLookup (.type "ValueError") n = pure y) (hq : Q y ⟨h, g, d, t, os⟩) : wpAny M A (typeLookup (.ref C) n) Q E ⟨h, g, d, t, os⟩ := by
  obtain ⟨N, nm, q, bs, hdct, sn, sub, ab, col, dd, k0, k1, k2, k3, k5, mN, hC, hN, hmN, T⟩ := hC
  have hrest : lookupAlong bmV n = pure y := by rw [typeLookup_eq, F.excBase_ValueError.mroIs] at hB; exact hB
  rw [typeLookup_eq]
  refine wpAny_bind (wpAny_mroOf_exc hC ?_)
  rw [lookupAlong_cons]
  refine wpAny_bind (wpAny_classOwn_exc hC hN ?_)
  rw [hmN n hn]
  exact lookupTail hn T hrest hq
theorem subOwn {M : Model} {base : Value} {Q : Bool → Shared → Prop} (hC : ClsAt h C bm) (hq : Q ((Value.ref C :: bm).contains base) ⟨h, g, d, t, os⟩) : wpAny M A (isSubtype (.ref C) base) Q E ⟨h, g, d, t, os⟩ := by
  obtain ⟨N, nm, q, bs, hdct, sn, sub, ab, col, dd, k0, k1, k2, k3, k5, mN, hC, hN, hmN, T⟩ := hC
  exact wpAny_isSubtype_exc hC hq
theorem hasT (hC : ClsAt h C bm) {X : String} {b : Bool} (hb : bmV.contains (.type X) = b) : (Value.ref C :: bm).contains (.type X) = b := by
  obtain ⟨N, nm, q, bs, hdct, sn, sub, ab, col, dd, k0, k1, k2, k3, k5, mN, hC, hN, hmN, T⟩ := hC
  rw [List.contains_cons, T.tail.hasType hb]; rfl
theorem partOwn (hC : ClsAt h C bm) : ∃ oC cd, h.get? C = some oC ∧ oC.cls = .type "type" ∧ oC.data = .cls cd := by
  obtain ⟨N, nm, q, bs, hdct, sn, sub, ab, col, dd, k0, k1, k2, k3, k5, mN, hC, hN, hmN, T⟩ := hC
  exact ⟨_, _, hC, rfl, rfl⟩
theorem checkGa {M : Model} {nameV : Value} {Q : Unit → Shared → Prop} (hC : ClsAt h C bm) (hx : h.get? a = some o) (hc : o.cls = .ref C) (hq : Q () ⟨h, g, d, t, os⟩) :
    wpAny M A (checkBuiltinCall "BaseException.__getattribute__" ⟨[.ref a, nameV], []⟩) Q E ⟨h, g, d, t, os⟩ := by
  have hk : builtinKind "BaseException.__getattribute__" = some .slot := by decide +kernel
  have hsplit : splitId "BaseException.__getattribute__" = some ("BaseException", "__getattribute__") := by decide +kernel
  have hcB : (Value.ref C :: bm).contains (.type "BaseException") = true := hasT hC rfl
  have ha := F.args_bexc_ga (.ref a) nameV
  simp only [checkBuiltinCall, hk, hsplit]
  refine wpAny_bind ?_
  · unfold isInstance
    repeat (first | (with_reducible refine wpAny_loadPart_at hx ?_; rw [hc]) | (with_reducible refine subOwn hC ?_; rw [hcB]) | wp_step)
    exact hq
theorem classGet {R : Result → Shared → Prop} (hC : ClsAt h C bm) (hx : h.get? a = some o) (hc : o.cls = .ref C) (hq : R (.ok (.ret (.ref C))) ⟨h, g, d, t, os⟩) :
    codeAny (model prog w) A (.call (.builtin "getset_descriptor.__get__") ⟨[.builtin "object.__class__", .ref a, .ref C], []⟩) R ⟨h, g, d, t, os⟩ := by
  have hT5 : (⟨h, g, d, t, os⟩ : Shared).TypeIs (.builtin "object.__class__") "getset_descriptor" := F.typeOf_object_class
  have hcB : (Value.ref C :: bm).contains (.type (".".intercalate ("object.__class__".cutAt '.').dropLast)) = true := by rw [F.owner_object_class]; exact hasT hC rfl
  refine codeAny_call_builtin F.slot_gs_get.plain F.entry_gs_get (F.slot_gs_get.check _ _ _ _ _ _ _ _ hT5 (F.args_gs_get _ _ _) ?_)
  repeat (any_goals (first | assumption | (with_reducible refine wpAny_loadPart_at hx ?_; rw [hc]) | (with_reducible refine subOwn hC ?_; rw [hcB]) | wp_step))
  refine ⟨Code.quiet_builtin _ (by decide +kernel), codeAny_builtin F.entry_object_class ?_⟩
  repeat (any_goals (first | assumption | (with_reducible refine wpAny_loadPart_at hx ?_; rw [hc]) | wp_step))
theorem classEntry {tk : Tok} {Q : Fin → Shared → Prop} (hC : ClsAt h C bm) (hx : h.get? a = some o) (hc : o.cls = .ref C) (hq : Q (.done (.ret (.ref C))) ⟨h, g, d, t, os⟩) :
    wpAny (model prog w) A (Builtin.«object.__getattribute__» ⟨[.ref a, .str "__class__" tk], []⟩) Q E ⟨h, g, d, t, os⟩ := by
  have hT5 : (⟨h, g, d, t, os⟩ : Shared).TypeIs (.builtin "object.__class__") "getset_descriptor" := F.typeOf_object_class
  have f5 := F.typeOf_object_class
  have f6 := F.slot_gs_get.lookup
  have f7 := F.slot_gs_set.lookup
  have hmA : ("__class__" : Str) ∈ qN := .tail _ (.tail _ (.tail _ (.head _)))
  repeat (any_goals (first | assumption | (with_reducible refine wpAny_loadPart_at hx ?_; rw [hc]) | with_reducible refine lookupOwn hmA hC F2.lk_class ?_ | wp_step))
  refine classGet hC hx hc ?_
  repeat (any_goals (first | assumption | wp_step))
theorem classBy {tk : Tok} {Q : Value → Shared → Prop} (hC : ClsAt h C bm) (hx : h.get? a = some o) (hc : o.cls = .ref C) (hq : Q (.ref C) ⟨h, g, d, t, os⟩) :
    wpAny (model prog w) A (getAttrBy (.ref a) (.str "__class__" tk) false) Q E ⟨h, g, d, t, os⟩ := by
  have FB := F.excAttr_ValueError
  have f3 := FB.ga.bind (.ref a)
  have hx2 : (Value.builtin "BaseException.__getattribute__" == Value.builtin "object.__getattribute__") = false := by decide +kernel
  have hx1 : (onTheHeap (Value.ref C) && Value.builtin "BaseException.__getattribute__" == Value.builtin "object.__getattribute__") = false := by rw [hx2]; rfl
  have hm1 : ("__getattribute__" : Str) ∈ qN := .tail _ (.head _)
  have hm2 : ("__getattr__" : Str) ∈ qN := .tail _ (.tail _ (.head _))
  repeat (any_goals (first | assumption | (with_reducible refine wpAny_loadPart_at hx ?_; rw [hc]) | with_reducible refine lookupOwn hm1 hC FB.ga.lookup ?_ | with_reducible refine lookupOwn hm2 hC F2.lk_getattr ?_ | wp_step))
  refine codeAny_call_builtin FB.ga.plain F.entry_bexc_ga (checkGa hC hx hc (classEntry hC hx hc ?_))
  repeat (any_goals (first | assumption | wp_step))
theorem classAttr {Q : Option Value → Shared → Prop} (hC : ClsAt h C bm) (hx : h.get? a = some o) (hc : o.cls = .ref C) (hq : Q (some (.ref C)) ⟨h, g, d, t + 1, os⟩) : wpAny (model prog w) A (getAttr? (.ref a) "__class__") Q E ⟨h, g, d, t, os⟩ := by
  unfold getAttr? getAttrBy?
  repeat (any_goals (first | assumption | with_reducible apply classBy hC hx hc | wp_step))
theorem nestedOwn {Cy : Addr} {bmy : List Value} {dep : Int} {tk : Tok} {Q : Fin → Shared → Prop} (hC : ClsAt h C bm) (hCy : ClsAt h Cy bmy) (hx : h.get? a = some o) (hc : o.cls = .ref C)
    (hq : ∀ t', Q (.done (.ret (.bool ((Value.ref C :: bm).contains (.ref Cy))))) ⟨h, g, d, t', os⟩) :
    wpAny (model prog w) A (Builtin.«isinstance.nested» ⟨[.ref a, .ref Cy, .int dep tk], []⟩) Q E ⟨h, g, d, t, os⟩ := by
  refine e2_3 (partOwn hCy) fun oy cdy hy1 hy2 hy3 => ?_
  refine e2_3 (partOwn hC) fun oC cdC hC1 hC2 hC3 => ?_
  by_cases he : C = Cy
  · subst he
    have hb : (Value.ref C :: bm).contains (.ref C) = true := by simp
    rw [hb] at hq
    have hq' := hq t
    have e0 : (Value.ref C == Value.ref C) = true := by simp
    repeat (any_goals (first | assumption | (with_reducible refine wpAny_loadPart_at hx ?_; rw [hc]) | wp_step))
  · have e0 : (Value.ref C == Value.ref Cy) = false := by simpa using he
    cases hb : (Value.ref C :: bm).contains (.ref Cy) with
    | true =>
      rw [hb] at hq
      have hq' := hq t
      repeat (any_goals (first | assumption | (with_reducible refine wpAny_loadPart_at hx ?_; rw [hc]) | (with_reducible refine wpAny_loadPart_at hy1 ?_; rw [hy2]) | (with_reducible refine wpAny_loadPart_at hy1 ?_; rw [hy3]) | (with_reducible refine subOwn hC ?_; rw [hb]) | wp_step))
    | false =>
      rw [hb] at hq
      have hq' := hq (t + 1)
      repeat (any_goals (first | assumption | (with_reducible refine wpAny_loadPart_at hx ?_; rw [hc]) | (with_reducible refine wpAny_loadPart_at hy1 ?_; rw [hy2]) | (with_reducible refine wpAny_loadPart_at hy1 ?_; rw [hy3]) | (with_reducible refine wpAny_loadPart_at hC1 ?_; rw [hC3]) | (with_reducible refine subOwn hC ?_; rw [hb]) | with_reducible apply classAttr hC hx hc | wp_step))
theorem nestedVE {dep : Int} {tk : Tok} {Q : Fin → Shared → Prop} (hC : ClsAt h C bm) (hx : h.get? a = some o) (hc : o.cls = .ref C)
    (hq : Q (.done (.ret (.bool true))) ⟨h, g, d, t, os⟩) : wpAny (model prog w) A (Builtin.«isinstance.nested» ⟨[.ref a, .type "ValueError", .int dep tk], []⟩) Q E ⟨h, g, d, t, os⟩ := by
  have hb : (Value.ref C :: bm).contains (.type "ValueError") = true := hasT hC rfl
  have e0 : (Value.ref C == Value.type "ValueError") = false := by rfl
  have e1 := F2.typeOf_ve
  repeat (any_goals (first | assumption | (with_reducible refine wpAny_loadPart_at hx ?_; rw [hc]) | (with_reducible refine subOwn hC ?_; rw [hb]) | wp_step))
theorem isiOwn {Cy : Addr} {bmy : List Value} {Q : Value → Shared → Prop} {s : Shared} (hC : ClsAt s.heap C bm) (hCy : ClsAt s.heap Cy bmy) (hx : s.heap.get? a = some o) (hc : o.cls = .ref C)
    (hq : ∀ t', Q (.bool ((Value.ref C :: bm).contains (.ref Cy))) { s with toks := t' }) : wpAny (model prog w) A (call (.builtin "isinstance") [.ref a, .ref Cy]) Q E s := by
  obtain ⟨h, g, d, t, os⟩ := s
  refine call_function_meets F.kind_isinstance F.plain_isinstance F.entry_isinstance (F.args_isinstance_2 _ _) (S := fun _ R s' => s' = ⟨h, g, d, t, os⟩ ∧ ∀ t', R (.ok (.ret (.bool ((Value.ref C :: bm).contains (.ref Cy))))) ⟨h, g, d, t', os⟩) ?_ ⟨rfl, hq⟩
  intro prog w A R s' hs
  obtain ⟨rfl, hs⟩ := hs
  exact isinstance_outer (nestedOwn hC hCy hx hc hs) (by intro e; cases e)
theorem isiVE {Q : Value → Shared → Prop} {s : Shared} (hC : ClsAt s.heap C bm) (hx : s.heap.get? a = some o) (hc : o.cls = .ref C)
    (hq : Q (.bool true) s) : wpAny (model prog w) A (call (.builtin "isinstance") [.ref a, .type "ValueError"]) Q E s := by
  obtain ⟨h, g, d, t, os⟩ := s
  refine call_function_meets F.kind_isinstance F.plain_isinstance F.entry_isinstance (F.args_isinstance_2 _ _) (S := fun _ R s' => s' = ⟨h, g, d, t, os⟩ ∧ R (.ok (.ret (.bool true))) ⟨h, g, d, t, os⟩) ?_ ⟨rfl, hq⟩
  intro prog w A R s' hs
  obtain ⟨rfl, hs⟩ := hs
  exact isinstance_outer (nestedVE hC hx hc hs) (by intro e; cases e)
theorem matchOwn {M : Model} {Cy : Addr} {bmy : List Value} {Q : Bool → Shared → Prop} {s : Shared} (hC : ClsAt s.heap C bm) (hCy : ClsAt s.heap Cy bmy) (hx : s.heap.get? a = some o) (hc : o.cls = .ref C)
    (hq : Q ((Value.ref C :: bm).contains (.ref Cy)) s) : wpAny M A (excMatches (.ref a) (.ref Cy)) Q E s := by
  obtain ⟨h, g, d, t, os⟩ := s
  refine e2_3 (partOwn hCy) fun oy cdy hy1 hy2 hy3 => ?_
  have hcB : (Value.ref Cy :: bmy).contains (.type "BaseException") = true := hasT hCy rfl
  have f := tc_notTuple
  unfold excMatches
  cases hb : (Value.ref C :: bm).contains (.ref Cy) with
  | true =>
    rw [hb] at hq
    repeat (any_goals (first | assumption | (with_reducible refine wpAny_loadPart_at hx ?_; rw [hc]) | (with_reducible refine wpAny_loadPart_at hy1 ?_; rw [hy2]) | (with_reducible refine wpAny_loadPart_at hy1 ?_; rw [hy3]) | (with_reducible refine subOwn hCy ?_; rw [hcB]) | (with_reducible refine subOwn hC ?_; rw [hb]) | wp_step))
  | false =>
    rw [hb] at hq
    repeat (any_goals (first | assumption | (with_reducible refine wpAny_loadPart_at hx ?_; rw [hc]) | (with_reducible refine wpAny_loadPart_at hy1 ?_; rw [hy2]) | (with_reducible refine wpAny_loadPart_at hy1 ?_; rw [hy3]) | (with_reducible refine subOwn hCy ?_; rw [hcB]) | (with_reducible refine subOwn hC ?_; rw [hb]) | wp_step))
end
end Mine
namespace Mine
open PySem PyProof.Rows
noncomputable def SS (D : Wd) (Φ : Orc) (k : Nat) (c : CC) (st : Stmt) (is : IS) : Prop := ∀ env A γ H s L Q X, EnvOk c env → AOk D k A → HRel D γ H s.heap → FRel D γ env c.slots s.heap L →
  wpS Φ is L H Q X → wpAny D.M A (exec st env) (PostF D γ s env c.slots Q) (PostE D γ s env c.slots X) s
noncomputable def SSs (D : Wd) (Φ : Orc) (k : Nat) (c : CC) (sts : List Stmt) (iss : List IS) : Prop := ∀ env A γ H s L Q X, EnvOk c env → AOk D k A → HRel D γ H s.heap → FRel D γ env c.slots s.heap L →
  wpSs Φ iss L H Q X → wpAny D.M A (execs sts env) (PostF D γ s env c.slots Q) (PostE D γ s env c.slots X) s
section
variable {D : Wd} {Φ : Orc} {k : Nat} {c : CC}
theorem sss_of {f : Stmt → Option IS} (ih : ∀ st is, f st = some is → SS D Φ k c st is) : ∀ (sts : List Stmt) (iss : List IS), mapO f sts = some iss → SSs D Φ k c sts iss
  | [], iss, hm => by
    rw [mapO_nil hm]
    intro env A γ H s L Q X hE hA R fr w
    exact wpAny_execs_nil ⟨γ, H, L, .next, Stp.refl, R, fr, rfl, w⟩
  | st :: r, iss, hm => by
    refine e2_3 (mapO_cons hm) fun b bs e_237 h1 h2 => ?_
    obtain rfl := e_237
    intro env A γ H s L Q X hE hA R fr w
    refine wpAny_execs_cons (wpAny_mono (ih st b h1 env A γ H s L _ X hE hA R fr w) (fun fl s1 p => ?_) fun _ _ x => x)
    refine e4_5 p fun γ1 H1 L1 F st1 R1 fr1 hf q => ?_
    cases F with
    | next =>
      obtain rfl := hf
      exact wpAny_mono (sss_of ih r bs h2 env A γ1 H1 s1 L1 Q X hE hA R1 fr1 q) (fun _ _ x => x.back st1 R1 fr1) fun _ _ x => x.back st1 R1 fr1
    | cont => obtain rfl := hf; exact ⟨γ1, H1, L1, .cont, st1, R1, fr1, rfl, q⟩
    | ret V =>
      refine e1_2 hf fun v e_238 rv => ?_
      obtain rfl := e_238
      exact ⟨γ1, H1, L1, .ret V, st1, R1, fr1, ⟨v, rfl, rv⟩, q⟩
theorem kindF {env : Env} (hE : EnvOk c env) : env.scope.kind = .function := by rw [hE.scope]; exact hE.kind
theorem s_expr {e : Expr} {pos : Pos} {ie : IE} (h : SE D Φ k c e ie) (hc : isComp e = false) : SS D Φ k c (.Expr e pos) (.expr ie) := by
  intro env A γ H s L Q X hE hA R fr w
  have hk := kindF hE
  refine wpAny_Expr_any (wpAny_mono (h env A γ H s L _ _ hE hA R fr.l w) (fun v s1 p => ?_) fun _ _ x => x.toE fr R) (by unfold interactive; rw [hk]; rfl) (by cases e <;> first | rfl | exact Bool.noConfusion hc)
  refine e3_4 p fun γ1 V H1 st R1 rv q => ?_
  exact ⟨γ1, H1, L, .next, st.weak, R1, fr.stp R st, rfl, q⟩
theorem s_ret {e : Expr} {pos : Pos} {ie : IE} (h : SE D Φ k c e ie) : SS D Φ k c (.Return (some e) pos) (.ret ie) := by
  intro env A γ H s L Q X hE hA R fr w
  refine wpAny_Return_some (wpAny_mono (h env A γ H s L _ _ hE hA R fr.l w) (fun v s1 p => ?_) fun _ _ x => x.toE fr R)
  refine e3_4 p fun γ1 V H1 st R1 rv q => ?_
  exact ⟨γ1, H1, L, .ret V, st.weak, R1, fr.stp R st, ⟨v, rfl, rv⟩, q⟩
theorem s_assign {e : Expr} {x : Str} {px pos : Pos} {ie : IE} {i : Nat} (so : SlotsOk c) (h : SE D Φ k c e ie) (hs : slotV c x = some i) (hw : ∀ env, EnvOk c env → swapsWith e (some (.Name x px)) pos.line env = pure false) :
    SS D Φ k c (.Assign [.Name x px] e pos) (.assign i ie) := by
  intro env A γ H s L Q X hE hA R fr w
  refine wpAny_Assign_Name (wpAny_mono (h env A γ H s L _ _ hE hA R fr.l w) (fun v s1 p => ?_) fun _ _ x => x.toE fr R) (hw env hE)
  refine e3_4 p fun γ1 V H1 st R1 rv q => ?_
  refine wpAny_mono (store_ok hE so R1 (fr.stp R st) hs rv) (fun _ s2 p => ?_) fun _ _ x => x
  refine e0_3 p fun st2 R2 fr2 => ?_
  exact ⟨γ1, H1, _, .next, st.weak.transF R1 st2 (fr.stp R st).alive, R2, fr2, rfl, q⟩
theorem valueAt_cons {K : Type} [DecidableEq K] (a : K) (b : Value) (r : List (K × Value)) (y : K) : valueAt ((a, b) :: r) y = if a = y then some b else valueAt r y := by
  unfold valueAt
  rw [List.find?_cons]
  by_cases h : a = y
  · rw [if_pos h, decide_eq_true h]; rfl
  · rw [if_neg h, decide_eq_false h]
theorem valueAt_map {K : Type} [DecidableEq K] (k : K) (v : Value) (y : K) : ∀ kvs : List (K × Value), valueAt (kvs.map fun kv => if kv.1 = k then (kv.1, v) else kv) y = if y = k ∧ (kvs.any fun kv => kv.1 = k) = true then some v else valueAt kvs y
  | [] => by rw [if_neg (fun h => nomatch h.2)]; rfl
  | (a, b) :: r => by
    rw [List.map_cons, List.any_cons]
    by_cases ha : a = k
    · rw [show (if (a, b).1 = k then ((a, b).1, v) else (a, b)) = (a, v) from if_pos ha, valueAt_cons, valueAt_cons, valueAt_map k v y r, show decide ((a, b).1 = k) = true from decide_eq_true ha]
      by_cases hy : y = k
      · rw [if_pos (ha.trans hy.symm), if_pos ⟨hy, rfl⟩]
      · have hay : ¬ a = y := fun q => hy (q.symm.trans ha)
        rw [if_neg hay, if_neg (fun h => hy h.1), if_neg (fun h => hy h.1), if_neg hay]
    · rw [show (if (a, b).1 = k then ((a, b).1, v) else (a, b)) = (a, b) from if_neg ha, valueAt_cons, valueAt_cons, valueAt_map k v y r, show decide ((a, b).1 = k) = false from decide_eq_false ha, Bool.false_or]
      by_cases hay : a = y
      · have hy : ¬ y = k := fun q => ha (hay.trans q)
        rw [if_pos hay, if_pos hay, if_neg (fun h => hy h.1)]
      · rw [if_neg hay, if_neg hay]
theorem valueAt_app {K : Type} [DecidableEq K] (k : K) (v : Value) (y : K) : ∀ kvs : List (K × Value), (kvs.any fun kv => kv.1 = k) = false → valueAt (kvs ++ [(k, v)]) y = if y = k then some v else valueAt kvs y
  | [], _ => by
    rw [List.nil_append, valueAt_cons]
    by_cases hy : y = k
    · rw [if_pos hy.symm, if_pos hy]
    · rw [if_neg (fun q => hy q.symm), if_neg hy]
  | (a, b) :: r, h => by
    rw [List.any_cons, Bool.or_eq_false_iff] at h
    have ha : ¬ a = k := of_decide_eq_false h.1
    rw [List.cons_append, valueAt_cons, valueAt_cons, valueAt_app k v y r h.2]
    by_cases hay : a = y
    · rw [if_pos hay, if_pos hay, if_neg (fun q => ha (hay.trans q))]
    · rw [if_neg hay, if_neg hay]
theorem valueAt_stored {K : Type} [DecidableEq K] (kvs : List (K × Value)) (k : K) (v : Value) (y : K) : valueAt (stored kvs k v) y = if y = k then some v else valueAt kvs y := by
  unfold stored
  cases h : kvs.any fun kv => kv.1 = k with
  | true =>
    rw [if_pos rfl, valueAt_map, h]
    by_cases hy : y = k
    · rw [if_pos ⟨hy, rfl⟩, if_pos hy]
    · rw [if_neg (fun q => hy q.1), if_neg hy]
  | false => rw [if_neg Bool.false_ne_true]; exact valueAt_app k v y kvs h
theorem FsRep.cons {γ : List Addr} {h : Heap} {fs : List (Str × V)} {m : Str → Option Value} {x : Str} {v : Value} {W : V} (f : FsRep D γ h fs m) (r : Rep D γ h v W) : FsRep D γ h ((x, W) :: fs) (fun y => if y = x then some v else m y) := by
  refine ⟨fun y V hy => ?_, fun y hy => ?_⟩
  · rw [List.lookup_cons] at hy
    by_cases hxy : y = x
    · rw [beq_iff_eq.mpr hxy] at hy
      obtain rfl := Option.some.inj hy
      exact ⟨v, if_pos hxy, r⟩
    · rw [beq_eq_false_iff_ne.mpr hxy] at hy
      refine e1_2 (f.1 y V hy) fun u hu ru => ?_
      exact ⟨u, (if_neg hxy).trans hu, ru⟩
  · rw [List.lookup_cons] at hy
    by_cases hxy : y = x
    · rw [beq_iff_eq.mpr hxy] at hy; exact no_some hy.symm
    · rw [beq_eq_false_iff_ne.mpr hxy] at hy
      exact (if_neg hxy).trans (f.2 y hy)
theorem s_set {o i value : Expr} {pos' pos : Pos} {io ii iv : IE} (hv : SE D Φ k c value iv) (ho : SE D Φ k c o io) (hi : SE D Φ k c i ii) (hw : ∀ env, swapsWith value (some (.Subscript o i pos')) pos.line env = pure false) :
    SS D Φ k c (.Assign [.Subscript o i pos'] value pos) (.setItem io ii iv) := by
  intro env A γ H s L Q X hE hA R fr w
  refine wpAny_Assign_Subscript (wpAny_mono (hv env A γ H s L _ _ hE hA R fr.l w) (fun v s1 p => ?_) fun _ _ x => x.toE fr R) (hw env)
  refine e3_4 p fun γ1 V H1 st R1 rv q => ?_
  have fr1 := fr.stp R st
  refine wpAny_mono (ho env A γ1 H1 s1 L _ _ hE hA R1 fr1.l q) (fun ov s2 p => ?_) fun _ _ x => (x.toE fr1 R1).back st.weak R1 fr1
  refine e3_4 p fun γ2 Vo H2 st2 R2 ro q2 => ?_
  have fr2 := fr1.stp R1 st2
  refine wpAny_mono (hi env A γ2 H2 s2 L _ _ hE hA R2 fr2.l q2) (fun iv s3 p => ?_) fun _ _ x => (x.toE fr2 R2).back (st.trans0 R1 st2).weak R2 fr2
  refine e3_4 p fun γ3 Vi H3 st3 R3 ri q3 => ?_
  have fr3 := fr2.stp R2 st3
  have st03 := (st.trans0 R1 st2).trans0 R2 st3
  have rv3 := (rv.stp0 R1 st2).stp0 R2 st3
  have ro3 := ro.stp0 R2 st3
  refine e1_2 (oK_elim q3) fun j hj q3 => ?_
  rw [refV_some hj] at ro3
  refine e1_2 ro3 fun a ha e_239 => ?_
  obtain rfl := e_239
  cases Vi with
  | int m =>
    refine e1_3 (oK_elim q3) fun l hl hb q4 => ?_
    obtain ⟨u, rfl⟩ := ri
    refine e2_3 (R3.list ha hl) fun vs n e rs z => ?_
    have hlen := rs.length
    refine PySem.W.ki_setAt (items := vs.toArray) (n := n) e hb.1 (by lia) (by rw [List.size_toArray]; lia) ?_
    have e' := IsL.update e fun xs => xs.setIfInBounds m.toNat v
    have em : vs.toArray.setIfInBounds m.toNat v = (vs.set m.toNat v).toArray := by apply Array.toList_inj.mp; simp
    simp only [em] at e'
    have rs' : Reps D γ3 s3.heap (vs.set m.toNat v) (l.set m.toNat V) := by
      refine Reps.of_get (by rw [List.length_set, List.length_set, hlen]) fun y w W h1 h2 => ?_
      by_cases hy : m.toNat = y
      · subst hy
        rw [List.getElem?_set_self (by lia)] at h1 h2
        obtain rfl := Option.some.inj h1
        obtain rfl := Option.some.inj h2
        exact rv3
      · rw [List.getElem?_set_ne hy] at h1 h2
        refine e1_2 (rs.get h2) fun w' hw' rw' => ?_
        rw [h1] at hw'; obtain rfl := Option.some.inj hw'; exact rw'
    have hk : ∀ b o', b ≠ a → s3.heap.get? b = some o' → (s3.heap.update a (Obj.mapSeq fun xs => xs.setIfInBounds m.toNat v)).get? b = some o' := fun b o' hb q => (Heap.SameBut.update ..).extBut b o' hb q
    have st4 := stp_set (s := s3) (tk := s3.toks) ha hk
    exact ⟨γ3, _, L, .next, (st03.trans0 R3 st4).weak, R3.setList ha rs' (by rw [List.length_set, ← hlen]; exact z) e' hk, fr3.stp R3 st4, rfl, q4⟩
  | str x =>
    refine e1_3 (oK_elim q3) fun es he hb q4 => ?_
    refine e1_2 ri fun u e_240 _ => ?_
    obtain rfl := e_240
    refine e1_3 (R3.dict ha he) fun kvs hd hf hz => ?_
    refine wpAny_setItem_pairs (knd := strKind D.prog D.w) (k := x) (isStr (t := u)) hd (fun h' hd' hs => ?_) (by rw [sizeLine_eq]; lia)
    have hk : ∀ b o', b ≠ a → s3.heap.get? b = some o' → h'.get? b = some o' := fun b o' hb q => hs.extBut b o' hb q
    have st4 := stp_set (s := s3) (tk := s3.toks + 1) ha hk
    refine ⟨γ3, _, L, .next, (st03.trans0 R3 st4).weak, R3.setObj (o := .dict ((x, V) :: es)) ha hk fun ht => ⟨_, hd', ?_, ?_⟩, fr3.stp R3 st4, rfl, q4⟩
    · rw [show valueAt (stored kvs x v) = fun y => if y = x then some v else valueAt kvs y from funext fun y => valueAt_stored kvs x v y]
      exact (hf.mono ⟨[], by simp⟩ ht).cons (Rep.mono ⟨[], by simp⟩ ht rv3)
    · exact Nat.le_trans (stored_length_le _ _ _) (Nat.succ_le_succ hz)
  | _ => exact q3.elim
theorem s_setAttr {o value : Expr} {x : Str} {pos' pos : Pos} {io iv : IE} (g : GOk D c.G c.mts) (hx : fldOk x = true) (hv : SE D Φ k c value iv) (ho : SE D Φ k c o io) (hw : ∀ env, swapsWith value (some (.Attribute o x pos')) pos.line env = pure false) :
    SS D Φ k c (.Assign [.Attribute o x pos'] value pos) (.setAttr io x iv) := by
  intro env A γ H s L Q X hE hA R fr w
  refine plainObj_wpAny_Assign_Attribute (wpAny_mono (hv env A γ H s L _ _ hE hA R fr.l w) (fun v s1 p => ?_) fun _ _ x => x.toE fr R) (hw env)
  refine e3_4 p fun γ1 V H1 st R1 rv q => ?_
  have fr1 := fr.stp R st
  refine wpAny_mono (ho env A γ1 H1 s1 L _ _ hE hA R1 fr1.l q) (fun ov s2 p => ?_) fun _ _ x => (x.toE fr1 R1).back st.weak R1 fr1
  refine e3_4 p fun γ2 Vo H2 st2 R2 ro q2 => ?_
  have fr2 := fr1.stp R1 st2
  have st02 := st.trans0 R1 st2
  have rv2 := rv.stp0 R1 st2
  refine e1_2 (oK_elim q2) fun i hi q3 => ?_
  rw [refV_some hi] at ro
  refine e1_3 (oK_elim q3) fun pr hp hb q4 => ?_
  refine e1_2 ro fun a ha e_241 => ?_
  obtain rfl := e_241
  obtain ⟨o', dx, m, e, hc, hd, hj, I, hf, hno⟩ := inst_at R2 ha hp
  obtain ⟨N, nm, qn, bs, sn, sub, col, dd, k0, k1, k2, k3, k5, hC, hN⟩ := g.bk.cls
  have hne : a ≠ D.bk := fun q => by
    have := R2.fresh a (List.mem_of_getElem? ha)
    rw [q, hC] at this; exact no_some this.symm
  have hwi : PySem.Within m (pr.2.map (·.1)) := fun y hy => by
    cases hl : pr.2.lookup y with
    | none => exact absurd (hf.2 y hl) hy
    | some V => exact List.mem_map.mpr ⟨(y, V), mem_of_lookup hl, rfl⟩
  obtain ⟨hh, gg, d, t, os⟩ := s2
  refine store_attr F.store_object (R2.base _ _ hC) (hN.keeps R2.base) g.bk.noS (g.bk.noF x hx) (fld_obj hx) hne I (fun h' tk' I' hk hsame => ?_) hwi (by rw [List.length_map, sizeLine_eq]; lia)
  obtain ⟨o1, e1, c1, d1, s1', dd1⟩ := hsame o' e
  have eo : o1 = o' := by
    obtain ⟨a1, a2, a3, a4⟩ := o1
    obtain ⟨b1, b2, b3, b4⟩ := o'
    obtain rfl : a1 = b1 := c1
    obtain rfl : a3 = b3 := d1
    obtain rfl : a4 = b4 := s1'
    obtain rfl : b2 = some dx := hd
    rw [show a2 = some dx from dd1 dx rfl]
  rw [eo] at e1
  have hk2 : ∀ b ob, b ≠ dx → hh.get? b = some ob → h'.get? b = some ob := fun b ob hb eb => by
    by_cases hba : b = a
    · subst hba
      rw [e1, ← e]; exact eb
    · exact hk b ob hba (fun o₀ dy h1 h2 => by
        rw [e] at h1
        obtain rfl := Option.some.inj h1
        rw [hd] at h2
        obtain rfl := Option.some.inj h2
        exact hb) eb
  have st4 := stp_set (s := ⟨hh, gg, d, t, os⟩) (tk := tk') hj hk2
  refine ⟨γ2, _, L, .next, (st02.trans0 R2 st4).weak, R2.setObj hj hk2 fun ht => ?_, fr2.stp R2 st4, rfl, q4⟩
  refine e1_4 I' fun o2 e2 _ _ hd2 => ?_
  rw [e1] at e2
  obtain rfl := Option.some.inj e2
  rcases hd2 with ⟨q, _⟩ | ⟨d', q, _, hn'⟩
  · rw [hd] at q; exact no_some q.symm
  rw [hd] at q
  obtain rfl := Option.some.inj q
  refine ⟨_, hn', (hf.mono ⟨[], by simp⟩ ht).cons (Rep.mono ⟨[], by simp⟩ ht rv2), fun y hy => ?_⟩
  have hxy : y ≠ x := fun q => by rw [q, hx] at hy; exact Bool.noConfusion hy
  rw [if_neg hxy]; exact hno y hy
theorem s_assign_comp {n : Nat} {elt iter tgt : Expr} {y : Str} {py pos spos : Pos} {scope : Scope} {ielt : IE} {kk : SrcK} {ss ie : IE} {i : Nat} {c' : CC} {bdf : Lc → V → Option Lc} (g : GOk D c.G c.mts) (so : SlotsOk c)
    (ih : ∀ c e ie, GOk D c.G c.mts → compE n c e = some ie → Both D Φ k c e ie) (cg : CompG D k c scope tgt c' bdf)
    (hsrc : compSrc (compE n c) c iter = some (kk, ss)) (hce : compE n c' elt = some ielt) (hset : ∀ env x, foldedSetIterable iter env x = pure x) (hs : slotV c y = some i) (hie : wp2 Φ ie = compW Φ ss kk ielt bdf) :
    SS D Φ k c (.Assign [.Name y py] (.ListComp elt [⟨tgt, iter, [], 0⟩] scope pos) spos) (.assign i ie) := by
  intro env A γ H s L Q X hE hA R fr w
  have hsw : ∃ b, swapsWith (.ListComp elt [⟨tgt, iter, [], 0⟩] scope pos) (some (.Name y py)) spos.line env = pure b := ⟨_, rfl⟩
  obtain ⟨b, hb⟩ := hsw
  cases b with
  | false =>
    refine wpAny_Assign_Name (wpAny_mono ((e_comp g ih cg hsrc hce hset hie).1 env A γ H s L _ _ hE hA R fr.l w) (fun v s1 p => ?_) fun _ _ x => x.toE fr R) hb
    refine e3_4 p fun γ1 V H1 st R1 rv q => ?_
    refine wpAny_mono (store_ok hE so R1 (fr.stp R st) hs rv) (fun _ s2 p => ?_) fun _ _ x => x
    refine e0_3 p fun st2 R2 fr2 => ?_
    exact ⟨γ1, H1, _, .next, st.weak.transF R1 st2 (fr.stp R st).alive, R2, fr2, rfl, q⟩
  | true =>
    have w : (wp2 Φ ie).E L H (fun v H1 => Q .next (L.set i (some v)) H1) (fun x => X x L) := w
    rw [hie] at w
    rw [exec_Assign_Name_used _ _ _ _ hb]
    refine wpAny_bind (wpAny_standAt (wpAny_bind ?_))
    show wpAny _ A (do let _ ← comprehension (.ListComp elt [⟨tgt, iter, [], 0⟩] scope pos) scope env _ (newList []) false (eval iter env) (some (assign (.Name y py) env))) _ _ s
    refine wpAny_bind (wpAny_mono (comp_run (use := some (assign (.Name y py) env)) (Qf := fun _ s' => PostF D γ s env c.slots Q .next s') g ih cg hsrc hce hE hA R fr.l (hset env) w ?_) (fun _ s' hq => wpAny_pure (wpAny_pure hq)) fun _ _ x => x.toE fr R)
    intro γ' H' s' Dd C acc stp R' ho dn d0 hc cn c0 hdc hK
    refine e2_2 ho fun ys ny hy ry => ?_
    obtain ⟨m, hm⟩ := hc
    have dB := base_none R d0
    have R2 := R'.adoptList ry (by have := hK.1; lia) dn dB (R.frs.ne d0) hy
    have fr' := fr.stp R stp
    have stp2 : Stp [] γ (γ' ++ [Dd]) s s' := by
      refine ⟨stp.same, stp.keepS, ?_⟩
      refine e1_2 (stp.ext) fun δ e f => ?_
      refine ⟨δ ++ [Dd], by rw [e]; simp, fun b hb => ?_⟩
      rcases List.mem_append.mp hb with q | q
      · exact f b q
      · simp at q; subst q; exact d0
    have fr2 : FRel D (γ' ++ [Dd]) env c.slots s'.heap L := fr.stp R stp2
    show wpAny D.M A (assign (.Name y py) env (.ref Dd)) _ _ s'
    refine wpAny_assign_Name (wpAny_mono (store_ok (W := .ref H'.length) hE so R2 fr2 hs (Exists.intro _ ⟨by rw [List.getElem?_append_right (by rw [R'.len]; exact Nat.le_refl _)]; simp [R'.len], rfl⟩)) (fun _ s2 p => ?_) fun _ _ x => x)
    refine e0_3 p fun st3 R3 fr3 => ?_
    have hCown : C ∉ ownA env := fun hm' => by
      obtain ⟨o, e⟩ := fr.alive C hm'
      rw [c0] at e; cases e
    have cn2 : C ∉ γ' ++ [Dd] := by
      intro q
      rcases List.mem_append.mp q with q | q
      · exact cn q
      · exact hdc (List.mem_singleton.mp q).symm
    have hm3 : s2.heap.Ns C m := st3.ns cn2 hCown hm
    refine ⟨m, hm3, fun h' hs' => ?_⟩
    have hk : ∀ b o, b ≠ C → s2.heap.get? b = some o → h'.get? b = some o := fun b o hb e => hs'.extBut b o hb e
    have nt := notTup_dict hm3
    have fr4 : FRel D (γ' ++ [Dd]) env c.slots h' (L.set i (some (.ref H'.length))) := fr3.butN hk hCown nt
    refine ⟨γ' ++ [Dd], _, _, .next, ?_, R3.but hk cn2 (base_none R c0) nt (.inr (.inr (R.frs.ne c0))), fr4, rfl, hK.2⟩
    have st4 := stp2.weak.transF R2 st3 fr2.alive
    refine ⟨?_, fun b o hb hw e => let ⟨sl, e', q⟩ := st4.keepS b o hb hw e; ⟨sl, hk b _ (by rintro rfl; rw [c0] at e; exact no_some e) e', q⟩, st4.ext⟩
    refine e2_1 (st4.same) fun h4 t4 e4 => ?_
    rw [e4]; exact ⟨_, _, rfl⟩
theorem s_if {t : Expr} {a b : List Stmt} {pos : Pos} {it : IE} {ia ib : List IS} (ht : ST D Φ k c t it) (ha : SSs D Φ k c a ia) (hb : SSs D Φ k c b ib) : SS D Φ k c (.If t a b pos) (.ite it ia ib) := by
  intro env A γ H s L Q X hE hA R fr w
  refine wpAny_If (wpAny_mono (ht env A γ H s L _ _ hE hA R fr.l w) (fun v s1 p => ?_) fun _ _ x => x.toE fr R)
  refine e2_3 p fun γ1 H1 st R1 q => ?_
  cases v with
  | true => exact wpAny_mono (ha env A γ1 H1 s1 L Q X hE hA R1 (fr.stp R st) q) (fun _ _ x => x.back st.weak R1 (fr.stp R st)) fun _ _ x => x.back st.weak R1 (fr.stp R st)
  | false => exact wpAny_mono (hb env A γ1 H1 s1 L Q X hE hA R1 (fr.stp R st) q) (fun _ _ x => x.back st.weak R1 (fr.stp R st)) fun _ _ x => x.back st.weak R1 (fr.stp R st)
theorem s_while {t : Expr} {b : List Stmt} {pos : Pos} {it : IE} {ib : List IS} (ht : ST D Φ k c t it) (hb : SSs D Φ k c b ib) : SS D Φ k c (.While t b [] pos) (.while it ib) := by
  intro env A γ H s L Q X hE hA R fr w
  obtain ⟨n, w⟩ := w
  obtain ⟨Iv, hIv⟩ : ∃ Iv : Nat → Shared → Prop, Iv = fun m s' => ∃ γ' H' L', Stp (ownA env) γ γ' s s' ∧ HRel D γ' H' s'.heap ∧ FRel D γ' env c.slots s'.heap L' ∧
    whileGo (fun L' H' K => (wp2 Φ it).T L' H' K noX) (fun L' H' K => wpSs Φ ib L' H' K noXS) m L' H' Q := ⟨_, rfl⟩
  refine wpAny_While (codeAny_whileLoop Iv ?_ n (by rw [hIv]; exact ⟨γ, H, L, Stp.refl, R, fr, w⟩))
  intro m s' hI
  rw [hIv] at hI
  refine e3_4 hI fun γ' H' L' st R' fr' w => ?_
  cases m with
  | zero => exact w.elim
  | succ m =>
    refine wpAny_mono (ht env A γ' H' s' L' _ _ hE hA R' fr'.l w) (fun v s1 p => ?_) fun _ _ x => x.no.elim
    refine e2_3 p fun γ1 H1 st1 R1 q => ?_
    have st01 : Stp (ownA env) γ γ1 s s1 := st.transF R' st1.weak fr'.alive
    have fr1 := fr'.stp R' st1
    cases v with
    | true =>
      refine wpAny_mono (hb env A γ1 H1 s1 L' _ noXS hE hA R1 fr1 q) (fun fl s2 p => ?_) fun _ _ x => x.no.elim
      refine e4_5 p fun γ2 H2 L2 F st2 R2 fr2 hf q2 => ?_
      have st02 := st01.transF R1 st2 fr1.alive
      cases F with
      | next => obtain rfl := hf; exact ⟨m, Nat.lt_succ_self _, by rw [hIv]; exact ⟨γ2, H2, L2, st02, R2, fr2, q2⟩⟩
      | cont => obtain rfl := hf; exact ⟨m, Nat.lt_succ_self _, by rw [hIv]; exact ⟨γ2, H2, L2, st02, R2, fr2, q2⟩⟩
      | ret V => obtain ⟨v, rfl, rv⟩ := hf; exact ⟨γ2, H2, L2, .ret V, st02, R2, fr2, ⟨v, rfl, rv⟩, q2⟩
    | false => exact wpAny_execs_nil ⟨γ1, H1, L', .next, st01, R1, fr1, rfl, q⟩
theorem s_for {n : Nat} {x : Str} {px pos : Pos} {iter : Expr} {b : List Stmt} {kk : SrcK} {ss : IE} {ib : List IS} {i : Nat} (g : GOk D c.G c.mts) (so : SlotsOk c) (ih : ∀ e ie, compE n c e = some ie → SE D Φ k c e ie) (hs : slotV c x = some i)
    (hsrc : compSrc (compE n c) c iter = some (kk, ss)) (hb : SSs D Φ k c b ib) : SS D Φ k c (.For (.Name x px) iter b [] pos) (.for i kk ss ib) := by
  intro env A γ H s L Q X hE hA R fr w
  refine wpAny_For (wpAny_mono (src_ok (K := fun l st H1 => forGo (fun L' H' K => wpSs Φ ib L' H' K X) st i l L H1 Q) g ih hsrc hE hA R fr.l w) (fun xv s1 h1 => wpAny_mono h1 (fun it s2 h2 => ?_) fun _ _ x => x.toE fr R) fun _ _ x => x.toE fr R) (noSetIter hsrc env)
  refine e7_10 h2 fun γ2 H2 I fp l st Inv e_242 stp2 R2 itr iv fps hI0 hst hlen w2 => ?_
  obtain rfl := e_242
  have fr2 := fr.stp R stp2
  have IB := base_none R hI0
  have fpo : ∀ b ∈ fp, b ∉ ownA env := fun b hb hm => by
    rcases (fps b hb).2.2 with q | ⟨ws, q⟩
    · subst q; obtain ⟨o, e⟩ := fr.alive _ hm; rw [hI0] at e; cases e
    · exact (fr2.own b hm).2.2.2 ws q
  obtain ⟨Iv, hIv⟩ : ∃ Iv : Nat → Shared → Prop, Iv = fun m s' => ∃ j γ' H' L', m = l.length - j ∧ j ≤ l.length ∧ Stp (ownA env) γ γ' s s' ∧ HRel D γ' H' s'.heap ∧ FRel D γ' env c.slots s'.heap L' ∧ Inv γ' j s'.heap ∧ st H' ∧ (∀ b ∈ fp, b ∉ γ' ∧ ∃ o, s'.heap.get? b = some o) ∧
    forGo (fun L' H' K => wpSs Φ ib L' H' K X) st i (l.drop j) L' H' Q := ⟨_, rfl⟩
  refine codeAny_forLoop Iv ?_ l.length (by rw [hIv]; exact ⟨0, γ2, H2, L, rfl, Nat.zero_le _, stp2.weak, R2, fr2, iv, hst, fun b hb => ⟨(fps b hb).1, (fps b hb).2.1⟩, w2⟩)
  intro m s' hI
  rw [hIv] at hI
  obtain ⟨j, γ', H', L', rfl, hj, st', R', fr', iv', hst', fp', w'⟩ := hI
  have hIg : I ∉ γ' := (fp' I itr.mem).1
  have nt := fun ws => itr.notTup γ' j s'.heap ws iv'
  have hIo : I ∉ ownA env := fpo I itr.mem
  have change : ∀ {h1 : Heap} {tk : Nat}, (∀ b o, b ≠ I → s'.heap.get? b = some o → h1.get? b = some o) → Stp (ownA env) γ γ' s { s' with heap := h1, toks := tk } ∧ HRel D γ' H' h1 ∧ FRel D γ' env c.slots h1 L' := by
    intro h1 tk hk
    exact ⟨st'.butF hk hI0, R'.but hk hIg IB nt (.inr (.inr (R.frs.ne hI0))), fr'.butN hk hIo nt⟩
  by_cases hlt : j < l.length
  · have hW : l[j]? = some l[j] := by simp [hlt]
    rw [List.drop_eq_getElem_cons hlt] at w'
    refine itr.next γ' H' s' j _ _ _ hW R' hIg hst' iv' fun v h1 tk1 hI1 hk1 iv1 rv1 => ?_
    refine e0_3 (change (tk := tk1) hk1) fun stc Rc frc => ?_
    show wpAny D.M A (assign (.Name x px) env v) _ _ _
    refine wpAny_assign_Name (wpAny_mono (store_ok (s := { s' with heap := h1, toks := tk1 }) hE so Rc frc hs rv1) (fun _ s3 p => ?_) fun _ _ x => x)
    refine e0_3 p fun st3 R3 fr3 => ?_
    have stc3 : Stp (ownA env) γ γ' s s3 := stc.transF (s1 := { s' with heap := h1, toks := tk1 }) Rc st3 (FRel.alive (s := { s' with heap := h1, toks := tk1 }) frc)
    have tt3 : ∀ a ws, TupAt h1 a ws → TupAt s3.heap a ws := fun a ws q => TupAt.stp (s := { s' with heap := h1, toks := tk1 }) Rc st3 (fun x hx => (frc.own x hx).2.2.2) q
    have fp1 : ∀ b ∈ fp, b ∉ γ' ∧ ∃ o, h1.get? b = some o := fun b hb => by
      refine ⟨(fp' b hb).1, ?_⟩
      by_cases hbI : b = I
      · subst hbI; exact hI1
      · obtain ⟨o, e⟩ := (fp' b hb).2; exact ⟨o, hk1 _ _ hbI e⟩
    have fp3 : ∀ b ∈ fp, b ∉ γ' ∧ ∃ o, s3.heap.get? b = some o := fun b hb => by
      obtain ⟨a, o, e⟩ := fp1 b hb
      exact ⟨a, o, st3.keep b o a (fpo b hb) (itr.nd γ' (j + 1) h1 iv1 b hb o e) e⟩
    have iv3 : Inv γ' (j + 1) s3.heap := itr.frame γ' γ' (j + 1) h1 s3.heap iv1 ⟨[], by simp⟩ (fun b hb o e => st3.keep b o (fp1 b hb).1 (fpo b hb) (itr.nd γ' (j + 1) h1 iv1 b hb o e) e) tt3
    refine wpAny_mono (hb env A γ' H' s3 _ _ X hE hA R3 fr3 w') (fun fl s4 p => ?_) fun _ _ x => held_back hA R fr.alive (x.back stc3 R3 fr3)
    refine e4_5 p fun γ4 H4 L4 F st4 R4 fr4 hf q4 => ?_
    have stc4 := stc3.transF R3 st4 fr3.alive
    have ext4 : ∃ δ, γ4 = γ' ++ δ := let ⟨δ, e, _⟩ := st4.ext; ⟨δ, e⟩
    have tt4 : ∀ a ws, TupAt s3.heap a ws → TupAt s4.heap a ws := fun a ws q => TupAt.stp R3 st4 (fun x hx => (fr3.own x hx).2.2.2) q
    have go : st H4 ∧ forGo (fun L' H' K => wpSs Φ ib L' H' K X) st i (l.drop (j + 1)) L4 H4 Q → ∃ m, m < l.length - j ∧ Iv m s4 := fun q => by
      refine ⟨l.length - (j + 1), by lia, ?_⟩
      rw [hIv]
      refine ⟨j + 1, γ4, H4, L4, rfl, hlt, stc4, R4, fr4, ?_, q.1, ?_, q.2⟩
      · exact itr.frame γ' γ4 (j + 1) s3.heap s4.heap iv3 ext4 (fun b hb o e => st4.keep b o (fp3 b hb).1 (fpo b hb) (itr.nd γ' (j + 1) s3.heap iv3 b hb o e) e) tt4
      · intro b hb
        obtain ⟨a, o, e⟩ := fp3 b hb
        have e' := st4.keep b o a (fpo b hb) (itr.nd γ' (j + 1) s3.heap iv3 b hb o e) e
        refine ⟨?_, o, e'⟩
        refine e1_2 (st4.ext) fun δ ed fd => ?_
        subst ed
        intro q
        rcases List.mem_append.mp q with q | q
        · exact a q
        · rw [fd b q] at e; cases e
    cases F with
    | next => obtain rfl := hf; exact go q4
    | cont => obtain rfl := hf; exact go q4
    | ret V => obtain ⟨v, rfl, rv⟩ := hf; exact ⟨γ4, H4, L4, .ret V, stc4, R4, fr4, ⟨v, rfl, rv⟩, q4⟩
  · have hin : j = l.length := by lia
    subst hin
    rw [List.drop_length] at w'
    refine itr.done γ' H' s' _ _ R' hst' iv' fun h1 tk1 hk1 => ?_
    refine e0_3 (change (tk := tk1) hk1) fun stc Rc frc => ?_
    exact wpAny_execs_nil ⟨γ', H', L', .next, stc, Rc, frc, rfl, w'⟩
end
end Mine
namespace Mine
open PySem PyProof.Rows
section
variable {D : Wd} {γ γ0 : List Addr} {H H0 : Hp} {s s1 : Shared} {env : Env} {outer : List Env} {A : Around} {E : Value → Shared → Prop} {v : Value} {x : Exc} {La : Addr} {Q : Unit → Shared → Prop}
theorem leave_any (hfr : A.frames = some D.fr) (R0 : HRel D γ0 H0 s.heap) (R : HRel D γ H s1.heap) (htop : D.fr = env :: outer) (hf : env.frame = some La) (hx : XNew D γ s s1.heap v x ∨ XFly D γ s s1.heap v x)
    (h : ∀ a C a0 ex h', v = .ref a → D.mg x.cls = some (.ref C) → s.heap.get? a = none → a ∈ ex → ExF D γ s s1.heap ex → Land ex s1.heap h' → h'.TracedW (PySem.W.hideAll s1.heap ex) a (.ref C) a0 → Q () { s1 with heap := h' }) :
    wpAny D.M A (leaving env v) Q E s1 := by
  unfold leaving
  refine wpAny_bind (note_any hfr R0 R htop hf hx fun a C a0 ex h' e1 hm hn hax X up hh => ?_)
  subst e1
  exact lands hh fun h2 ⟨k1, k2, k3, k4⟩ up2 => h a C a0 ex h2 rfl hm hn hax X (Land.of k1 (up.trans up2)) k4
end
end Mine
namespace Mine
open PySem PyProof.Rows PySem.Spec
theorem glob_ok {D : Wd} {c : CC} {env : Env} {A : Around} {γ : List Addr} {H : Hp} {s : Shared} {Q : Value → Shared → Prop} {E : Value → Shared → Prop} {x : Str} {pos : Pos} {W : V} (g : GOk D c.G c.mts) (he : EnvOk c env) (R : HRel D γ H s.heap)
    (hc : globV c x = some W) (h : ∀ v, Rep D γ s.heap v W → Q v s) : wpAny D.M A (eval (.Name x pos) env) Q E s := by
  refine e1_2 (Option.bind_eq_some_iff.mp hc) fun kk hk hc => ?_
  obtain ⟨hd, hk⟩ := onlyIf_some hk
  have hkf : env.scope.kind = .function := by rw [he.scope]; exact he.kind
  have hk' : env.kindOf x = some kk := by unfold Env.kindOf; rw [he.scope]; exact hk
  cases kk with
  | globalImplicit =>
    refine e1_2 (g.val x W hc) fun v hv rv => ?_
    refine Calls.Name_function_global hkf hk' ?_ (bnot hd)
    have rr : Rep D γ s.heap v W := Rep.mono ⟨[], by simp⟩ (fun _ _ => tupAt_grow R.base) (rv γ)
    rcases hv with hv | ⟨hv1, hv2⟩
    · exact Calls.loadGlobal_global (by rw [he.globals]; exact g.gns.keeps R.base) hv (h v rr)
    · exact Calls.loadGlobal_builtin (by rw [he.globals]; exact g.gns.keeps R.base) hv1 (by rw [he.builtins]; exact g.bns.keeps R.base) hv2 (h v rr)
  | _ => exact no_some hc
theorem globV_lookup {c : CC} {x : Str} {W : V} (hz : globV c x = some W) : c.G.lookup x = some W := by
  refine e1_2 (Option.bind_eq_some_iff.mp hz) fun kk _ h => ?_
  cases kk with
  | globalImplicit => exact h
  | _ => exact no_some h
theorem ownC_some {c : CC} {y : Str} {ups : List Str} (h : ownC c y = some ups) : globV c y = some (.cls y ups) := by
  refine e1_2 (Option.bind_eq_some_iff.mp h) fun u h1 h => ?_
  refine e1_2 (Option.bind_eq_some_iff.mp h1) fun V hV h1 => ?_
  obtain ⟨h2, h⟩ := onlyIf_some h
  cases V with
  | cls z us =>
    obtain rfl := Option.some.inj h1
    obtain rfl := Option.some.inj h
    rw [hV, ← eq_of_beq h2]
  | _ => exact no_some h1
theorem isIsi_some {o : Option V} (h : isIsi o = true) : o = some (.bi .isinstance) := by
  cases o with
  | none => exact Bool.noConfusion h
  | some v => cases v with
    | bi t => cases t with
      | isinstance => rfl
      | _ => exact Bool.noConfusion h
    | _ => exact Bool.noConfusion h
theorem isVE_some {o : Option V} (h : isVE o = true) : o = some (.ty .valueError) := by
  cases o with
  | none => exact Bool.noConfusion h
  | some v => cases v with
    | ty t => cases t with
      | valueError => rfl
      | _ => exact Bool.noConfusion h
    | _ => exact Bool.noConfusion h
theorem onIsi_some {β : Type} {c : CC} {nm : Str} {e : Expr} {k : Str → Option β} {b : β} (h : onIsi c nm e k = some b) : ∃ g gp xp y yp p, e = .Call (.Name g gp) [.Name nm xp, .Name y yp] [] p ∧ globV c g = some (.bi .isinstance) ∧ k y = some b := by
  refine e3_2 (onCall_some h) fun f as p e_244 h => ?_
  obtain rfl := e_244
  refine e2_2 (onName_some h) fun g gp e_245 h => ?_
  obtain rfl := e_245
  refine e2_2 (on2_some h) fun a b' e_246 h => ?_
  obtain rfl := e_246
  refine e2_2 (onName_some h) fun x xp e_247 h => ?_
  obtain rfl := e_247
  refine e2_2 (onName_some h) fun y yp e_248 h => ?_
  obtain rfl := e_248
  obtain ⟨h0, h1⟩ := onlyIf_some h
  rw [Bool.and_eq_true] at h0
  obtain rfl : x = nm := eq_of_beq h0.2
  exact ⟨g, gp, xp, y, yp, p, rfl, isIsi_some h0.1, h1⟩
noncomputable def blist (bs : List Bool) : List Value := bs.map Value.bool
noncomputable def IsB (h : Heap) (v : Value) (bs : List Bool) : Prop := ∃ l n, v = .ref l ∧ h.get? l = some { cls := .type "list", data := .seq (blist bs).toArray n }
theorem reads_bools {h : Heap} : ∀ (bs : List Bool), ∃ as, ReadsAll h (blist bs) (bs.map PyData.bool) as
  | [] => ⟨_, .nil⟩
  | b :: r => let ⟨_, q⟩ := reads_bools r; ⟨_, .cons (.bool b) q⟩
theorem all_bools : ∀ (bs : List Bool), (bs.map PyData.bool).all Shape.bool.has = true
  | [] => rfl
  | b :: r => by rw [List.map_cons, List.all_cons, all_bools r]; rfl
theorem count_bools : ∀ (bs : List Bool), Spec.countIn (.bool true) (bs.map PyData.bool) = ((bs.filter id).length : Int)
  | [] => rfl
  | b :: r => by
    rw [List.map_cons, Spec.countIn, count_bools r]
    cases b with
    | true => show (1 : Int) + _ = ((r.filter id).length + 1 : Nat); lia
    | false => show (0 : Int) + _ = _; rw [Int.zero_add]; rfl
noncomputable def Gw (s s' : Shared) : Prop := (∃ h tk, s' = { s with heap := h, toks := tk }) ∧ ∀ b o, s.heap.get? b = some o → s'.heap.get? b = some o
theorem Gw.refl {s : Shared} : Gw s s := ⟨⟨_, _, rfl⟩, fun _ _ e => e⟩
theorem Gw.toks {s : Shared} {tk : Nat} : Gw s { s with toks := tk } := ⟨⟨_, _, rfl⟩, fun _ _ e => e⟩
theorem Gw.trans {s s1 s2 : Shared} (a : Gw s s1) (b : Gw s1 s2) : Gw s s2 := by
  obtain ⟨⟨h, t, rfl⟩, k⟩ := a
  obtain ⟨⟨h', t', rfl⟩, k'⟩ := b
  exact ⟨⟨_, _, rfl⟩, fun b o e => k' b o (k b o e)⟩
structure XC (D : Wd) (c : CC) (env : Env) (γ : List Addr) (H : Hp) (x : Exc) (nm : Str) (a C : Addr) (h : Heap) : Prop where
  R : HRel D γ H h
  there : ∃ o, h.get? a = some o ∧ o.cls = .ref C
  ns : ∃ m, h.Ns env.locals m ∧ m nm = some (.ref a)
section
variable {D : Wd} {c : CC} {env : Env} {γ : List Addr} {H : Hp} {x : Exc} {nm sm : Str} {a C : Addr}
theorem XC.gw {s s' : Shared} (X : XC D c env γ H x nm a C s.heap) (g : Gw s s') : XC D c env γ H x nm a C s'.heap :=
  ⟨X.R.grow g.2, let ⟨o, e, d⟩ := X.there; ⟨o, g.2 _ _ e, d⟩, let ⟨m, n, e⟩ := X.ns; ⟨m, n.keeps g.2, e⟩⟩
variable (g : GOk D c.G c.mts) (hE : EnvOk c env) (hex : (x.cls, x.ups) ∈ D.ex) (hmg : D.mg x.cls = some (.ref C)) (hnm : c.scope.names.lookup nm = some .local) (hnd : (nm == ("__debug__" : Str)) = false)
include g hE hex hmg hnm hnd
theorem isi_any {A : Around} {E : Value → Shared → Prop} {s : Shared} {f y : Str} {fp xp yp p : Pos} {W : V} {b : Bool} (X : XC D c env γ H x nm a C s.heap) (hf : globV c f = some (.bi .isinstance)) (hy : globV c y = some W)
    (hc : ∀ v, Rep D γ s.heap v W → wpAny D.M A (call (.builtin "isinstance") [.ref a, v]) (fun v s' => Gw s s' ∧ v = .bool b) E s) :
    wpAny D.M A (eval (.Call (.Name f fp) [.Name nm xp, .Name y yp] [] p) env) (fun v s' => Gw s s' ∧ v = .bool b) E s := by
  have hkf : env.scope.kind = .function := by rw [hE.scope]; exact hE.kind
  have hk' : env.kindOf nm = some .local := by unfold Env.kindOf; rw [hE.scope]; exact hnm
  refine e1_2 (X.ns) fun m hn hm => ?_
  refine wpAny_Call_ofName (glob_ok g hE X.R hf fun v r => ?_)
  obtain rfl := r
  rw [starEach_of (by rfl)]
  refine Calls.callWith_builtin rfl (Calls.evalArgs_plain (Calls.spliced_cons (wpAny_Name (wpAny_loadName_local hkf hk' hn hm (Calls.spliced_cons ?_)) hnd)))
  exact glob_ok g hE X.R hy fun v r => Calls.spliced_nil (hc v r)
theorem isi_own {A : Around} {E : Value → Shared → Prop} {s : Shared} {e : Expr} {y : Str} (X : XC D c env γ H x nm a C s.heap) (h : isiOf c nm e = some y) :
    wpAny D.M A (eval e env) (fun v s' => Gw s s' ∧ v = .bool (x.ups.contains y)) E s := by
  obtain ⟨f, fp, xp, y', yp, p, rfl, hf, k⟩ := onIsi_some h
  refine e1_2 (Option.map_eq_some_iff.mp k) fun ups hu e_250 => ?_
  obtain rfl := e_250
  have hy := ownC_some hu
  refine e2_4 (g.exs _ _ hex) fun C' bm hmg' hat hcon _ => ?_
  rw [hmg] at hmg'; cases hmg'
  have hexy := g.cls _ _ _ (globV_lookup hy)
  refine e2_3 (g.exs _ _ hexy) fun Cy bmy hmgy haty _ => ?_
  refine e1_2 (X.there) fun oe he hc => ?_
  refine isi_any g hE hex hmg hnm hnd X hf hy fun v r => ?_
  refine e1_2 r fun Cy' e_251 hy' => ?_
  obtain rfl := e_251
  rw [hmgy] at hy'; cases hy'
  refine isiOwn (hat.keeps X.R.base) (haty.keeps X.R.base) he hc fun t' => ⟨Gw.toks, ?_⟩
  rw [hcon _ ups Cy hexy hmgy]
theorem isi_ve {A : Around} {E : Value → Shared → Prop} {s : Shared} {e : Expr} {y : Str} (X : XC D c env γ H x nm a C s.heap) (h : (onIsi c nm e fun y => onlyIf (isVE (globV c y)) (some y)) = some y) :
    wpAny D.M A (eval e env) (fun v s' => Gw s s' ∧ v = .bool true) E s := by
  obtain ⟨f, fp, xp, y', yp, p, rfl, hf, k⟩ := onIsi_some h
  obtain ⟨h0, k⟩ := onlyIf_some k
  refine e2_4 (g.exs _ _ hex) fun C' bm hmg' hat hcon _ => ?_
  rw [hmg] at hmg'; cases hmg'
  refine e1_2 (X.there) fun oe he hc => ?_
  refine isi_any g hE hex hmg hnm hnd X hf (isVE_some h0) fun v r => ?_
  obtain rfl := r
  exact isiVE (hat.keeps X.R.base) he hc ⟨Gw.refl, rfl⟩
theorem isi_each {A : Around} {E : Value → Shared → Prop} : ∀ (es : List Expr) (ys : List Str) (s : Shared), XC D c env γ H x nm a C s.heap → mapO (isiOf c nm) es = some ys →
    wpAny D.M A (spliced (es.map fun e => (false, eval e env))) (fun vs s' => Gw s s' ∧ vs = blist (ys.map fun y => x.ups.contains y)) E s
  | [], ys, s, X, h => by obtain rfl := Option.some.inj h; exact Calls.spliced_nil ⟨Gw.refl, rfl⟩
  | e :: es, ys, s, X, h => by
    refine e2_3 (mapO_cons h) fun y ys' e_253 h1 h2 => ?_
    obtain rfl := e_253
    refine Calls.spliced_cons (wpAny_mono (isi_own g hE hex hmg hnm hnd X h1) (fun v s1 p => ?_) fun _ _ q => q)
    obtain ⟨g1, rfl⟩ := p
    refine wpAny_mono (isi_each es ys' s1 (X.gw g1) h2) (fun vs s2 p => ?_) fun _ _ q => q
    exact ⟨g1.trans p.1, by rw [p.2]; rfl⟩
theorem isi_noStar : ∀ (es : List Expr) (ys : List Str), mapO (isiOf c nm) es = some ys → es.any isStar = false
  | [], _, _ => rfl
  | e :: es, ys, h => by
    refine e2_3 (mapO_cons h) fun y ys' e_254 h1 h2 => ?_
    obtain rfl := e_254
    obtain ⟨f, fp, xp, y', yp, p, rfl, _, _⟩ := onIsi_some h1
    rw [List.any_cons, isi_noStar es ys' h2]; rfl
theorem isi_list {A : Around} {E : Value → Shared → Prop} {s : Shared} {e : Expr} {ys : List Str} (X : XC D c env γ H x nm a C s.heap) (h : isiL c nm e = some ys) (hz : ys.length ≤ 1000) :
    wpAny D.M A (eval e env) (fun v s' => Gw s s' ∧ IsB s'.heap v (ys.map fun y => x.ups.contains y)) E s := by
  refine e2_2 (onList_some h) fun es p e_256 h => ?_
  obtain rfl := e_256
  refine wpAny_List (wpAny_mono (by rw [starEach_of (isi_noStar g hE hex hmg hnm hnd es ys h)]; exact isi_each g hE hex hmg hnm hnd es ys s X h) (fun vs s1 p => ?_) fun _ _ q => q)
  obtain ⟨g1, rfl⟩ := p
  refine ⟨by rw [sizeLine_eq]; unfold blist; rw [List.length_map, List.length_map]; lia, g1.trans ⟨⟨_, _, rfl⟩, fun _ _ e => Heap.get?_push_of_some _ e⟩, _, 0, rfl, Heap.get?_push_size _ rfl⟩
theorem isi_plus {A : Around} {E : Value → Shared → Prop} {s : Shared} {e : Expr} {ys : List Str} {bs : List Bool} {m : Str → Option Value} {v0 : Value} (hsm : c.scope.names.lookup sm = some .local) (hsd : (sm == ("__debug__" : Str)) = false) (X : XC D c env γ H x nm a C s.heap)
    (hm : s.heap.Ns env.locals m) (hv : m sm = some v0) (hb : IsB s.heap v0 bs) (hz : ys.length ≤ 1000) (hz' : bs.length ≤ 1000) (h : plusL c nm sm e = some ys) :
    wpAny D.M A (eval e env) (fun v s' => Gw s s' ∧ IsB s'.heap v (bs ++ ys.map fun y => x.ups.contains y)) E s := by
  refine e3_2 (onAdd_some h) fun l r p e_257 h => ?_
  obtain rfl := e_257
  refine e2_2 (onName_some h) fun z zp e_258 h => ?_
  obtain rfl := e_258
  obtain ⟨h0, h1⟩ := onlyIf_some h
  obtain rfl : z = sm := eq_of_beq h0
  have hkf : env.scope.kind = .function := by rw [hE.scope]; exact hE.kind
  have hk' : env.kindOf z = some .local := by unfold Env.kindOf; rw [hE.scope]; exact hsm
  refine wpAny_BinOp (wpAny_Name (wpAny_loadName_local hkf hk' hm hv ?_) hsd)
  refine wpAny_mono (isi_list g hE hex hmg hnm hnd X h1 hz) (fun v s1 q => ?_) fun _ _ q => q
  obtain ⟨g1, l1, n1, rfl, e1⟩ := q
  refine e2_2 hb fun l0 n0 e_260 e0 => ?_
  obtain rfl := e_260
  have hl1 : (blist (ys.map fun y => x.ups.contains y)).length = ys.length := by unfold blist; rw [List.length_map, List.length_map]
  have hl0 : (blist bs).length = bs.length := by unfold blist; rw [List.length_map]
  refine P.add_list (items := (blist bs).toArray) (items2 := (blist (ys.map fun y => x.ups.contains y)).toArray) (n := n0) (n2 := n1) (g1.2 _ _ e0) e1 ?_ (by rw [sizeLine_eq, List.size_toArray, List.size_toArray]; lia)
  refine ⟨g1.trans ⟨⟨_, _, rfl⟩, fun _ _ e => Heap.get?_push_of_some _ e⟩, _, 0, rfl, ?_⟩
  have := Heap.get?_push_size s1.heap (o := { cls := .type "list", data := .seq ((blist bs).toArray ++ (blist (ys.map fun y => x.ups.contains y)).toArray) }) rfl
  rw [show (blist bs).toArray ++ (blist (ys.map fun y => x.ups.contains y)).toArray = (blist (bs ++ ys.map fun y => x.ups.contains y)).toArray by unfold blist; rw [List.map_append]; simp] at this ⊢
  exact this
theorem any_last {A : Around} {E : Value → Shared → Prop} {s : Shared} {e : Expr} {ys : List Str} {bs : List Bool} {m : Str → Option Value} {v0 : Value} (hsm : c.scope.names.lookup sm = some .local) (hsd : (sm == ("__debug__" : Str)) = false) (X : XC D c env γ H x nm a C s.heap)
    (hm : s.heap.Ns env.locals m) (hv : m sm = some v0) (hb : IsB s.heap v0 bs) (hz : ys.length ≤ 1000) (hz' : bs.length ≤ 1000) (h : anyE c nm sm e = some ys) :
    wpAny D.M A (eval e env) (fun v s' => Gw s s' ∧ v = .bool (((bs ++ ys.map fun y => x.ups.contains y).filter id).length == 1)) E s := by
  refine e3_2 (onAnd_some h) fun e1 e2 p e_261 h => ?_
  obtain rfl := e_261
  refine e1_2 (Option.bind_eq_some_iff.mp h) fun y h1 h => ?_
  obtain ⟨l, n, kp, p2, rfl, k⟩ := onEq1_some h
  obtain ⟨o, ap, n2, kp2, p3, rfl, hpb, hl, k2⟩ := onCount_some k
  refine BoolOp_and (wpAny_mono (isi_ve g hE hex hmg hnm hnd X h1) (fun v s1 q => ?_) fun _ _ q => q)
  obtain ⟨g1, rfl⟩ := q
  refine wpAny_truthy_bool ?_
  rw [if_pos rfl]
  refine BoolOp_one (wpAny_Compare1 ?_ (by rfl))
  have e1 : backTo p3 (starEach [.Constant (.bool true) n2 kp2] env) = [(false, eval (.Constant (.bool true) n2 kp2) env)] := by rw [starEach_of (by rfl)]; rfl
  refine wpAny_Call_method (attrBase hpb) (by rw [e1]; rfl) (beq_iff_eq.mpr hl) F.plainAttrs_list F.slot_list_count F.type_list_count ?_
  rw [e1]
  refine e2_2 hb fun l0 n0 e_264 e0 => ?_
  obtain rfl := e_264
  refine wpAny_mono (isi_plus g hE hex hmg hnm hnd hsm hsd (X.gw g1) (hm.keeps g1.2) hv ⟨l0, n0, rfl, g1.2 _ _ e0⟩ hz hz' k2) (fun v s2 q => ?_) fun _ _ q => q
  obtain ⟨g2, l2, n3, rfl, e2⟩ := q
  refine ⟨⟨_, e2, rfl⟩, fun b eb => by cases eb; exact ⟨_, e2, rfl⟩, ?_⟩
  refine Calls.callWith_builtin rfl (Calls.evalArgs_plain (Calls.spliced_cons (Constant_bool (Calls.spliced_nil ?_))))
  obtain ⟨as, ra⟩ := reads_bools (h := s2.heap) (bs ++ ys.map fun y => x.ups.contains y)
  refine count_list_bools ⟨_, e2, rfl, n3, rfl⟩ ra (all_bools _) ?_
  refine wpAny_Constant_int (wpAny_eq_int ⟨(g1.trans g2).trans ⟨⟨_, _, rfl⟩, fun _ _ e => e⟩, ?_⟩)
  rw [count_bools]
  congr 1
  rw [Bool.eq_iff_iff, beq_iff_eq, beq_iff_eq]
  lia
end
end Mine
namespace Mine
open PySem PyProof.Rows
section
variable {D : Wd} {Φ : Orc} {k : Nat} {c : CC}
theorem s_raise (g : GOk D c.G c.mts) {x : Str} {np cpos pos kp : Pos} {kk : Const} {kn : Nat} {W : V} {ups : List Str} (hg : globV c x = some (.cls x ups)) (hk : constV kk = some W) :
    SS D Φ k c (.Raise (some (.Call (.Name x np) [.Constant kk kn kp] [] cpos)) none pos) (.raise x ups) := by
  intro env A γ H s L Q X hE hA R fr w
  have hex : (x, ups) ∈ D.ex := g.cls x x ups (globV_lookup hg)
  refine e2_4 (g.exs _ _ hex) fun C bm hmg hat hcon hve => ?_
  obtain ⟨N, nm, q, bs, hdct, sn, sub, ab, col, dd, k0, k1, k2, k3, k5, mN, hC, hN, hmN, T⟩ := id hat
  have e1 : backTo cpos (starEach [.Constant kk kn kp] env) = [(false, eval (.Constant kk kn kp) env)] := by rw [starEach_of (by rfl)]; rfl
  refine wpAny_Raise_call_subT (nm := nm) (q := q) (C := C) (N := N) (bs := bs) (hdct := hdct) (sn := sn) (sub := sub) (ab := ab) (col := col) (dd := dd) (k0 := k0) (k1 := k1) (k2 := k2) (k3 := k3) (k5 := k5) F.excBase_ValueError (T.tail.hasType rfl) hA.handled (by rw [e1]; rfl) (hmN _ (.head _)) (glob_ok g hE R hg fun v r => ?_)
  refine e1_2 r fun C' e_266 hC' => ?_
  obtain rfl := e_266
  rw [hmg] at hC'; cases hC'
  refine ⟨rfl, ?_⟩
  rw [e1]
  refine Calls.evalArgs_plain (Calls.spliced_cons (wpAny_mono (const_ok (Q := fun _ H' => H' = H) (X := fun x => X x L) R hk rfl) (fun v s1 p => Calls.spliced_nil ?_) fun _ _ p => p.toE fr R))
  refine e3_4 p fun γ1 V H1 st R1 rv e_267 => ?_
  obtain rfl := e_267
  refine ⟨rfl, by rw [sizeLine_eq]; simp, R1.base _ _ hC, hN.keeps R1.base, T.tail.keeps R1.base, fun h' e hm => ?_⟩
  refine e1_3 (hm.there) fun t ht _ _ => ?_
  have st2 : Stp [] γ1 γ1 s1 { s1 with heap := h' } := stp_grow (tk := s1.toks) hm.keeps
  have st3 := st.trans0 R1 st2
  exact ⟨γ1, _, L, ⟨x, ups⟩, st3.weak, R1.grow hm.keeps, fr.stp R st3, ⟨.inl ⟨e, _, _, C, .ref t, rfl, fresh_back st R1 hm.new, ht, rfl, hmg, rfl, rfl, rfl, (R1.nin hm.new).1⟩, hex⟩, w⟩
theorem isName_ex {e : Expr} (h : isNm e = true) : ∃ x p, e = .Name x p := by
  cases e with
  | Name x p => exact ⟨x, p, rfl⟩
  | _ => exact Bool.noConfusion h
theorem ret_ok {env : Env} {A : Around} {E : Value → Shared → Prop} {γ : List Addr} {H : Hp} {s : Shared} {L : Lc} {e : Expr} {ie : IE} {V : V} (hE : EnvOk c env) (R : HRel D γ H s.heap) (f : FRel D γ env c.slots s.heap L) (hc : compR c e = some ie) (hv : evR L ie = some V) :
    wpAny D.M A (eval e env) (PostV D γ s fun V' H' => V' = V ∧ H' = H) E s := by
  unfold compR at hc
  cases hn : isNm e with
  | true =>
    rw [hn] at hc
    refine e2_2 (onName_some (show onName e _ = some ie from hc)) fun x p e_268 hc => ?_
    obtain rfl := e_268
    obtain ⟨h0, hc⟩ := onlyIf_some hc
    refine e1_2 (Option.map_eq_some_iff.mp hc) fun i hi e_269 => ?_
    obtain rfl := e_269
    rw [Bool.and_eq_true] at h0
    refine e1_2 (Option.bind_eq_some_iff.mp (show L[i]?.bind id = some V from hv)) fun o0 hL hv => ?_
    have hL : L[i]? = some (some V) := by rw [hL]; exact congrArg some hv
    have hkf : env.scope.kind = .function := by rw [hE.scope]; exact hE.kind
    have hk' : env.kindOf x = some .local := by unfold Env.kindOf; rw [hE.scope]; exact eq_of_beq h0.1
    refine e1_2 (f.l.ns) fun m hm fm => ?_
    refine e1_2 (fm x i _ hk' hi hL) fun v hv rv => ?_
    exact wpAny_Name (wpAny_loadName_local hkf hk' hm hv (PostV.here R rv ⟨rfl, rfl⟩)) (bnot h0.2)
  | false =>
    rw [hn] at hc
    refine e3_2 (onConst_some (show onConst e _ = some ie from hc)) fun kc n p e_270 hc => ?_
    obtain rfl := e_270
    refine e1_2 (Option.map_eq_some_iff.mp hc) fun W hW e_271 => ?_
    obtain rfl := e_271
    obtain rfl := Option.some.inj (show some W = some V from hv)
    exact wpAny_mono (const_ok (Q := fun V' H' => V' = W ∧ H' = H) (X := noX) R hW ⟨rfl, rfl⟩) (fun _ _ p => p) fun _ _ p => p.no.elim
theorem frel_but {env : Env} {γ : List Addr} {H : Hp} {L : Lc} {h h' : Heap} {m m' : Str → Option Value} {n : Str} {i : Nat} (so : SlotsOk c) (R : HRel D γ H h) (f : FRel D γ env c.slots h L) (hn : h.Ns env.locals m)
    (hm : ∀ (x : Str) (i : Nat) (V : V), env.kindOf x = some .local → c.slots.lookup x = some i → L[i]? = some (some V) → ∃ v, m x = some v ∧ Rep D γ h v V)
    (hn' : h'.Ns env.locals m') (hs : Heap.SameBut env.locals h h') (he : ∀ y, y ≠ n → m' y = m y) (hi : c.slots.lookup n = some i) (hk : env.kindOf n = some .local) :
    HRel D γ H h' ∧ FRel D γ env c.slots h' (L.set i none) ∧ (∀ (x : Str) (i' : Nat) (V : V), env.kindOf x = some .local → c.slots.lookup x = some i' → (L.set i none)[i']? = some (some V) → ∃ v, m' x = some v ∧ Rep D γ h' v V) := by
  refine e0_4 (f.own env.locals List.mem_cons_self) fun lg lB _ cL => ?_
  have hkk : ∀ b o, b ≠ env.locals → h.get? b = some o → h'.get? b = some o := fun b o hb e => hs.extBut b o hb e
  have tt : ∀ a ws, TupAt h a ws → TupAt h' a ws := fun a ws q => tupAt_but hkk cL q
  have key : ∀ (x : Str) (i' : Nat) (V : V), env.kindOf x = some .local → c.slots.lookup x = some i' → (L.set i none)[i']? = some (some V) → ∃ v, m' x = some v ∧ Rep D γ h' v V := fun y j V hy hj hL => by
    by_cases hxy : y = n
    · subst hxy
      rw [hi] at hj; obtain rfl := Option.some.inj hj
      by_cases hl : i < L.length
      · rw [List.getElem?_set_self hl] at hL; exact no_some (Option.some.inj hL)
      · rw [List.getElem?_eq_none_iff.mpr (by rw [List.length_set]; exact Nat.le_of_not_lt hl)] at hL; exact no_some hL
    · have hij : i ≠ j := fun q => hxy (so.inj y n i (q ▸ hj) hi)
      rw [List.getElem?_set_ne hij] at hL
      refine e1_2 (hm y j V hy hj hL) fun u hu ru => ?_
      exact ⟨u, by rw [he y hxy]; exact hu, Rep.mono ⟨[], by simp⟩ tt ru⟩
  refine ⟨R.but hkk lg lB cL (.inr (.inl (isD_ns hn'))), ⟨⟨⟨_, hn', key⟩, ?_, lg, f.l.tp⟩, ?_, f.apart, f.above, f.top⟩, key⟩
  · intro y hy
    refine e2_4 (f.l.cel y hy) fun ca u e1 e2 e3 e4 => ?_
    refine ⟨ca, u, e1, e2.sameBut hs (f.above (y, ca) (mem_of_lookup e1)), e3, fun j V hj hL => ?_⟩
    have hij : i ≠ j := fun q => by
      have := so.inj y n i (q ▸ hj) hi
      subst this; rw [hy] at hk; cases hk
    rw [List.getElem?_set_ne hij] at hL
    refine e1_2 (e4 j V hj hL) fun w hw rw_ => ?_
    exact ⟨w, hw, Rep.mono ⟨[], by simp⟩ tt rw_⟩
  · intro a ha
    refine e0_4 (f.own a ha) fun a1 a2 e_272 a3 => ?_
    obtain ⟨o, e⟩ := e_272
    by_cases hal : a = env.locals
    · subst hal
      exact ⟨a1, a2, (let ⟨o', _, _, eo, _⟩ := hn'; ⟨o', eo⟩), notTup_dict hn'⟩
    · exact ⟨a1, a2, ⟨o, hkk _ _ hal e⟩, notTup_same e (hkk _ _ hal e) a3⟩
theorem anyB_inv {nm : Str} {body : List Stmt} {i j : Nat} {ys : List Str} (h : anyB c nm body = some (i, j, ys)) : ∃ sm x1 e1 p1 x2 e2 p2 e3 p3 y1 y2 y3, body = [.Assign [.Name sm x1] e1 p1, .Assign [.Name sm x2] e2 p2, .Return (some e3) p3] ∧ isiL c nm e1 = some y1 ∧ plusL c nm sm e2 = some y2 ∧ anyE c nm sm e3 = some y3 ∧ ys = y1 ++ y2 ++ y3 ∧ okNm c nm sm = true ∧ c.slots.lookup nm = some i ∧ c.slots.lookup sm = some j ∧ (y1 ++ y2 ++ y3).length ≤ 100 := by
  cases body with
  | nil => exact no_some h
  | cons s1 r =>
    refine e2_2 (on2_some (show on2 r _ = some (i, j, ys) from h)) fun s2 s3 e_273 h => ?_
    obtain rfl := e_273
    obtain ⟨sm, x1, e1, p1, rfl, h⟩ := onAsg_some h
    refine e1_2 (Option.bind_eq_some_iff.mp h) fun y1 h1 h => ?_
    obtain ⟨sm2, x2, e2, p2, rfl, h⟩ := onAsg_some h
    obtain ⟨h0, h'⟩ := onlyIf_some h
    clear h
    rw [Bool.and_eq_true] at h0
    obtain rfl : sm2 = sm := eq_of_beq h0.1
    refine e1_2 (Option.bind_eq_some_iff.mp h') fun y2 h2 h' => ?_
    refine e2_2 (onRet_some h') fun e3 p3 e_276 h' => ?_
    obtain rfl := e_276
    refine e1_2 (Option.bind_eq_some_iff.mp h') fun y3 h3 h' => ?_
    obtain ⟨hz, h'⟩ := onlyIf_some h'
    refine e2_3 (oTwo_some h') fun i' j' hi hj he => ?_
    cases he
    exact ⟨_, x1, e1, p1, x2, e2, p2, e3, p3, y1, y2, y3, rfl, h1, h2, h3, rfl, h0.2, hi, hj, Nat.ble_eq.mp hz⟩
theorem compH_inv {h : ExceptHandler} {ih : Str × Option Nat × HB} (hc : compH c h = some ih) :
    ∃ y yp hp ups, globV c y = some (.cls y ups) ∧ ((∃ e rp ie, h = .ExceptHandler (some (.Name y yp)) none [.Return (some e) rp] hp ∧ compR c e = some ie ∧ ih = (y, none, .ret ie)) ∨
      ∃ nm body i j ys, h = .ExceptHandler (some (.Name y yp)) (some nm) body hp ∧ anyB c nm body = some (i, j, ys) ∧ ih = (y, some i, .any j ys)) := by
  obtain ⟨ty, nm, body, p⟩ := h
  cases ty with
  | none => exact no_some hc
  | some t =>
    refine e2_2 (onName_some (show onName t _ = some ih from hc)) fun y yp e_277 hc => ?_
    obtain rfl := e_277
    refine e1_2 (Option.bind_eq_some_iff.mp hc) fun ups hu hc => ?_
    refine ⟨y, yp, p, ups, ownC_some hu, ?_⟩
    cases nm with
    | none =>
      refine e1_2 (on1_some hc) fun st e_278 hc => ?_
      obtain rfl := e_278
      refine e2_2 (onRet_some hc) fun e rp e_279 hc => ?_
      obtain rfl := e_279
      refine e1_2 (Option.map_eq_some_iff.mp hc) fun ie h1 e_280 => ?_
      obtain rfl := e_280
      exact .inl ⟨e, rp, ie, rfl, h1, rfl⟩
    | some nm =>
      refine e1_2 (Option.map_eq_some_iff.mp hc) fun e_281 h1 e_282 => ?_
      obtain ⟨i, j, ys⟩ := e_281
      obtain rfl := e_282
      exact .inr ⟨nm, body, i, j, ys, rfl, h1, rfl⟩
theorem Stp.gw {wr γ γ' : List Addr} {s s1 s2 : Shared} (t : Stp wr γ γ' s s1) (g : Gw s1 s2) : Stp wr γ γ' s s2 := by
  obtain ⟨⟨h, tk, rfl⟩, k⟩ := g
  exact ⟨(let ⟨h1, t1, e⟩ := t.same; ⟨h, tk, by rw [e]⟩), fun b o hb hw e => let ⟨sl, e', q⟩ := t.keepS b o hb hw e; ⟨sl, k _ _ e', q⟩, t.ext⟩
theorem Stp.loc {env : Env} {γ γ' : List Addr} {s s1 : Shared} {h : Heap} {tk : Nat} (t : Stp (ownA env) γ γ' s s1) (hs : Heap.SameBut env.locals s1.heap h) : Stp (ownA env) γ γ' s { s1 with heap := h, toks := tk } :=
  ⟨(let ⟨h1, t1, e⟩ := t.same; ⟨h, tk, by rw [e]⟩), fun b o hb hw e => let ⟨sl, e', q⟩ := t.keepS b o hb hw e; ⟨sl, hs.extBut _ _ (fun z => hw (z ▸ List.mem_cons_self)) e', q⟩, t.ext⟩
theorem FRel.gw {γ : List Addr} {env : Env} {s s' : Shared} {L : Lc} (f : FRel D γ env c.slots s.heap L) (g : Gw s s') : FRel D γ env c.slots s'.heap L :=
  ⟨f.l.grow g.2, fun a ha => let ⟨a1, a2, ⟨o, e⟩, a3⟩ := f.own a ha; ⟨a1, a2, ⟨o, g.2 _ _ e⟩, notTup_same e (g.2 _ _ e) a3⟩, f.apart, f.above, f.top⟩
structure HSt (D : Wd) (c : CC) (env : Env) (γ γ1 : List Addr) (H1 : Hp) (s : Shared) (x : Exc) (nm : Str) (a C : Addr) (L : Lc) (m : Str → Option Value) (s1 : Shared) : Prop where
  st : Stp (ownA env) γ γ1 s s1
  R : HRel D γ1 H1 s1.heap
  f : FRel D γ1 env c.slots s1.heap L
  there : ∃ o vs, s1.heap.get? a = some o ∧ o.cls = .ref C ∧ o.data = .fields vs
  ns : s1.heap.Ns env.locals m
  nm : m nm = some (.ref a)
  val : ∀ (x : Str) (i : Nat) (V : V), env.kindOf x = some .local → c.slots.lookup x = some i → L[i]? = some (some V) → ∃ v, m x = some v ∧ Rep D γ1 s1.heap v V
section
variable {env : Env} {γ γ1 : List Addr} {H1 : Hp} {s s1 : Shared} {x : Exc} {nm sm : Str} {a C : Addr} {L : Lc} {m : Str → Option Value}
theorem HSt.xc (S : HSt D c env γ γ1 H1 s x nm a C L m s1) : XC D c env γ1 H1 x nm a C s1.heap := ⟨S.R, let ⟨o, vs, e, d, _⟩ := S.there; ⟨o, e, d⟩, ⟨m, S.ns, S.nm⟩⟩
theorem HSt.gw {s2 : Shared} (S : HSt D c env γ γ1 H1 s x nm a C L m s1) (g : Gw s1 s2) : HSt D c env γ γ1 H1 s x nm a C L m s2 :=
  ⟨S.st.gw g, S.R.grow g.2, S.f.gw g, let ⟨o, vs, e, d⟩ := S.there; ⟨o, vs, g.2 _ _ e, d⟩, S.ns.keeps g.2, S.nm, fun x i V a b c => let ⟨v, e, q⟩ := S.val x i V a b c; ⟨v, e, Rep.mono ⟨[], by simp⟩ (fun _ _ => tupAt_grow g.2) q⟩⟩
theorem HSt.store (so : SlotsOk c) (S : HSt D c env γ γ1 H1 s x nm a C L m s1) (hk : env.kindOf sm = some .local) {j : Nat} (hj : c.slots.lookup sm = some j) (hne : nm ≠ sm) {v : Value} {h : Heap} {tk : Nat} (hn : h.Ns env.locals (fun y => if y = sm then some v else m y)) (hs : Heap.SameBut env.locals s1.heap h) :
    HSt D c env γ γ1 H1 s x nm a C (L.set j none) (fun y => if y = sm then some v else m y) { s1 with heap := h, toks := tk } := by
  refine e0_3 (frel_but so S.R S.f S.ns S.val hn hs (fun y hy => if_neg hy) hj hk) fun R2 f2 v2 => ?_
  refine e2_3 (S.there) fun o vs e d dd => ?_
  refine ⟨S.st.loc hs, R2, f2, ⟨o, vs, hs.extBut _ _ (fun q => ?_) e, d, dd⟩, hn, (if_neg hne).trans S.nm, v2⟩
  refine e3_3 (S.ns) fun o' es ep e' hd _ => ?_
  rw [← q, e] at e'
  obtain rfl := Option.some.inj e'
  rw [dd] at hd; cases hd
end
theorem handle_ok {env : Env} {A : Around} {E : Value → Shared → Prop} {γ γ1 : List Addr} {H1 : Hp} {s s1 : Shared} {L1 : Lc} {Q : QS} {x : Exc} {a C : Addr} {a0 : Value} {ex : List Addr} {h2 : Heap} (g : GOk D c.G c.mts) (so : SlotsOk c) (hE : EnvOk c env)
    (alive : ∀ a ∈ ownA env, ∃ o, s.heap.get? a = some o) (st : Stp (ownA env) γ γ1 s s1) (R1 : HRel D γ1 H1 s1.heap) (f1 : FRel D γ1 env c.slots s1.heap L1) (hex : (x.cls, x.ups) ∈ D.ex) (hmg : D.mg x.cls = some (.ref C)) (XF : ExF D γ1 s s1.heap ex)
    (land : Land ex s1.heap h2) (fl : Heap.FlyingW (PySem.W.hideAll s1.heap ex) D.fr a (.ref C) a0 h2) :
    ∀ (hds : List ExceptHandler) (bs : List (Str × Option Nat × HB)), mapO (compH c) hds = some bs → hndl x L1 H1 Q bs →
      wpAny D.M A (handleBy (.ref a) env hds) (PostF D γ s env c.slots Q) E { s1 with heap := h2 } := by
  intro hds
  induction hds with
  | nil => intro bs hb w; obtain rfl := Option.some.inj hb; exact w.elim
  | cons hd hds ih =>
    intro bs hb w
    refine e1_2 (Option.bind_eq_some_iff.mp (show (compH c hd).bind _ = some bs from hb)) fun b hb1 hb => ?_
    refine e1_2 (Option.map_eq_some_iff.mp hb) fun bs' hb2 e_283 => ?_
    obtain rfl := e_283
    obtain ⟨y, yp, hp, ups, hy, hsh⟩ := compH_inv hb1
    refine e2_4 (g.exs _ _ hex) fun C' bm hmg' hat hcon hve => ?_
    rw [hmg] at hmg'; cases hmg'
    have hexy := g.cls _ _ _ (globV_lookup hy)
    refine e2_3 (g.exs _ _ hexy) fun Cy bmy hmgy haty _ => ?_
    have R2 := land.rel R1 XF
    refine e1_2 (fl.there) fun oe he hc => ?_
    have test : ∀ {name : Option Str} {body : List Stmt}, hd = .ExceptHandler (some (.Name y yp)) name body hp → b.1 = y →
        (x.ups.contains y = true → codeAny D.M (A.mark (some (.ref a))) (.handlers (.ref a) [.ExceptHandler none name body hp] env) (fun r s₂ => match r with
          | .ok f => (match name with
            | none => PostF D γ s env c.slots Q f s₂
            | some n => wpAny D.M A (do bindName env n .none; unbindBehindTheSuite env n hp) (fun _ s₃ => PostF D γ s env c.slots Q f s₃) E s₂)
          | .error x => cameBackBy D.M A env E x s₂) { s1 with heap := h2 }) →
        wpAny D.M A (handleBy (.ref a) env (hd :: hds)) (PostF D γ s env c.slots Q) E { s1 with heap := h2 } := by
      intro name body eh eb hk
      subst eh
      refine wpAny_handleBy_cons (codeAny_handlers_test (glob_ok g hE R2 hy fun v rv => ?_)) (by intro q; cases q)
      refine e1_2 rv fun Cy' e_284 hy' => ?_
      obtain rfl := e_284
      rw [hmgy] at hy'; cases hy'
      refine matchOwn (s := { s1 with heap := h2 }) (hat.keeps R2.base) (haty.keeps R2.base) he hc ?_
      rw [hcon y ups Cy hexy hmgy]
      have w : ifP (x.ups.contains b.1) _ (hndl x L1 H1 Q bs') := w
      rw [eb] at w
      cases hu : x.ups.contains y with
      | false => rw [hu] at w; exact ih bs' hb2 w
      | true => exact hk hu
    rcases hsh with ⟨e, rp, ie, eh, hcr, rfl⟩ | ⟨nm, body, i, j, ys, eh, hany, rfl⟩
    · refine test eh rfl fun hu => ?_
      have w : ifP (x.ups.contains y) (oK (evR L1 ie) fun v => Q (.ret v) L1 H1) (hndl x L1 H1 Q bs') := w
      rw [hu] at w
      refine codeAny_handlers_suite (lands_againW fl fun h3 fl3 up3 => ?_)
      have land3 : Land ex s1.heap h3 := Land.of fl3.1 (land.up.trans up3)
      have R3 := land3.rel R1 XF
      have f3 := land3.frel R1 XF alive f1
      refine e1_2 (oK_elim w) fun V hV w => ?_
      refine wpAny_execs_cons (wpAny_Return_some (wpAny_mono (ret_ok (s := { s1 with heap := h3 }) hE R3 f3 hcr hV) (fun v s4 p => ?_) fun _ _ q => q))
      obtain ⟨γ4, V4, H4, st4, R4, rv, rfl, rfl⟩ := p
      exact ⟨γ4, _, L1, .ret _, (land3.stp R1.frs XF st).transF R3 st4.weak f3.alive, R4, f3.stp R3 st4, ⟨v, rfl, rv⟩, w⟩
    · refine test eh rfl fun hu => ?_
      have w : ifP (x.ups.contains y) (Q (.ret (.bool (anyV x ys))) ((L1.set i none).set j none) H1) (hndl x L1 H1 Q bs') := w
      rw [hu] at w
      have w : Q (.ret (.bool (anyV x ys))) ((L1.set i none).set j none) H1 := w
      obtain ⟨sm, x1, e1, p1, x2, e2, p2, e3, p3, y1, y2, y3, rfl, i1, i2, i3, rfl, hok, hni, hsj, hz⟩ := anyB_inv hany
      rw [List.length_append, List.length_append] at hz
      unfold okNm at hok
      rw [Bool.and_eq_true, Bool.and_eq_true, Bool.and_eq_true, Bool.and_eq_true] at hok
      have hnl : c.scope.names.lookup nm = some .local := eq_of_beq hok.1.1.1.1
      have hsl : c.scope.names.lookup sm = some .local := eq_of_beq hok.1.1.1.2
      have hne : nm ≠ sm := fun q => by have := bnot hok.1.1.2; rw [q, beq_self_eq_true] at this; exact Bool.noConfusion this
      have hkf : env.scope.kind = .function := by rw [hE.scope]; exact hE.kind
      have hk' : ∀ {z}, c.scope.names.lookup z = some .local → env.kindOf z = some .local := fun q => by unfold Env.kindOf; rw [hE.scope]; exact q
      have hpk : (env.scope.kind == .class || (env.scope.kind == .module && env.locals != env.globals)) = false := by rw [hkf]; rfl
      refine codeAny_handlers_suite_as (lands_againW fl fun h3 fl3 up3 => ?_)
      have land3 : Land ex s1.heap h3 := Land.of fl3.1 (land.up.trans up3)
      have R3 := land3.rel R1 XF
      have f3 := land3.frel R1 XF alive f1
      refine e1_2 (f3.l.ns) fun m hn fm => ?_
      refine wpAny_storeName_local (hk' hnl) hn (fun h4 hn4 hs4 => ?_) hpk
      refine e0_3 (frel_but so R3 f3 hn fm hn4 hs4 (fun y hy => by simp [hy]) hni (hk' hnl)) fun R4 f4 fm4 => ?_
      obtain ⟨_, _, _, oe3, vs3, _, _, _, q1, q3, q2, _⟩ := id fl3
      have hal : a ≠ env.locals := fun q => by
        refine e3_3 hn fun o es ep ho hd _ => ?_
        subst q
        rw [q1] at ho; cases ho
        rw [q2] at hd; cases hd
      have S4 : HSt D c env γ γ1 H1 s x nm a C (L1.set i none) (fun y => if y = nm then some (.ref a) else m y) { s1 with heap := h4, toks := s1.toks } :=
        ⟨Stp.loc (s1 := { s1 with heap := h3 }) (land3.stp R1.frs XF st) hs4, R4, f4, ⟨oe3, vs3, hs4.extBut _ _ hal q1, q3.1, q2⟩, hn4, if_pos rfl, fm4⟩
      have notLoc : ∀ {h : Heap} {mm : Str → Option Value} {l : Addr} {q : Array Value} {n : Nat}, h.Ns env.locals mm → h.get? l = some { cls := .type "list", data := .seq q n } → l ≠ env.locals := fun {h mm l q n} nn el e => by
        refine e3_3 nn fun o es ep ho hd _ => ?_
        rw [← e, el] at ho
        rw [← Option.some.inj ho] at hd; cases hd
      have hnd := bnot hok.1.2
      have hsd := bnot hok.2
      have hij : i ≠ j := fun q => hne (so.inj nm sm i hni (q ▸ hsj))
      refine wpAny_execs_cons (wpAny_Assign_Name (wpAny_mono (isi_list g hE hex hmg hnl hnd S4.xc i1 (by lia)) (fun v s5 p => ?_) fun _ _ q => q) (by obtain ⟨es, p, rfl, _⟩ := onList_some i1; rfl))
      obtain ⟨g5, l5, n5, rfl, el5⟩ := p
      have S5 := S4.gw g5
      refine wpAny_storeName_local (hk' hsl) S5.ns (fun h6 hn6 hs6 => ?_) hpk
      have S6 := S5.store (tk := s5.toks) so (hk' hsl) hsj hne hn6 hs6
      refine wpAny_execs_cons (wpAny_Assign_Name (wpAny_mono (isi_plus g hE hex hmg hnl hnd hsl hsd S6.xc S6.ns (if_pos rfl) ⟨l5, n5, rfl, hs6.extBut _ _ (notLoc S5.ns el5) el5⟩ (by lia) (by rw [List.length_map]; lia) i2) (fun v s7 p => ?_) fun _ _ q => q) (by obtain ⟨l, r, p, rfl, _⟩ := onAdd_some i2; rfl))
      obtain ⟨g7, l7, n7, rfl, el7⟩ := p
      have S7 := S6.gw g7
      refine wpAny_storeName_local (hk' hsl) S7.ns (fun h8 hn8 hs8 => ?_) hpk
      have S8 := S7.store (tk := s7.toks) so (hk' hsl) hsj hne hn8 hs8
      refine wpAny_execs_cons (wpAny_Return_some (wpAny_mono (any_last g hE hex hmg hnl hnd hsl hsd S8.xc S8.ns (if_pos rfl) ⟨l7, n7, rfl, hs8.extBut _ _ (notLoc S7.ns el7) el7⟩ (by lia) (by rw [List.length_append, List.length_map, List.length_map]; lia) i3) (fun v s9 p => ?_) fun _ _ q => q))
      obtain ⟨g9, rfl⟩ := p
      have S9 := S8.gw g9
      refine wpAny_nameGoes_keeps (hk' hnl) S9.ns hpk fun h10 v10 hn10 hs10 => ?_
      refine e0_3 (frel_but so S9.R S9.f S9.ns S9.val hn10 hs10 (fun y hy => by simp [hy]) hni (hk' hnl)) fun R10 f10 _ => ?_
      have eL : ((((L1.set i none).set j none).set j none).set i none) = (L1.set i none).set j none := by
        rw [List.set_set, List.set_comm _ _ (Ne.symm hij), List.set_set]
      rw [eL] at f10
      refine ⟨γ1, H1, _, .ret (.bool (anyV x (y1 ++ y2 ++ y3))), S9.st.loc hs10, R10, f10, ⟨_, rfl, ?_⟩, w⟩
      show Value.bool _ = Value.bool _
      unfold anyV
      rw [← List.map_append, ← List.map_append, List.filter_map, List.length_map]
      rfl
theorem s_try {b : List Stmt} {ib : List IS} {hd : ExceptHandler} {hds : List ExceptHandler} {hs : List (Str × Option Nat × HB)} {pos : Pos} (g : GOk D c.G c.mts) (so : SlotsOk c) (hb : SSs D Φ k c b ib) (hh : mapO (compH c) (hd :: hds) = some hs) :
    SS D Φ k c (.Try b (hd :: hds) [] [] pos) (.tryR ib hs) := by
  intro env A γ H s L Q X hE hA R fr w
  refine wpAny_Try_except (wpAny_mono (hb env A γ H s L Q _ hE hA R fr w) (fun fl s1 p => ?_) fun v s1 p => ?_)
  · cases fl <;> first | exact p | exact wpAny_execs_nil p
  · refine e4_5 p fun γ1 H1 L1 x st R1 fr1 e_291 q => ?_
    obtain ⟨hx, hex⟩ := e_291
    refine e1_2 (fr1.top) fun outer htop hfr => ?_
    refine note_any hA.frames R R1 htop hfr hx fun a C a0 ex h' e1 hmg hn hax XF up hh' => ?_
    subst e1
    refine lands hh' fun h2 fl up2 => ?_
    exact handle_ok g so hE fr.alive st R1 fr1 hex hmg XF (Land.of fl.1 (up.trans up2)) fl (hd :: hds) hs hh q
end
end Mine
namespace Mine
open PySem PyProof.Rows
section
variable {D : Wd} {Φ : Orc} {k : Nat}
theorem noSwap {e : Expr} {n : Nat} {c : CC} {ie : IE} (h : compE n c e = some ie) (hl : ∀ a b d f, e ≠ .ListComp a b d f) (t : Option Expr) (l : Nat) (env : Env) : swapsWith e t l env = pure false := by
  cases e <;> first | rfl | exact absurd rfl (hl _ _ _ _) | (cases n <;> exact no_some h)
theorem s_assign_any (hO : OrcOk D k Φ) {n : Nat} {c : CC} (g : GOk D c.G c.mts) (so : SlotsOk c) {x : Str} {px pos : Pos} {e : Expr} {i : Nat} {ie : IE} (h1 : slotV c x = some i) (h2 : compE n c e = some ie) : SS D Φ k c (.Assign [.Name x px] e pos) (.assign i ie) := by
  by_cases hl : ∃ a b d f, e = .ListComp a b d f
  · obtain ⟨elt, gens, scope, pos', rfl⟩ := hl
    cases n with
    | zero => exact no_some h2
    | succ n =>
      obtain ⟨tgt, iter, kk, ss, ielt, c', bdf, rfl, cg, e1, e2, hie⟩ := lc_inv (D := D) (Φ := Φ) (k := k) (show cLc (compE n) c elt gens scope = some ie from h2)
      exact s_assign_comp g so (fun c e ie g h => soundE hO n c e ie g h) cg e1 e2 (noSetIter e1) h1 hie
  · exact s_assign so (soundE hO n c e ie g h2).1 h1 (fun env _ => noSwap h2 (fun a b d f q => hl ⟨a, b, d, f, q⟩) _ _ env)
theorem soundS (hO : OrcOk D k Φ) : ∀ (n : Nat) (c : CC) (st : Stmt) (is : IS), GOk D c.G c.mts → SlotsOk c → compS n c st = some is → SS D Φ k c st is := by
  intro n
  induction n with
  | zero => intro c st is g so h; exact no_some h
  | succ n ih =>
    intro c st is g so h
    have ihE : ∀ e ie, compE n c e = some ie → Both D Φ k c e ie := fun e ie h => soundE hO n c e ie g h
    have ihS := sss_of (f := compS n c) (fun st is h => ih c st is g so h)
    cases st with
    | Expr e p =>
      obtain ⟨hc, h⟩ := onlyIf_some h
      refine e1_2 (Option.map_eq_some_iff.mp h) fun a ha e_294 => ?_
      obtain rfl := e_294
      exact s_expr (ihE _ _ ha).1 (bnot hc)
    | Assign ts e p =>
      refine e1_2 (on1_some (show on1 ts _ = some is from h)) fun t e_295 h => ?_
      obtain rfl := e_295
      cases t with
      | Name x px =>
        refine e2_3 (oTwo_some (show oTwo IS.assign _ _ = some is from h)) fun a b h1 h2 e_296 => ?_
        obtain rfl := e_296
        exact s_assign_any hO g so h1 h2
      | Subscript o i p' =>
        obtain ⟨hc, h⟩ := onlyIf_some (show onlyIf (!isComp e) _ = some is from h)
        refine e3_4 (oThree_some h) fun a b d h1 h2 h3 e_297 => ?_
        obtain rfl := e_297
        exact s_set (ihE _ _ h1).1 (ihE _ _ h2).1 (ihE _ _ h3).1 (fun env => noSwap h1 (fun a b d f q => by subst q; exact Bool.noConfusion hc) _ _ env)
      | Attribute o x p' =>
        obtain ⟨hc, h⟩ := onlyIf_some (show onlyIf (!isComp e && fldOk x) _ = some is from h)
        rw [Bool.and_eq_true] at hc
        refine e2_3 (oTwo_some h) fun a b h1 h2 e_298 => ?_
        obtain rfl := e_298
        exact s_setAttr g hc.2 (ihE _ _ h1).1 (ihE _ _ h2).1 (fun env => noSwap h1 (fun a b d f q => by subst q; exact Bool.noConfusion hc.1) _ _ env)
      | _ => exact no_some h
    | Return e p =>
      refine e1_2 (Option.bind_eq_some_iff.mp h) fun e e_299 h => ?_
      obtain rfl := e_299
      obtain ⟨a, ha, rfl⟩ := Option.map_eq_some_iff.mp h; exact s_ret (ihE _ _ ha).1
    | If t a b p => obtain ⟨t, a, b, h1, h2, h3, rfl⟩ := oThree_some h; exact s_if (ihE _ _ h1).2 (ihS _ _ h2) (ihS _ _ h3)
    | While t b e p =>
      obtain ⟨h0, h⟩ := onlyIf_some h
      obtain rfl : e = [] := List.isEmpty_iff.mp h0
      obtain ⟨t, b, h1, h2, rfl⟩ := oTwo_some h; exact s_while (ihE _ _ h1).2 (ihS _ _ h2)
    | For t iter b e p =>
      obtain ⟨h0, h⟩ := onlyIf_some h
      obtain rfl : e = [] := List.isEmpty_iff.mp h0
      refine e2_2 (onName_some h) fun x px e_300 h => ?_
      obtain rfl := e_300
      obtain ⟨i, ks, b, h1, h2, h3, rfl⟩ := oThree_some h; exact s_for g so (fun e ie h => (ihE e ie h).1) h1 h2 (ihS _ _ h3)
    | Raise e d p =>
      refine e1_2 (Option.bind_eq_some_iff.mp (show (raiseOf e d).bind _ = some is from h)) fun e_301 hr h1 => ?_
      obtain ⟨x, kk⟩ := e_301
      obtain ⟨h0, h2⟩ := onlyIf_some h1
      obtain ⟨np, kn, kp, cp, rfl, rfl⟩ := raiseOf_some hr
      obtain ⟨W, hW⟩ := Option.isSome_iff_exists.mp h0
      refine e1_2 (Option.map_eq_some_iff.mp (show (ownC c x).map _ = some is from h2)) fun ups hu e_304 => ?_
      obtain rfl := e_304
      exact s_raise g (ownC_some hu) hW
    | Try b hs o f p =>
      obtain ⟨h0, h'⟩ := onlyIf_some h
      clear h
      rw [Bool.and_eq_true, Bool.and_eq_true] at h0
      obtain rfl : o = [] := List.isEmpty_iff.mp h0.1.1
      obtain rfl : f = [] := List.isEmpty_iff.mp h0.1.2
      refine e2_3 (oTwo_some h') fun a u h1 h2 e_305 => ?_
      obtain rfl := e_305
      cases hs with
      | nil => exact Bool.noConfusion h0.2
      | cons hd hs => exact s_try g so (ihS _ _ h1) h2
    | Continue p =>
      obtain rfl := Option.some.inj h
      exact fun env A γ H s L Q X hE hA R fr w => wpAny_Continue ⟨γ, H, L, .cont, Stp.refl, R, fr, rfl, w⟩
    | _ => exact no_some h
theorem slotsGo_lookup : ∀ (names : List Str) (k : Nat) (x : Str) (i : Nat), (slotsGo names k).lookup x = some i → ∃ j, i = k + j ∧ names[j]? = some x
  | [], _, _, _, h => by simp [slotsGo] at h
  | y :: r, k, x, i, h => by
    simp only [slotsGo, List.lookup_cons] at h
    cases hxy : x == y with
    | true =>
      rw [hxy] at h
      simp only [Option.some.injEq] at h
      exact ⟨0, by lia, by simp; exact (by simpa using hxy : x = y).symm⟩
    | false =>
      rw [hxy] at h
      refine e1_2 (slotsGo_lookup r (k + 1) x i h) fun j e1 e2 => ?_
      exact ⟨j + 1, by lia, by simpa using e2⟩
theorem bindL_spec {kindOf : Str → Option NameKind} : ∀ (binds : List (Str × Value)) (m : Str → Option Value) (x : Str), kindOf x = some .local → (binds.map (·.1)).Nodup → bindL kindOf binds m x = (binds.lookup x).or (m x)
  | [], m, x, _, _ => by simp [bindL]
  | (n, v) :: r, m, x, hx, hn => by
    simp only [List.map_cons, List.nodup_cons] at hn
    rw [bindL, bindL_spec r _ x hx hn.2, List.lookup_cons]
    cases hxn : x == n with
    | true =>
      have : x = n := by simpa using hxn
      subst this
      have hr : r.lookup x = none := by
        rw [List.lookup_eq_none_iff]
        intro p hp
        have : x ≠ p.1 := fun q => hn.1 (q ▸ List.mem_map_of_mem hp)
        simpa using this
      simp [hr, hx]
    | false =>
      have hne : x ≠ n := by simpa using hxn
      congr 1
      split
      · simp [hne]
      · rfl
theorem bindC_spec {kindOf : Str → Option NameKind} : ∀ (binds : List (Str × Value)) (m : Str → Option Value) (x : Str), kindOf x ≠ some .local → (binds.map (·.1)).Nodup → bindC kindOf binds m x = (binds.lookup x).or (m x)
  | [], m, x, _, _ => by simp [bindC]
  | (n, v) :: r, m, x, hx, hn => by
    simp only [List.map_cons, List.nodup_cons] at hn
    rw [bindC, bindC_spec r _ x hx hn.2, List.lookup_cons]
    cases hxn : x == n with
    | true =>
      have : x = n := by simpa using hxn
      subst this
      have hr : r.lookup x = none := by
        rw [List.lookup_eq_none_iff]
        intro p hp
        have : x ≠ p.1 := fun q => hn.1 (q ▸ List.mem_map_of_mem hp)
        simpa using this
      simp [hr, hx]
    | false =>
      have hne : x ≠ n := by simpa using hxn
      congr 1
      split
      · rfl
      · simp [hne]
theorem zip_lookup : ∀ (ps : List Str) (vals : List Value) (i : Nat) (x : Str) (v : Value), ps.Nodup → ps[i]? = some x → vals[i]? = some v → (ps.zip vals).lookup x = some v
  | p :: ps, [], i, x, v, _, _, h => by simp at h
  | p :: ps, w :: vals, 0, x, v, hn, h1, h2 => by
    simp at h1 h2; subst h1; subst h2; simp [List.lookup_cons]
  | p :: ps, w :: vals, i + 1, x, v, hn, h1, h2 => by
    simp only [List.nodup_cons] at hn
    simp at h1 h2
    have hne : (x == p) = false := by
      have : x ≠ p := fun q => hn.1 (q ▸ List.mem_of_getElem? h1)
      simpa using this
    rw [List.zip_cons_cons, List.lookup_cons, hne]
    exact zip_lookup ps vals i x v hn.2 h1 h2
  | [], _, _, _, _, _, h, _ => by simp at h
theorem cellsFrom_names : ∀ (names : List (Str × NameKind)) (n : Nat) (acc : List (Str × Addr)) (x : Str), x ∈ (cellsFrom n names acc).map (·.1) → x ∈ acc.map (·.1) ∨ (x, NameKind.cell) ∈ names
  | [], _, _, _, h => .inl h
  | (y, kd) :: r, n, acc, x, h => by
    unfold cellsFrom at h
    split at h
    · rename_i hk
      rcases cellsFrom_names r _ _ x h with q | q
      · simp only [List.map_cons, List.mem_cons] at q
        rcases q with q | q
        · subst q
          have : kd = .cell := by simpa using hk
          subst this
          exact .inr List.mem_cons_self
        · exact .inl q
      · exact .inr (List.mem_cons_of_mem _ q)
    · rcases cellsFrom_names r _ _ x h with q | q
      · exact .inl q
      · exact .inr (List.mem_cons_of_mem _ q)
theorem cellsFrom_nodup : ∀ (names : List (Str × NameKind)) (n : Nat) (acc : List (Str × Addr)), (names.map (·.1)).Nodup → (acc.map (·.1)).Nodup → (∀ x ∈ acc.map (·.1), x ∉ names.map (·.1)) → ((cellsFrom n names acc).map (·.1)).Nodup
  | [], _, _, _, h, _ => h
  | (y, kd) :: r, n, acc, hn, ha, hd => by
    simp only [List.map_cons, List.nodup_cons] at hn
    unfold cellsFrom
    split
    · refine cellsFrom_nodup r _ _ hn.2 ?_ ?_
      · simp only [List.map_cons, List.nodup_cons]
        exact ⟨fun q => hd y q (by simp), ha⟩
      · intro x hx
        simp only [List.map_cons, List.mem_cons] at hx
        rcases hx with q | q
        · subst q; exact hn.1
        · exact fun q' => hd x q (by simp at q' ⊢; exact .inr q')
    · exact cellsFrom_nodup r _ _ hn.2 ha (fun x hx q' => hd x hx (by simp at q' ⊢; exact .inr q'))
theorem lookup_of_nodup : ∀ {l : List (Str × Addr)} {n : Str} {a : Addr}, (l.map (·.1)).Nodup → (n, a) ∈ l → l.lookup n = some a
  | (m, b) :: r, n, a, hn, h => by
    simp only [List.map_cons, List.nodup_cons] at hn
    rw [List.lookup_cons]
    rcases List.mem_cons.mp h with q | q
    · cases q; simp
    · have : (n == m) = false := by
        have : n ≠ m := fun e => hn.1 (e ▸ List.mem_map_of_mem q)
        simpa using this
      rw [this]
      exact lookup_of_nodup hn.2 q
structure FnOk (D : Wd) (G : List (Str × V)) (mts : List Str) (x : Str) (f : Fn) : Prop where
  at' : ∃ a o name qual params body scope pm cd doc ps, D.fa x = some a ∧ D.hB.get? a = some o ∧ o.data = .func (methDef name qual params body scope pm cd doc) ∧ D.hB.CodeRec cd qual ∧
    compFn G mts ps body scope = some f ∧ (∀ vals : List Value, vals.length = ps.length → bindArgs (methDef name qual params body scope pm cd doc) ⟨vals, []⟩ = pure (ps.zip vals)) ∧
    ps.Nodup ∧ (scope.names.map (·.1)).Nodup ∧ (∀ p ∈ ps, scope.names.lookup p = some .local ∨ scope.names.lookup p = some .cell) ∧ scope.isCoroutine = false ∧ scope.isGenerator = false ∧ scope.kind = .function
noncomputable abbrev Wd.on (D : Wd) (fr : List Env) : Wd := { D with fr := fr }
mutual
theorem Rep.on {D : Wd} {fr fr' : List Env} {γ : List Addr} {h : Heap} {v : Value} : ∀ {V : V}, Rep (D.on fr) γ h v V → Rep (D.on fr') γ h v V
  | .none, x => x
  | .bool _, x => x
  | .int _, x => x
  | .str _, x => x
  | .opq _, x => x
  | .tup l, x => by
    refine e2_3 x fun a vs e t r => ?_
    exact Exists.intro a ⟨vs, e, t, Reps.on r⟩
  | .ref _, x => x
  | .fn _, x => x
  | .ty _, x => x
  | .bi _, x => x
  | .scr _, x => x
  | .bk, x => x
  | .cls _ _, x => x
theorem Reps.on {D : Wd} {fr fr' : List Env} {γ : List Addr} {h : Heap} {vs : List Value} : ∀ {l : List V}, Reps (D.on fr) γ h vs l → Reps (D.on fr') γ h vs l
  | [], x => x
  | V :: l, x => by
    refine e2_3 x fun v r e a b => ?_
    exact Exists.intro v ⟨r, e, Rep.on a, Reps.on b⟩
end
theorem FsRep.on {D : Wd} {fr fr' : List Env} {γ : List Addr} {h : Heap} {fs : List (Str × V)} {m : Str → Option Value} (x : FsRep (D.on fr) γ h fs m) : FsRep (D.on fr') γ h fs m :=
  ⟨fun y V e => let ⟨v, q, r⟩ := x.1 y V e; ⟨v, q, r.on⟩, x.2⟩
theorem HRel.on {D : Wd} {fr fr' : List Env} {γ : List Addr} {H : Hp} {h : Heap} (R : HRel (D.on fr) γ H h) (F : FrsOk (D.on fr') γ h) : HRel (D.on fr') γ H h where
  len := R.len
  nodup := R.nodup
  objs := fun i a o e1 e2 => by
    have := R.objs i a o e1 e2
    cases o with
    | list xs => obtain ⟨vs, n, e, r, z⟩ := this; exact ⟨vs, n, e, r.on, z⟩
    | inst j => exact this
    | ns fs => obtain ⟨m, n, r, q⟩ := this; exact ⟨m, n, r.on, q⟩
    | dict es => obtain ⟨kvs, n, r, q⟩ := this; exact ⟨kvs, n, r.on, q⟩
  fresh := R.fresh
  base := R.base
  frs := F
theorem GOk.on {D : Wd} {G : List (Str × V)} {mts : List Str} (g : GOk D G mts) (fr : List Env) : GOk (D.on fr) G mts where
  gns := g.gns
  bns := g.bns
  val := fun x V h => by
    refine e1_2 (g.val x V h) fun v hv r => ?_
    exact ⟨v, hv, fun γ => Rep.on (D := D) (fr := D.fr) (fr' := fr) (r γ)⟩
  lim := g.lim
  bk := ⟨g.bk.cls, g.bk.noG, g.bk.noH, g.bk.noS, g.bk.noF, g.bk.mts, g.bk.init⟩
  cls := g.cls
  exs := g.exs
theorem fn_ok {G : List (Str × V)} {mts : List Str} (g0 : GOk D G mts) (hO : OrcOk D k Φ) {x : Str} {f : Fn} (fo : FnOk D G mts x f) : ∀ fr vs H Q X, wpFn Φ f vs H Q X → ∀ A γ s vals a, AOkC (D.on fr) (k + 1) A → HRel (D.on fr) γ H s.heap → Reps (D.on fr) γ s.heap vals vs → D.fa x = some a →
    (∃ o fd, D.hB.get? a = some o ∧ o.data = .func fd) ∧ wpAny D.M A (call (.ref a) vals) (PostV (D.on fr) γ s Q) (PostX (D.on fr) γ s X) s := by
  intro fr vs H Q X w A γ s vals a hA R rv hxa
  obtain ⟨a', o, name, qual, params, body, scope, pm, cd, doc, ps, hx, ho, hd, hcd, hf, hb, hps, hnn, hk, hco, hgen, hkind⟩ := fo.at'
  rw [hxa] at hx; obtain rfl := Option.some.inj hx
  refine ⟨⟨o, _, ho, hd⟩, ?_⟩
  refine e1_2 (Option.map_eq_some_iff.mp hf) fun ib hib e_306 => ?_
  obtain rfl := e_306
  obtain ⟨hlen, w⟩ := w
  simp only at hlen
  have hvl : vals.length = ps.length := by rw [rv.length, hlen]
  have hz : (ps.zip vals).map (·.1) = ps := by rw [List.map_fst_zip]; lia
  have hzn : ((ps.zip vals).map (·.1)).Nodup := by rw [hz]; exact hps
  have kinds : ∀ y ∈ ps.zip vals, scope.names.lookup y.1 = some .local ∨ (scope.names.lookup y.1 = some .cell ∧ ((cellsFrom (s.heap.objs.size + 1) scope.names []).lookup y.1).isSome = true) := fun y hy => by
    have : y.1 ∈ ps := by rw [← hz]; exact List.mem_map_of_mem hy
    rcases hk y.1 this with q | q
    · exact .inl q
    · exact .inr ⟨q, PySem.W.cellsFrom_some _ _ _ (.inl q)⟩
  refine wpAny_call (codeAny_call_cells (fd := methDef name qual params body scope pm cd doc) (body := body) (binds := ps.zip vals) (Nat.lt_of_lt_of_le (Nat.lt_of_le_of_lt (Nat.le_add_right _ _) hA.depth) (by decide)) (R.base _ _ ho) hd (g0.lim.keeps R.base) (hcd.keeps R.base) rfl (hb vals hvl) rfl kinds (fun s1 ic => ?_) hco hgen hkind)
  generalize henv : callEnvC (methDef name qual params body scope pm cd doc) s.heap.objs.size a = env at ic ⊢
  have hko : ∀ y, env.kindOf y = scope.names.lookup y := fun y => by subst henv; rfl
  have hloc : env.locals = s.heap.objs.size := by subst henv; rfl
  have hcells : env.cells = cellsFrom (s.heap.objs.size + 1) scope.names [] := by subst henv; rfl
  let c : CC := { G, mts, scope, slots := slotsGo (ownNames ps scope) 0, nxt := (ownNames ps scope).length }
  have g : GOk (D.on (env :: fr)) G mts := g0.on _
  have hE : EnvOk c env := ⟨by subst henv; rfl, hkind, by subst henv; rfl, by subst henv; rfl⟩
  have so : SlotsOk c := ⟨fun y z i h1 h2 => by
    refine e1_2 (slotsGo_lookup _ _ _ _ h1) fun j e1 e2 => ?_
    refine e1_2 (slotsGo_lookup _ _ _ _ h2) fun j' e1' e2' => ?_
    have : j = j' := by lia
    subst this
    rw [e2] at e2'; cases e2'; rfl⟩
  have new : ∀ b, s.heap.objs.size ≤ b → b ∉ γ ∧ D.hB.get? b = none := fun b hb => by
    have e : s.heap.get? b = none := by
      cases q : s.heap.get? b with
      | none => rfl
      | some o => exact absurd (Heap.lt_size q) (Nat.not_lt.mpr hb)
    exact R.nin e
  have keep := ic.toInCall.keep
  have tt : ∀ a ws, TupAt s.heap a ws → TupAt s1.heap a ws := fun _ _ q => tupAt_grow keep q
  have cn : ((env.cells).map (·.1)).Nodup := by rw [hcells]; exact cellsFrom_nodup _ _ _ hnn (by simp) (by simp)
  have ini : ∀ (y : Str) (i : Nat) (V : V), c.slots.lookup y = some i → (initL { names := (ownNames ps scope).length + 3, params := ps.length, body := ib } vs)[i]? = some (some V) → ∃ v, (ps.zip vals).lookup y = some v ∧ Rep (D.on (env :: fr)) γ s1.heap v V := by
    intro y i V hs hL
    refine e1_2 (slotsGo_lookup _ _ _ _ hs) fun j e1 e2 => ?_
    have hij : i = j := by lia
    subst hij
    unfold initL at hL
    have hi : i < vs.length := by
      apply Classical.byContradiction
      intro hn
      rw [List.getElem?_append_right (by simp; lia), List.getElem?_replicate] at hL
      split at hL <;> cases hL
    rw [List.getElem?_append_left (by simpa using hi), List.getElem?_map] at hL
    simp only [Option.map_eq_some_iff, Option.some.injEq, exists_eq_right] at hL
    refine e1_2 (rv.get hL) fun v hv rvv => ?_
    have hpi : ps[i]? = some y := by
      unfold ownNames at e2
      rw [List.getElem?_append_left (by lia)] at e2
      exact e2
    exact ⟨v, zip_lookup ps vals i y v hps hpi hv, (Rep.mono ⟨[], by simp⟩ tt rvv).on⟩
  have frl : FRel (D.on (env :: fr)) γ env c.slots s1.heap (initL { names := (ownNames ps scope).length + 3, params := ps.length, body := ib } vs) := by
    refine ⟨⟨⟨_, ic.toInCall.ns, ?_⟩, ?_, ?_, ⟨env, fr, rfl, rfl⟩⟩, ?_, ic.apart, ?_, ⟨fr, rfl, by subst henv; rfl⟩⟩
    · intro y i V hy hs hL
      refine e1_2 (ini y i V hs hL) fun v hv r => ?_
      exact ⟨v, by rw [bindL_spec _ _ _ hy hzn, hv]; rfl, r⟩
    · intro y hy
      have hc' : (env.cells.lookup y).isSome = true := by rw [hcells]; exact PySem.W.cellsFrom_some _ _ _ (.inl (by rw [← hko]; exact hy))
      obtain ⟨ca, hca⟩ := Option.isSome_iff_exists.mp hc'
      have habove := ic.above y ca (mem_of_lookup hca)
      rw [hloc] at habove
      refine ⟨ca, _, hca, ic.cell y ca hca, (new ca (Nat.le_of_lt habove)).1, fun i V hs hL => ?_⟩
      refine e1_2 (ini y i V hs hL) fun v hv r => ?_
      exact ⟨v, by rw [bindC_spec _ _ _ (by rw [hy]; intro q; cases q) hzn, hv]; rfl, r⟩
    · exact (new _ (by rw [hloc]; exact Nat.le_refl _)).1
    · intro b hb
      rcases List.mem_cons.mp hb with q | q
      · subst q
        have n1 := new env.locals (by rw [hloc]; exact Nat.le_refl _)
        exact ⟨n1.1, n1.2, (let ⟨o, _, _, e, _⟩ := ic.toInCall.ns; ⟨o, e⟩), notTup_dict ic.toInCall.ns⟩
      · refine e1_2 (List.mem_map.mp q) fun e_307 hm e_308 => ?_
        obtain ⟨y, ca⟩ := e_307
        obtain rfl := e_308
        have habove := ic.above y ca hm
        rw [hloc] at habove
        have n1 := new ca (Nat.le_of_lt habove)
        have hcell := ic.cell y ca (lookup_of_nodup cn hm)
        exact ⟨n1.1, n1.2, (let ⟨o, e, _⟩ := hcell; ⟨o, e⟩), notTup_cell hcell⟩
    · intro p hp
      exact Nat.ne_of_gt (ic.above p.1 p.2 hp)
  have own0 : ∀ b ∈ ownA env, s.heap.get? b = none := fun b hb => by
    have hge : s.heap.objs.size ≤ b := by
      rcases List.mem_cons.mp hb with q | q
      · rw [q, hloc]; exact Nat.le_refl _
      · refine e1_2 (List.mem_map.mp q) fun e_309 hm e_310 => ?_
        obtain ⟨y, ca⟩ := e_309
        obtain rfl := e_310
        have habove := ic.above y ca hm
        rw [hloc] at habove
        exact Nat.le_of_lt habove
    cases q : s.heap.get? b with
    | none => rfl
    | some o => exact absurd (Heap.lt_size q) (Nat.not_lt.mpr hge)
  have fresh0 : ∀ b, s1.heap.get? b = none → s.heap.get? b = none := fun b hb => by
    cases q : s.heap.get? b with
    | none => rfl
    | some o => rw [keep b o q] at hb; cases hb
  have stp0 : ∀ {γ2 : List Addr} {s2 : Shared}, Stp (ownA env) γ γ2 s1 s2 → Stp [] γ γ2 s s2 := fun {γ2 s2} st2 => by
    refine ⟨?_, fun b o hb _ e => st2.keepS b o hb (fun q => by rw [own0 b q] at e; exact no_some e) (keep b o e), ?_⟩
    · refine e2_1 (ic.toInCall.same) fun h1 t1 e1 => ?_
      refine e2_1 (st2.same) fun h2 t2 e2 => ?_
      rw [e2, e1]; exact ⟨_, _, rfl⟩
    · refine e1_2 (st2.ext) fun δ e f => ?_
      exact ⟨δ, e, fun b hb => fresh0 b (f b hb)⟩
  have frs1 : FrsOk (D.on (env :: fr)) γ s1.heap := fun e he => by
    rcases List.mem_cons.mp he with q | q
    · subst q
      refine e1_2 (isD_ns ic.toInCall.ns) fun o e1 e2 => ?_
      have n1 := new e.locals (by rw [hloc]; exact Nat.le_refl _)
      exact ⟨by rw [hE.scope]; exact hkind, _, o, (by subst henv; rfl), n1.2, n1.1, e1, e2⟩
    · exact (R.frs.grow keep) e q
  have R1 : HRel (D.on (env :: fr)) γ H s1.heap := (R.grow keep).on frs1
  have outer : ∀ {γ : List Addr} {h : Heap}, FrsOk (D.on (env :: fr)) γ h → FrsOk (D.on fr) γ h := fun F e he => F e (List.mem_cons_of_mem _ he)
  have body_ok := sss_of (D := D.on (env :: fr)) (f := compS 40 c) (fun st is h => soundS (D := D.on (env :: fr)) (Φ := Φ) (k := k) hO 40 c st is g so h) body ib hib env (A.deeper env) γ H s1 _ _ _ hE (hA.deeper env) R1 frl w
  refine wpAny_mono body_ok (fun fl s2 p => ?_) fun e s2 p => ?_
  · refine e4_5 p fun γ2 H2 L2 F st2 R2 fr2 hf2 q2 => ?_
    have st0 := stp0 st2
    have R2' : HRel (D.on fr) γ2 H2 s2.heap := R2.on (outer R2.frs)
    cases F with
    | next => obtain rfl := hf2; exact ⟨γ2, .none, H2, st0, R2', (show Rep _ _ _ _ .none from rfl), q2⟩
    | cont => obtain rfl := hf2; exact ⟨γ2, .none, H2, st0, R2', (show Rep _ _ _ _ .none from rfl), q2⟩
    | ret V => obtain ⟨v, rfl, rv⟩ := hf2; exact ⟨γ2, V, H2, st0, R2', rv.on, q2⟩
  · refine e4_5 p fun γ2 H2 L2 x st2 R2 fr2 e_311 q2 => ?_
    obtain ⟨hx, hex⟩ := e_311
    refine leave_any (D := D.on (env :: fr)) (hA.deeper env).frames R1 R2 rfl (by subst henv; rfl) hx fun a C a0 ex h' e1 hmg hn hax XF land tr => ?_
    subst e1
    have fly := fly_of (fun b => fresh_backF st2 R2 fr2.alive) R2.frs (fun b hb => (R2.nin hb).1) (not_g R2 XF hax) XF land hmg hn tr
    have R3 := land.rel R2 XF
    exact ⟨γ2, H2, x, stp0 (land.stp R2.frs XF st2), R3.on (outer R3.frs), ⟨fly.from fresh0, hex⟩, q2⟩
end
end Mine
namespace Mine
open PySem PyProof.Rows
theorem zip_lookup_some : ∀ (ps : List Str) (vals : List Value) (n : Str), vals.length = ps.length → n ∈ ps → ((ps.zip vals).lookup n).isSome = true
  | [], _, n, _, h => by cases h
  | p :: ps, [], n, e, _ => by simp at e
  | p :: ps, v :: vals, n, e, h => by
    simp only [List.zip_cons_cons, List.lookup_cons]
    split
    · rfl
    · rename_i q
      refine zip_lookup_some ps vals n (by simpa using e) ?_
      rcases List.mem_cons.mp h with q' | q'
      · subst q'; simp at q
      · exact q'
theorem zip_filterMap : ∀ (ps : List Str) (vals : List Value) (pre : List (Str × Value)), vals.length = ps.length → ps.Nodup → (∀ p ∈ ps, pre.lookup p = none) → ps.filterMap (fun n => ((pre ++ ps.zip vals).lookup n).map (n, ·)) = ps.zip vals
  | [], _, _, _, _, _ => by simp
  | p :: ps, [], _, e, _, _ => by simp at e
  | p :: ps, v :: vals, pre, e, hn, hp => by
    have h1 : (pre ++ (p :: ps).zip (v :: vals)).lookup p = some v := by
      rw [List.lookup_append, hp p (by simp)]; simp
    simp only [List.filterMap_cons, h1, Option.map_some]
    simp only [List.zip_cons_cons, List.cons.injEq, true_and]
    have := zip_filterMap ps vals (pre ++ [(p, v)]) (by simpa using e) (List.nodup_cons.mp hn).2 (fun q hq => by
      rw [List.lookup_append, hp q (by simp [hq])]
      have : (q == p) = false := by
        have : q ≠ p := fun e => (List.nodup_cons.mp hn).1 (e ▸ hq)
        simpa using this
      simp [List.lookup_cons, this])
    simpa using this
theorem bind_simple {name qual : Str} {args : List Arg} {body : List Stmt} {scope : Scope} {pm cd doc : Value} {kd : List (Option Expr)} {vals : List Value} (hn : (args.map (·.arg)).Nodup) (hl : vals.length = (args.map (·.arg)).length) :
    bindArgs (methDef name qual ⟨[], args, none, [], kd, none, []⟩ body scope pm cd doc) ⟨vals, []⟩ = pure ((args.map (·.arg)).zip vals) := by
  unfold bindArgs
  simp only [methDef, seqItems?, notAStandIn, List.map_nil, List.nil_append, List.append_nil, Option.isNone_none]
  generalize args.map (·.arg) = ps at *
  have h1 : (ps.filter fun n => ((ps.zip vals).lookup n).isNone) = [] := by
    rw [List.filter_eq_nil_iff]
    intro n hm
    have := zip_lookup_some _ vals n hl hm
    simp only [Option.isNone_iff_eq_none]
    intro q; rw [q] at this; cases this
  have h2 := zip_filterMap _ vals [] hl hn (by simp)
  simp only [List.nil_append] at h2
  have h3 : ¬ vals.length > ps.length := by lia
  simp [h1, h2, h3]
noncomputable def strsNodup : List Str → Bool
  | [] => true
  | x :: r => !r.contains x && strsNodup r
theorem strsNodup_ok : ∀ {l : List Str}, strsNodup l = true → l.Nodup
  | [], _ => List.nodup_nil
  | x :: r, h => by
    simp only [strsNodup, Bool.and_eq_true, Bool.not_eq_true', List.contains_eq_mem, decide_eq_false_iff_not] at h
    exact List.nodup_cons.mpr ⟨h.1, strsNodup_ok h.2⟩
noncomputable def simpleArgs (a : Arguments) : Option (List Str) := onlyIf (a.posonlyargs.isEmpty && a.vararg.isNone && a.kwonlyargs.isEmpty && a.kwarg.isNone && a.defaults.isEmpty) (some (a.args.map (·.arg)))
noncomputable def okFn (ps : List Str) (scope : Scope) : Bool := strsNodup ps && strsNodup (scope.names.map (·.1)) && (ps.all fun p => scope.names.lookup p == some .local || scope.names.lookup p == some .cell) && !scope.isCoroutine && !scope.isGenerator && scope.kind == .function
noncomputable def checkRec (G : List (Str × V)) (mts : List Str) (params : Arguments) (body : List Stmt) (scope : Scope) : Option Fn := (simpleArgs params).bind fun ps => onlyIf (okFn ps scope) (compFn G mts ps body scope)
noncomputable def checkFn (G : List (Str × V)) (mts : List Str) (p : Program) (x : Str) : Option Fn := ((recsOf p).find? (fun d => d.name == x)).bind fun d => checkRec G mts d.params d.body d.scope
noncomputable def checkMt (G : List (Str × V)) (mts : List Str) (c : ClsRec) (m : Str) : Option Fn := (c.meths.find? (fun d => d.name == m)).bind fun d => checkRec G mts d.params d.body d.scope
theorem simple_some {params : Arguments} {ps : List Str} (h : simpleArgs params = some ps) : ∃ ar kd, params = ⟨[], ar, none, [], kd, none, []⟩ ∧ ps = ar.map (·.arg) := by
  obtain ⟨po, ar, va, ko, kd, kw, df⟩ := params
  obtain ⟨hb, h⟩ := onlyIf_some (show onlyIf (po.isEmpty && va.isNone && ko.isEmpty && kw.isNone && df.isEmpty) (some (ar.map (·.arg))) = some ps from h)
  simp only [Bool.and_eq_true, List.isEmpty_iff, Option.isNone_iff_eq_none] at hb
  obtain ⟨⟨⟨⟨rfl, rfl⟩, rfl⟩, rfl⟩, rfl⟩ := hb
  exact ⟨ar, kd, rfl, (Option.some.inj h).symm⟩
theorem fnOk_of {D : Wd} {G : List (Str × V)} {mts : List Str} {x : Str} {f : Fn} {a : Addr} {o : Obj} {name qual : Str} {params : Arguments} {body : List Stmt} {scope : Scope} {pm cd doc : Value} (hx : D.fa x = some a) (ho : D.hB.get? a = some o)
    (hd : o.data = .func (methDef name qual params body scope pm cd doc)) (hcd : D.hB.CodeRec cd qual) (h : checkRec G mts params body scope = some f) : FnOk D G mts x f := by
  refine e1_2 (Option.bind_eq_some_iff.mp h) fun ps hps h => ?_
  obtain ⟨hc, h⟩ := onlyIf_some h
  unfold okFn at hc
  rw [Bool.and_eq_true, Bool.and_eq_true, Bool.and_eq_true, Bool.and_eq_true, Bool.and_eq_true] at hc
  obtain ⟨⟨⟨⟨⟨c1, c2⟩, c3⟩, c4⟩, c5⟩, c6⟩ := hc
  have hnd := strsNodup_ok c1
  refine ⟨⟨a, o, name, qual, params, body, scope, pm, cd, doc, ps, hx, ho, hd, hcd, h, ?_, hnd, strsNodup_ok c2, fun q hq => ?_, bnot c4, bnot c5, ?_⟩⟩
  · intro vals hl
    refine e2_2 (simple_some hps) fun ar kd e_312 e_313 => ?_
    obtain rfl := e_312
    obtain rfl := e_313
    exact bind_simple hnd hl
  · have := List.all_eq_true.mp c3 q hq
    rw [Bool.or_eq_true, beq_iff_eq, beq_iff_eq] at this
    exact this
  · revert c6; cases scope.kind <;> intro c6 <;> first | rfl | exact Bool.noConfusion c6
theorem fnOk_of_top {D : Wd} {G : List (Str × V)} {mts : List Str} {p : Program} {loose : List Str} {mean : ExcName → Option Value} (T : Top p loose mean D.mg D.mb D.hB) {x : Str} {f : Fn} (hs : strip x = none) (h : checkFn G mts p x = some f) : FnOk D G mts x f := by
  refine e1_2 (Option.bind_eq_some_iff.mp h) fun d hd h2 => ?_
  have hn : (d.name == x) = true := List.find?_some (p := fun (d : DefRec) => d.name == x) hd
  obtain rfl : d.name = x := eq_of_beq hn
  obtain ⟨a, o, pm, cd, doc, h1, q2, h3, h4⟩ := T.fn d (List.mem_of_find?_eq_some hd)
  exact fnOk_of (qual := d.name) (fa_fn hs h1) q2 h3 h4 h2
theorem fnOk_of_cls {D : Wd} {G : List (Str × V)} {mts : List Str} {c : ClsRec} {N : Addr} (P : PlainAt D.hB c D.bk N D.mt) {m : Str} {f : Fn} (h : checkMt G mts c m = some f) : FnOk D G mts (Str.ofString "Book." ++ m) f := by
  refine e1_2 (Option.bind_eq_some_iff.mp h) fun d hd h2 => ?_
  have hn : (d.name == m) = true := List.find?_some (p := fun (d : MethRec) => d.name == m) hd
  obtain rfl : d.name = m := eq_of_beq hn
  obtain ⟨a, o, pm, cd, doc, h1, q2, _, h3, h4⟩ := P.meths d (List.mem_of_find?_eq_some hd)
  exact fnOk_of (fa_mt h1) q2 h3 h4 h2
noncomputable def bkChk (c : ClsRec) (mts : List Str) : Bool := (["names", "free_rules", "busy_rules", "held", "given"] : List Str).all c.quiet.contains && ((Str.ofString "__init__") :: mts).all fun m => !fldOk m && (fastLookup "object" m).isSome && c.meths.any (·.name == m)
theorem bkOk_of {D : Wd} {mts : List Str} {c : ClsRec} {N : Addr} (P : PlainAt D.hB c D.bk N D.mt) (h : bkChk c mts = true) : BkOk D mts := by
  unfold bkChk at h
  rw [Bool.and_eq_true, List.all_eq_true, List.all_eq_true] at h
  have mt : ∀ m ∈ (Str.ofString "__init__") :: mts, fldOk m = false ∧ (∃ y, typeLookup (.type "object") m = pure y) ∧ ∃ a o, D.mt m = some (.ref a) ∧ D.hB.get? a = some o ∧ o.cls = .type "function" ∧ (∃ fd, o.data = .func fd) ∧ D.fa (Str.ofString "Book." ++ m) = some a := fun m hm => by
    have h2 := h.2 m hm
    rw [Bool.and_eq_true, Bool.and_eq_true, List.any_eq_true] at h2
    obtain ⟨⟨h3, h4⟩, d, hd, e⟩ := h2
    obtain rfl : d.name = m := eq_of_beq e
    obtain ⟨a, o, pm, cd, doc, q1, q2, q3, q4, _⟩ := P.meths d hd
    refine ⟨bnot h3, ?_, a, o, q1, q2, q3, ⟨_, q4⟩, fa_mt q1⟩
    obtain ⟨r, hr⟩ := Option.isSome_iff_exists.mp h4
    exact ⟨r, by rw [typeLookup_type, builtinLookup_eq_fast, hr]⟩
  obtain ⟨nm, q, bs, sn, sub, col, dd, k0, k1, k2, k3, k5, e⟩ := P.cls.obj
  obtain ⟨_, _, a, o, q1, q2, q3, _, q5⟩ := mt _ List.mem_cons_self
  refine ⟨⟨N, nm, q, bs, sn, sub, col, dd, k0, k1, k2, k3, k5, e, P.cls.ns⟩, P.quiet _ (.tail _ (.head _)), P.quiet _ (.tail _ (.tail _ (.head _))), P.quiet _ (.head _), fun x hx => ?_, fun m hm => mt m (List.mem_cons_of_mem _ (List.contains_iff_mem.mp hm)), a, o, q1, q2, q3, q5⟩
  have : x ∈ (["names", "free_rules", "busy_rules", "held", "given"] : List Str) := by
    rcases fld_cases hx with rfl | rfl | rfl | rfl | rfl
    · exact .head _
    · exact .tail _ (.head _)
    · exact .tail _ (.tail _ (.head _))
    · exact .tail _ (.tail _ (.tail _ (.head _)))
    · exact .tail _ (.tail _ (.tail _ (.tail _ (.head _))))
  exact P.quiet x (List.contains_iff_mem.mp (h.1 x this))
end Mine
namespace Mine
open PySem PySem.W PyProof.Rows
noncomputable def isName : Stmt → Bool
  | .Assign [.Name x _] _ _ => x == ("__name__" : Str)
  | _ => false
noncomputable def viewOf (p : Program) : Program := { p with main := { p.main with body := p.main.body.filter fun st => !isName st } }
theorem noΦ_ok {D : Wd} : OrcOk D 0 noΦ := fun _ _ _ _ _ _ h => h.elim
theorem ext_ok {D : Wd} {G : List (Str × V)} {mts : List Str} {k : Nat} {Φ : Orc} {n : Str} {f : Fn} {C : List V → Hp → (V → Hp → Prop) → XL → Prop} (g : GOk D G mts) (hO : OrcOk D k Φ) (fo : FnOk D G mts n f)
    (h : ∀ vs H Q X, C vs H Q X → wpFn Φ f vs H Q X) : OrcOk D (k + 1) (ext n C Φ) := by
  intro fr x vs H Q X hx A γ s vals a hA R rv ha
  unfold ext at hx
  cases e : x == n with
  | true =>
    rw [e] at hx
    obtain rfl : x = n := eq_of_beq e
    exact fn_ok g hO fo fr vs H Q X (h vs H Q X hx) A γ s vals a hA R rv ha
  | false =>
    rw [e] at hx
    exact hO fr x vs H Q X hx A γ s vals a (hA.mono (Nat.le_succ k)) R rv ha
theorem ints_get : ∀ {vs : List Value} {ns : List Int}, IntsAre vs ns → vs.length = ns.length ∧ ∀ (k : Nat) (i : Int), ns[k]? = some i → ∃ t, vs[k]? = some (.int i t)
  | _, _, .nil => ⟨rfl, fun k i h => by simp at h⟩
  | _, _, .cons n t r => by
    obtain ⟨h1, h2⟩ := ints_get r
    refine ⟨by simp [h1], fun k i h => ?_⟩
    cases k with
    | zero => simp at h; subst h; exact ⟨t, by simp⟩
    | succ k => simp at h; obtain ⟨u, hu⟩ := h2 k i h; exact ⟨u, by simpa using hu⟩
noncomputable def GVal (D : Wd) (x : Str) (W : V) : Prop := ∃ v, (D.mg x = some v ∨ (D.mg x = none ∧ D.mb x = some v)) ∧ ∀ γ, Rep D γ D.hB v W
noncomputable def GAll (D : Wd) : List (Str × V) → Prop
  | [] => True
  | p :: r => GVal D p.1 p.2 ∧ GAll D r
theorem gall_lookup {D : Wd} : ∀ {G : List (Str × V)}, GAll D G → ∀ (x : Str) (W : V), G.lookup x = some W → GVal D x W
  | [], _, x, W, h => by cases h
  | (y, U) :: r, g, x, W, h => by
    rw [List.lookup_cons] at h
    split at h
    · rename_i e
      have e : x = y := by simpa using e
      cases h; subst e; exact g.1
    · exact gall_lookup g.2 x W h
noncomputable def tailInN (K : Frag) : List Value → Bool
  | [] => false
  | v :: r => (v :: r) == bmV || match v with
    | .ref A => (match K.lookup A with
      | some ⟨_, _, .cls cd, _⟩ => nsOkIn K cd.ns && (qN.all fun n => nsIn K cd.ns n == some none) && tailInN K r
      | _ => false)
    | _ => false
theorem qN_of {K : Frag} {h : Heap} {N : Addr} (X : K.In h) (e : nsOkIn K N = true) (q : (qN.all fun n => nsIn K N n == some none) = true) : ∀ n ∈ qN, h.nsMap N n = none := fun n hn => by
  have := List.all_eq_true.mp q n hn
  exact nsMap_none_of_in X e (beq_iff_eq.mp this)
theorem tailN_of {K : Frag} {h : Heap} (X : K.In h) : ∀ {l : List Value}, tailInN K l = true → TailN h bmV l
  | [], e => by cases e
  | v :: r, e => by
    unfold tailInN at e
    rcases Bool.or_eq_true_iff.mp e with q | q
    · rw [beq_iff_eq.mp q]; exact .base
    · split at q
      · split at q
        · rename_i ho
          simp only [Bool.and_eq_true] at q
          exact .own (X _ _ ho) (.of_isNs (isNs_of_in X q.1.1)) (qN_of X q.1.1 q.1.2) (tailN_of X q.2)
        · cases q
      · cases q
noncomputable def clsIn (K : Frag) (C : Addr) : Option (List Value) := match K.lookup C with
  | some ⟨.type "type", _, .cls cd, sl⟩ => (match cd.mro, sl.toList with
    | .ref C' :: bm, [_, _, _, _, some (.builtin n), _] => onlyIf (C' == C && n == "ValueError.__new__" && !cd.hasDel && tailInN K bm && nsOkIn K cd.ns && qN.all fun n => nsIn K cd.ns n == some none) (some bm)
    | _, _ => none)
  | _ => none
theorem clsAt_of {K : Frag} {h : Heap} {C : Addr} {bm : List Value} (X : K.In h) (q : clsIn K C = some bm) : ClsAt h C bm := by
  unfold clsIn at q
  split at q
  · rename_i dd cd sl ho
    split at q
    · rename_i C' bm k0 k1 k2 k3 n k5 hm hs
      obtain ⟨q, q2⟩ := onlyIf_some q
      cases q2
      simp only [Bool.and_eq_true, beq_iff_eq, Bool.not_eq_true'] at q
      obtain ⟨⟨⟨⟨⟨rfl, rfl⟩, hdel⟩, ht⟩, hok⟩, hni⟩ := q
      obtain ⟨nm, bs, mro, ns, qn, hd, sn, sub, ab, col, del⟩ := cd
      dsimp only at hm hdel hok hni
      subst hm hdel
      have hsl : sl = #[k0, k1, k2, k3, some (.builtin "ValueError.__new__"), k5] := by
        obtain ⟨l⟩ := sl
        simp only at hs
        rw [hs]
      subst hsl
      exact ⟨ns, nm, qn, bs, hd, sn, sub, ab, col, dd, k0, k1, k2, k3, k5, _, X _ _ ho, .of_isNs (isNs_of_in X hok), qN_of X hok hni, tailN_of X ht⟩
    · cases q
  · cases q
noncomputable def exRow (K : Frag) (tab : List (Str × List Str × Addr)) (t : Str × List Str × Addr) : Bool := match clsIn K t.2.2 with
  | some bm => nsIn K mainGlobals t.1 == some (some (.ref t.2.2)) && (tab.all fun u => (Value.ref t.2.2 :: bm).contains (.ref u.2.2) == t.2.1.contains u.1) && t.2.1.contains ("ValueError" : Str)
  | none => false
noncomputable def exOk (K : Frag) (tab : List (Str × List Str × Addr)) : Bool := tab.all (exRow K tab)
noncomputable def exOf (tab : List (Str × List Str × Addr)) : List (Str × List Str) := tab.map fun t => (t.1, t.2.1)
noncomputable def clsG (G : List (Str × V)) (ex : List (Str × List Str)) : Bool := G.all fun p => match p.2 with
  | .cls z ups => ex.any fun e => e.1 == z && e.2 == ups
  | _ => true
theorem exs_of {D : Wd} {K : Frag} {tab : List (Str × List Str × Addr)} (X : K.In D.hB) (g : D.hB.Ns mainGlobals D.mg) (he : D.ex = exOf tab) (q : exOk K tab = true) : ∀ (x : Str) (ups : List Str), (x, ups) ∈ D.ex → ∃ C, ClsOk D x ups C := by
  have row : ∀ t ∈ tab, ∃ bm, D.mg t.1 = some (.ref t.2.2) ∧ ClsAt D.hB t.2.2 bm ∧ (∀ u ∈ tab, (Value.ref t.2.2 :: bm).contains (.ref u.2.2) = t.2.1.contains u.1) ∧ t.2.1.contains ("ValueError" : Str) = true := fun t ht => by
    have h := List.all_eq_true.mp q t ht
    unfold exRow at h
    split at h
    · rename_i bm hb
      simp only [Bool.and_eq_true, beq_iff_eq, List.all_eq_true] at h
      exact ⟨bm, mg_of X g h.1.1, clsAt_of X hb, h.1.2, h.2⟩
    · cases h
  intro x ups hx
  rw [he] at hx
  refine e1_2 (List.mem_map.mp hx) fun t ht e => ?_
  cases e
  refine e1_4 (row t ht) fun bm h1 h2 h3 h4 => ?_
  refine ⟨t.2.2, bm, h1, h2, fun y ups' Cy hy hmy => ?_, h4⟩
  rw [he] at hy
  refine e1_2 (List.mem_map.mp hy) fun u hu e => ?_
  cases e
  refine e1_2 (row u hu) fun _ g1 _ => ?_
  rw [hmy] at g1
  cases g1
  exact h3 u hu
theorem cls_of {G : List (Str × V)} {ex : List (Str × List Str)} (q : clsG G ex = true) : ∀ (x z : Str) (ups : List Str), G.lookup x = some (.cls z ups) → (z, ups) ∈ ex := fun x z ups h => by
  have := List.all_eq_true.mp q (x, .cls z ups) (mem_of_lookup h)
  simp only at this
  refine e1_2 (List.any_eq_true.mp this) fun e he h2 => ?_
  simp only [Bool.and_eq_true, beq_iff_eq] at h2
  obtain ⟨rfl, rfl⟩ := h2
  exact he
theorem gok {D : Wd} {G : List (Str × V)} {mts : List Str} {p : Program} {loose : List Str} {mean : ExcName → Option Value} {c : ClsRec} {N : Addr} {K : Frag} {tab : List (Str × List Str × Addr)} (T : Top p loose mean D.mg D.mb D.hB) (g : GAll D G) (P : PlainAt D.hB c D.bk N D.mt) (q : bkChk c mts = true)
    (X : K.In D.hB) (he : D.ex = exOf tab) (qe : exOk K tab = true) (hc : clsG G (exOf tab) = true) : GOk D G mts :=
  ⟨T.g, T.b, fun x V h => gall_lookup g x V h, T.nolimit, bkOk_of P q, by rw [he]; exact cls_of hc, exs_of X T.g he qe⟩
theorem gv_cls {D : Wd} {x : Str} {ups : List Str} {a : Addr} (h : D.mg x = some (.ref a)) : GVal D x (.cls x ups) := ⟨_, .inl h, fun _ => Exists.intro a ⟨rfl, h⟩⟩
theorem gv_bk {D : Wd} {x : Str} (h : D.mg x = some (.ref D.bk)) : GVal D x .bk := ⟨_, .inl h, fun _ => rfl⟩
theorem gv_fn {D : Wd} {x : Str} {a : Addr} (hs : strip x = none) (h : D.mg x = some (.ref a)) : GVal D x (.fn x) :=
  ⟨_, .inl h, fun _ => Exists.intro a ⟨rfl, fa_fn hs h⟩⟩
theorem gv_int {D : Wd} {x : Str} {i : Int} {t : Tok} (h : D.mg x = some (.int i t)) : GVal D x (.int i) := ⟨_, .inl h, fun _ => rep_i⟩
theorem gv_str {D : Wd} {x s : Str} {t : Tok} (h : D.mg x = some (.str s t)) (f : StrFine s) : GVal D x (.str s) := ⟨_, .inl h, fun _ => rep_s f⟩
theorem gv_tup {D : Wd} {x : Str} {a : Addr} {vs : List Value} {n : Nat} {l : List V} (h : D.mg x = some (.ref a)) (e : D.hB.get? a = some { cls := .type "tuple", data := .seq vs.toArray n }) (hz : vs.length ≤ 2000000) (r : ∀ γ, Reps D γ D.hB vs l) : GVal D x (.tup l) :=
  ⟨_, .inl h, fun γ => Exists.intro a ⟨vs, rfl, ⟨n, e, hz⟩, r γ⟩⟩
theorem gv_bi {D : Wd} {b : Bi} {x : Str} (h : D.mg x = none) (e : D.mb x = some (.builtin b.name)) : GVal D x (.bi b) := ⟨_, .inr ⟨h, e⟩, fun _ => rfl⟩
theorem gv_ty {D : Wd} {b : Ty} {x : Str} (h : D.mg x = none) (e : D.mb x = some (.type b.name)) : GVal D x (.ty b) := ⟨_, .inr ⟨h, e⟩, fun _ => rfl⟩
theorem reps_int {D : Wd} {γ : List Addr} {h : Heap} {i : Int} {t : Tok} {vs : List Value} {l : List V} (r : Reps D γ h vs l) : Reps D γ h (.int i t :: vs) (.int i :: l) := Exists.intro _ ⟨_, rfl, rep_i, r⟩
theorem reps_str {D : Wd} {γ : List Addr} {h : Heap} {x : Str} {t : Tok} {vs : List Value} {l : List V} (f : StrFine x) (r : Reps D γ h vs l) : Reps D γ h (.str x t :: vs) (.str x :: l) := Exists.intro _ ⟨_, rfl, rep_s f, r⟩
theorem reps_nil {D : Wd} {γ : List Addr} {h : Heap} : Reps D γ h [] [] := rfl
theorem law_top {prog : Program} {w : World} {s₁ : Shared} {mg mb mN : Str → Option Value} {C : Addr} {k : Nat} {Φ : Orc} {c : ClaimW} {cl : Str → Option Addr} {mean : ExcName → Option Value} {fa a : Addr} {vs : List Value} {ns : List Int} {args : List WData} {x : Str} {exs : List (Str × List Str)}
    (hO : OrcOk ⟨prog, w, s₁.heap, mg, mb, C, mN, exs, []⟩ k Φ) (hA : AOkC ⟨prog, w, s₁.heap, mg, mb, C, mN, exs, []⟩ k callerA) (hs : strip x = none) (hx : mg x = some (.ref fa)) (hL : s₁.heap.IsList a vs.toArray) (hI : IntsAre vs ns) (hΦ : Φ x [.scr ns] [] (fun V _ => V = .bool true) (fun _ _ => False)) (hlen : ns.length ≤ 2000000)
    (hg : s₁.gens = #[]) (hr : ∀ cls, c.raises args cls = false) (hp : c.post args (.bool true) args = true) :
    wpAny (model prog w) callerA (call (.ref fa) [.ref a]) (fun v s' => GoodWG c cl mean args s₁ (.ok (.ret v)) s') (fun e s' => GoodWG c cl mean args s₁ (.error e) s') s₁ := by
  obtain ⟨h1, h2⟩ := ints_get hI
  have R : HRel ⟨prog, w, s₁.heap, mg, mb, C, mN, exs, []⟩ [] [] s₁.heap := ⟨rfl, List.nodup_nil, fun _ _ _ e => no_some e, fun _ h => (nomatch h), fun _ _ e => e, fun _ h => (nomatch h)⟩
  have rv : Reps ⟨prog, w, s₁.heap, mg, mb, C, mN, exs, []⟩ [] s₁.heap [.ref a] [.scr ns] := Reps.one (Exists.intro a ⟨vs, rfl, hL, by lia, h1, h2⟩)
  refine wpAny_mono (hO [] x [.scr ns] [] _ _ hΦ callerA [] s₁ [.ref a] fa hA R rv (fa_fn hs hx)).2 ?_ (fun _ _ p => p.no.elim)
  rintro v s' ⟨γ', V, H', st, R', r, rfl⟩
  obtain rfl := r
  refine e2_1 (st.same) fun h' tk e_315 => ?_
  obtain rfl := e_315
  exact GoodW.toG ⟨.inl ⟨_, _, [], rfl, hr, ReadsW.bool true, hp, fun _ => ⟨List.nodup_nil, fun _ hm => (nomatch hm)⟩⟩, fun b o e => R'.base b o e, rfl, hg⟩
theorem caller_ok {D : Wd} {k : Nat} (h : k ≤ 100) (hf : D.fr = []) : AOkC D k callerA := ⟨by rw [hf]; rfl, rfl, by show 1 + claimMargin + 3 * k < 900; unfold claimMargin; lia, by show 4 + 16 * k < 9000; lia, rfl⟩
end Mine
namespace Mine
open PySem
noncomputable def f_is_whole : Fn := { names := 4, params := 1, body := [
  (.ret (.and (.call (.bi .isinstance) [(.loc 0), (.lit (.ty .int))]) (.not (.call (.bi .isinstance) [(.loc 0), (.lit (.ty .bool))]))))] }
noncomputable def f_is_between : Fn := { names := 6, params := 3, body := [
  (.ret (.and (.call (.fn "is_whole") [(.loc 0)]) (.cmp2 (.loc 1) .LtE (.loc 0) .LtE (.loc 2))))] }
noncomputable def f_is_time : Fn := { names := 4, params := 1, body := [
  (.ret (.call (.fn "is_between") [(.loc 0), (.lit (.int 0)), (.bin .Sub (.lit (.int 1000000000000)) (.lit (.int 1)))]))] }
noncomputable def f_are_rising : Fn := { names := 8, params := 3, body := [
  (.ite (.or (.not (.call (.bi .isinstance) [(.loc 0), (.lit (.ty .tuple))])) (.not (.cmp2 (.lit (.int 1)) .LtE (.call (.bi .len) [(.loc 0)]) .LtE (.loc 1)))) [(.ret (.lit (.bool false)))] []),
  (.assign 3 (.neg (.lit (.int 1)))),
  (.for 4 .val (.loc 0) [(.ite (.not (.call (.fn "is_between") [(.loc 4), (.bin .Add (.loc 3) (.lit (.int 1))), (.loc 2)])) [(.ret (.lit (.bool false)))] []), (.assign 3 (.loc 4))]),
  (.ret (.lit (.bool true)))] }
noncomputable def f_is_plain : Fn := { names := 5, params := 1, body := [
  (.assign 1 (.sub (.loc 0) (.lit (.int 0)))),
  (.ite (.cmp (.loc 1) .Eq (.lit (.str "once"))) [(.ret (.and (.cmp (.call (.bi .len) [(.loc 0)]) .Eq (.lit (.int 3))) (.and (.call (.fn "is_time") [(.sub (.loc 0) (.lit (.int 1)))]) (.call (.fn "is_between") [(.sub (.loc 0) (.lit (.int 2))), (.lit (.int 1)), (.lit (.int 48))]))))] []),
  (.ite (.cmp (.call (.bi .len) [(.loc 0)]) .NotEq (.lit (.int 4))) [(.ret (.lit (.bool false)))] []),
  (.ite (.cmp (.loc 1) .Eq (.lit (.str "every"))) [(.ret (.and (.call (.fn "is_time") [(.sub (.loc 0) (.lit (.int 1)))]) (.and (.call (.fn "is_between") [(.sub (.loc 0) (.lit (.int 2))), (.lit (.int 1)), (.lit (.int 48))]) (.call (.fn "is_between") [(.sub (.loc 0) (.lit (.int 3))), (.lit (.int 1)), (.lit (.int 1000000))]))))] []),
  (.ite (.or (.not (.call (.fn "is_between") [(.sub (.loc 0) (.lit (.int 2))), (.lit (.int 0)), (.lit (.int 23))])) (.not (.call (.fn "is_between") [(.sub (.loc 0) (.lit (.int 3))), (.lit (.int 1)), (.lit (.int 48))]))) [(.ret (.lit (.bool false)))] []),
  (.ite (.cmp (.loc 1) .Eq (.lit (.str "week"))) [(.ret (.call (.fn "are_rising") [(.sub (.loc 0) (.lit (.int 1))), (.lit (.int 7)), (.lit (.int 6))]))] []),
  (.ret (.and (.cmp (.loc 1) .Eq (.lit (.str "month"))) (.and (.call (.fn "is_between") [(.sub (.loc 0) (.lit (.int 1))), (.neg (.lit (.int 31))), (.lit (.int 31))]) (.cmp (.sub (.loc 0) (.lit (.int 1))) .NotEq (.lit (.int 0))))))] }
noncomputable def f_is_rule : Fn := { names := 5, params := 1, body := [
  (.for 1 .range (.lit (.int 8)) [(.ite (.or (.not (.call (.bi .isinstance) [(.loc 0), (.lit (.ty .tuple))])) (.or (.cmp (.call (.bi .len) [(.loc 0)]) .Eq (.lit (.int 0))) (.not (.call (.bi .isinstance) [(.sub (.loc 0) (.lit (.int 0))), (.lit (.ty .str))])))) [(.ret (.lit (.bool false)))] []), (.ite (.cmp (.sub (.loc 0) (.lit (.int 0))) .NotIn (.lit (.tup [(.str "from"), (.str "until"), (.str "also"), (.str "but")]))) [(.ret (.call (.fn "is_plain") [(.loc 0)]))] []), (.ite (.cmp (.call (.bi .len) [(.loc 0)]) .NotEq (.lit (.int 3))) [(.ret (.lit (.bool false)))] []), (.ite (.and (.cmp (.sub (.loc 0) (.lit (.int 0))) .Eq (.lit (.str "but"))) (.not (.call (.fn "are_rising") [(.sub (.loc 0) (.lit (.int 1))), (.lit (.int 20)), (.bin .Sub (.lit (.int 100000000000)) (.lit (.int 1)))]))) [(.ret (.lit (.bool false)))] []), (.ite (.and (.cmp (.sub (.loc 0) (.lit (.int 0))) .NotEq (.lit (.str "but"))) (.not (.call (.fn "is_time") [(.sub (.loc 0) (.lit (.int 1)))]))) [(.ret (.lit (.bool false)))] []), (.assign 0 (.sub (.loc 0) (.lit (.int 2))))]),
  (.ret (.lit (.bool false)))] }
noncomputable def f_innermost : Fn := { names := 4, params := 1, body := [
  (.while (.cmp (.sub (.loc 0) (.lit (.int 0))) .In (.lit (.tup [(.str "from"), (.str "until"), (.str "also"), (.str "but")]))) [(.assign 0 (.sub (.loc 0) (.lit (.int 2))))]),
  (.ret (.loc 0))] }
noncomputable def f_length_of : Fn := { names := 5, params := 1, body := [
  (.assign 1 (.call (.fn "innermost") [(.loc 0)])),
  (.ite (.or (.cmp (.sub (.loc 1) (.lit (.int 0))) .Eq (.lit (.str "once"))) (.cmp (.sub (.loc 1) (.lit (.int 0))) .Eq (.lit (.str "every")))) [(.ret (.sub (.loc 1) (.lit (.int 2))))] []),
  (.ret (.sub (.loc 1) (.lit (.int 3))))] }
noncomputable def f_begins_plain : Fn := { names := 6, params := 2, body := [
  (.ite (.cmp (.sub (.loc 0) (.lit (.int 0))) .Eq (.lit (.str "once"))) [(.ret (.cmp (.loc 1) .Eq (.sub (.loc 0) (.lit (.int 1)))))] []),
  (.ite (.cmp (.sub (.loc 0) (.lit (.int 0))) .Eq (.lit (.str "every"))) [(.ret (.and (.cmp (.loc 1) .GtE (.sub (.loc 0) (.lit (.int 1)))) (.cmp (.bin .Mod (.bin .Sub (.loc 1) (.sub (.loc 0) (.lit (.int 1)))) (.sub (.loc 0) (.lit (.int 3)))) .Eq (.lit (.int 0)))))] []),
  (.ite (.cmp (.bin .Mod (.loc 1) (.lit (.int 24))) .NotEq (.sub (.loc 0) (.lit (.int 2)))) [(.ret (.lit (.bool false)))] []),
  (.assign 2 (.bin .FloorDiv (.loc 1) (.lit (.int 24)))),
  (.ite (.cmp (.sub (.loc 0) (.lit (.int 0))) .Eq (.lit (.str "week"))) [(.ret (.cmp (.bin .Mod (.loc 2) (.lit (.int 7))) .In (.sub (.loc 0) (.lit (.int 1)))))] []),
  (.ite (.cmp (.sub (.loc 0) (.lit (.int 1))) .Lt (.lit (.int 0))) [(.ret (.cmp (.call (.fn "from_end") [(.loc 2)]) .Eq (.sub (.loc 0) (.lit (.int 1)))))] []),
  (.ret (.cmp (.sub (.call (.fn "date_of") [(.loc 2)]) (.lit (.int 2))) .Eq (.sub (.loc 0) (.lit (.int 1)))))] }
noncomputable def f_begins : Fn := { names := 5, params := 2, body := [
  (.ite (.cmp (.loc 1) .Lt (.lit (.int 0))) [(.ret (.lit (.bool false)))] []),
  (.while (.cmp (.sub (.loc 0) (.lit (.int 0))) .In (.lit (.tup [(.str "from"), (.str "until"), (.str "also"), (.str "but")]))) [(.ite (.and (.cmp (.sub (.loc 0) (.lit (.int 0))) .Eq (.lit (.str "from"))) (.cmp (.loc 1) .Lt (.sub (.loc 0) (.lit (.int 1))))) [(.ret (.lit (.bool false)))] []), (.ite (.and (.cmp (.sub (.loc 0) (.lit (.int 0))) .Eq (.lit (.str "until"))) (.cmp (.loc 1) .GtE (.sub (.loc 0) (.lit (.int 1))))) [(.ret (.lit (.bool false)))] []), (.ite (.and (.cmp (.sub (.loc 0) (.lit (.int 0))) .Eq (.lit (.str "also"))) (.cmp (.loc 1) .Eq (.sub (.loc 0) (.lit (.int 1))))) [(.ret (.lit (.bool true)))] []), (.ite (.and (.cmp (.sub (.loc 0) (.lit (.int 0))) .Eq (.lit (.str "but"))) (.cmp (.bin .FloorDiv (.loc 1) (.lit (.int 24))) .In (.sub (.loc 0) (.lit (.int 1))))) [(.ret (.lit (.bool false)))] []), (.assign 0 (.sub (.loc 0) (.lit (.int 2))))]),
  (.ret (.call (.fn "begins_plain") [(.loc 0), (.loc 1)]))] }
noncomputable def f_covers : Fn := { names := 6, params := 2, body := [
  (.ite (.cmp (.loc 1) .Lt (.lit (.int 0))) [(.ret (.lit (.bool false)))] []),
  (.for 2 .range (.call (.fn "length_of") [(.loc 0)]) [(.ite (.call (.fn "begins") [(.loc 0), (.bin .Sub (.loc 1) (.loc 2))]) [(.ret (.lit (.bool true)))] [])]),
  (.ret (.lit (.bool false)))] }
noncomputable def f_round_of : Fn := { names := 5, params := 1, body := [
  (.assign 1 (.call (.fn "innermost") [(.loc 0)])),
  (.ite (.cmp (.sub (.loc 1) (.lit (.int 0))) .Eq (.lit (.str "once"))) [(.ret (.lit (.int 1)))] []),
  (.ite (.cmp (.sub (.loc 1) (.lit (.int 0))) .Eq (.lit (.str "every"))) [(.ret (.sub (.loc 1) (.lit (.int 3))))] []),
  (.ite (.cmp (.sub (.loc 1) (.lit (.int 0))) .Eq (.lit (.str "week"))) [(.ret (.lit (.int 168)))] []),
  (.ret (.lit (.int 35064)))] }
noncomputable def f_settled_plain : Fn := { names := 4, params := 1, body := [
  (.ite (.cmp (.sub (.loc 0) (.lit (.int 0))) .Eq (.lit (.str "once"))) [(.ret (.bin .Add (.sub (.loc 0) (.lit (.int 1))) (.lit (.int 1))))] []),
  (.ite (.cmp (.sub (.loc 0) (.lit (.int 0))) .Eq (.lit (.str "every"))) [(.ret (.sub (.loc 0) (.lit (.int 1))))] []),
  (.ret (.lit (.int 0)))] }
noncomputable def f_settled : Fn := { names := 5, params := 1, body := [
  (.assign 1 (.lit (.int 0))),
  (.while (.cmp (.sub (.loc 0) (.lit (.int 0))) .In (.lit (.tup [(.str "from"), (.str "until"), (.str "also"), (.str "but")]))) [(.ite (.cmp (.sub (.loc 0) (.lit (.int 0))) .Eq (.lit (.str "also"))) [(.assign 1 (.call (.bi .max) [(.loc 1), (.bin .Add (.sub (.loc 0) (.lit (.int 1))) (.lit (.int 1)))]))] [(.ite (.cmp (.sub (.loc 0) (.lit (.int 0))) .Eq (.lit (.str "but"))) [(.assign 1 (.call (.bi .max) [(.loc 1), (.bin .Mult (.lit (.int 24)) (.bin .Add (.sub (.sub (.loc 0) (.lit (.int 1))) (.neg (.lit (.int 1)))) (.lit (.int 1))))]))] [(.assign 1 (.call (.bi .max) [(.loc 1), (.sub (.loc 0) (.lit (.int 1)))]))])]), (.assign 0 (.sub (.loc 0) (.lit (.int 2))))]),
  (.ret (.call (.bi .max) [(.loc 1), (.call (.fn "settled_plain") [(.loc 0)])]))] }
noncomputable def f_greatest_common : Fn := { names := 6, params := 2, body := [
  (.while (.cmp (.loc 1) .Gt (.lit (.int 0))) [(.assign 2 (.bin .Mod (.loc 0) (.loc 1))), (.assign 0 (.loc 1)), (.assign 1 (.loc 2))]),
  (.ret (.loc 0))] }
noncomputable def f_least_common : Fn := { names := 6, params := 1, body := [
  (.assign 1 (.lit (.int 1))),
  (.for 2 .val (.loc 0) [(.assign 1 (.bin .Mult (.bin .FloorDiv (.loc 1) (.call (.fn "greatest_common") [(.loc 1), (.loc 2)])) (.loc 2)))]),
  (.ret (.loc 1))] }
noncomputable def f_is_name : Fn := { names := 5, params := 1, body := [
  (.ite (.or (.not (.call (.bi .isinstance) [(.loc 0), (.lit (.ty .str))])) (.not (.cmp2 (.lit (.int 1)) .LtE (.call (.bi .len) [(.loc 0)]) .LtE (.lit (.int 12))))) [(.ret (.lit (.bool false)))] []),
  (.for 1 .val (.loc 0) [(.ite (.cmp (.loc 1) .NotIn (.lit (.str "abcdefghijklmnopqrstuvwxyz"))) [(.ret (.lit (.bool false)))] [])]),
  (.ret (.lit (.bool true)))] }
noncomputable def f_some_covers : Fn := { names := 6, params := 2, body := [
  (.for 2 .val (.loc 0) [(.ite (.call (.fn "covers") [(.loc 2), (.loc 1)]) [(.ret (.lit (.bool true)))] [])]),
  (.ret (.lit (.bool false)))] }
noncomputable def f_need_stretch : Fn := { names := 6, params := 3, body := [
  (.ite (.or (.not (.call (.fn "is_between") [(.loc 0), (.lit (.int 1)), (.lit (.int 48))])) (.or (.not (.call (.fn "is_time") [(.loc 1)])) (.not (.call (.fn "is_time") [(.loc 2)])))) [(.raise "NoTime" ["NoTime", "HourError", "ValueError"])] []),
  (.ite (.not (.cmp2 (.loc 1) .LtE (.loc 2) .LtE (.bin .Add (.loc 1) (.lit (.int 10000))))) [(.raise "NoTime" ["NoTime", "HourError", "ValueError"])] [])] }
noncomputable def f_B___init__ : Fn := { names := 4, params := 1, body := [
  (.setAttr (.loc 0) "names" (.lst [])),
  (.setAttr (.loc 0) "free_rules" .dct),
  (.setAttr (.loc 0) "busy_rules" .dct),
  (.setAttr (.loc 0) "held" (.lst [])),
  (.setAttr (.loc 0) "given" (.lit (.int 0)))] }
noncomputable def f_B_come : Fn := { names := 7, params := 3, body := [
  (.ite (.not (.call (.fn "is_name") [(.loc 1)])) [(.raise "NoName" ["NoName", "HourError", "ValueError"])] []),
  (.ite (.cmp (.loc 1) .In (.attr (.loc 0) "names")) [(.raise "Taken" ["Taken", "HourError", "ValueError"])] []),
  (.ite (.cmp (.call (.bi .len) [(.loc 2)]) .Gt (.lit (.int 20))) [(.raise "NoRule" ["NoRule", "HourError", "ValueError"])] []),
  (.for 3 .val (.loc 2) [(.ite (.not (.call (.fn "is_rule") [(.loc 3)])) [(.raise "NoRule" ["NoRule", "HourError", "ValueError"])] [])]),
  (.expr (.meth (.attr (.loc 0) "names") .append [(.loc 1)])),
  (.setItem (.attr (.loc 0) "free_rules") (.loc 1) (.call (.ty .list) [(.loc 2)])),
  (.setItem (.attr (.loc 0) "busy_rules") (.loc 1) (.lst []))] }
noncomputable def f_B_need_somebody : Fn := { names := 5, params := 2, body := [
  (.ite (.cmp (.loc 1) .NotIn (.attr (.loc 0) "names")) [(.raise "Stranger" ["Stranger", "HourError", "ValueError"])] [])] }
noncomputable def f_B_busy : Fn := { names := 8, params := 3, body := [
  (.expr (.mcall (.loc 0) "need_somebody" [(.loc 1)])),
  (.ite (.or (.not (.call (.fn "is_rule") [(.loc 2)])) (.cmp (.call (.bi .len) [(.sub (.attr (.loc 0) "busy_rules") (.loc 1))]) .GtE (.lit (.int 20)))) [(.raise "NoRule" ["NoRule", "HourError", "ValueError"])] []),
  (.for 3 .val (.attr (.loc 0) "held") [(.ite (.cmp (.loc 1) .In (.sub (.loc 3) (.lit (.int 3)))) [(.for 4 .range (.sub (.loc 3) (.lit (.int 2))) [(.ite (.call (.fn "covers") [(.loc 2), (.bin .Add (.sub (.loc 3) (.lit (.int 1))) (.loc 4))]) [(.raise "Clash" ["Clash", "HourError", "ValueError"])] [])])] [])]),
  (.expr (.meth (.sub (.attr (.loc 0) "busy_rules") (.loc 1)) .append [(.loc 2)]))] }
noncomputable def f_B_people : Fn := { names := 4, params := 1, body := [
  (.ret (.call (.ty .list) [(.attr (.loc 0) "names")]))] }
noncomputable def f_B_meets_at : Fn := { names := 8, params := 4, body := [
  (.for 4 .val (.attr (.loc 0) "held") [(.ite (.and (.cmp (.sub (.loc 4) (.lit (.int 0))) .NotEq (.loc 3)) (.and (.cmp (.loc 1) .In (.sub (.loc 4) (.lit (.int 3)))) (.cmp2 (.sub (.loc 4) (.lit (.int 1))) .LtE (.loc 2) .Lt (.bin .Add (.sub (.loc 4) (.lit (.int 1))) (.sub (.loc 4) (.lit (.int 2))))))) [(.ret (.lit (.bool true)))] [])]),
  (.ret (.lit (.bool false)))] }
noncomputable def f_B_free_at : Fn := { names := 7, params := 4, body := [
  (.ite (.or (.cmp (.loc 2) .Lt (.lit (.int 0))) (.mcall (.loc 0) "meets_at" [(.loc 1), (.loc 2), (.loc 3)])) [(.ret (.lit (.bool false)))] []),
  (.ret (.and (.call (.fn "some_covers") [(.sub (.attr (.loc 0) "free_rules") (.loc 1)), (.loc 2)]) (.not (.call (.fn "some_covers") [(.sub (.attr (.loc 0) "busy_rules") (.loc 1)), (.loc 2)]))))] }
noncomputable def f_B_is_free : Fn := { names := 6, params := 3, body := [
  (.expr (.mcall (.loc 0) "need_somebody" [(.loc 1)])),
  (.ret (.mcall (.loc 0) "free_at" [(.loc 1), (.loc 2), (.lit (.int 0))]))] }
noncomputable def f_B_need_all : Fn := { names := 6, params := 2, body := [
  (.ite (.cmp (.call (.bi .len) [(.loc 1)]) .Eq (.lit (.int 0))) [(.raise "Stranger" ["Stranger", "HourError", "ValueError"])] []),
  (.for 2 .val (.loc 1) [(.expr (.mcall (.loc 0) "need_somebody" [(.loc 2)]))]),
  (.for 2 .val (.loc 1) [(.ite (.cmp (.meth (.loc 1) .count [(.loc 2)]) .Gt (.lit (.int 1))) [(.raise "Twice" ["Twice", "HourError", "ValueError"])] [])])] }
noncomputable def f_B_bar : Fn := { names := 11, params := 5, body := [
  (.for 5 .range2 (.tup [(.lit (.int 1)), (.bin .Add (.loc 2) (.lit (.int 1)))]) [(.assign 6 (.bin .Sub (.bin .Add (.loc 3) (.loc 2)) (.loc 5))), (.for 7 .val (.loc 1) [(.ite (.not (.mcall (.loc 0) "free_at" [(.loc 7), (.loc 6), (.loc 4)])) [(.ret (.tup [(.loc 7), (.loc 6)]))] [])])]),
  (.ret (.lit .none))] }
noncomputable def f_B_look : Fn := { names := 11, params := 6, body := [
  (.assign 6 (.lst [])),
  (.while (.cmp (.loc 3) .LtE (.loc 4)) [(.assign 7 (.mcall (.loc 0) "bar" [(.loc 1), (.loc 2), (.loc 3), (.loc 5)])), (.ite (.cmp (.loc 7) .Is (.lit .none)) [(.ret (.tup [(.loc 3), (.loc 6)]))] []), (.expr (.meth (.loc 6) .append [(.tup [(.loc 3), (.call (.bi .min) [(.loc 4), (.sub (.loc 7) (.lit (.int 1)))]), (.sub (.loc 7) (.lit (.int 0))), (.sub (.loc 7) (.lit (.int 1)))])])), (.assign 3 (.bin .Add (.sub (.loc 7) (.lit (.int 1))) (.lit (.int 1))))]),
  (.ret (.tup [(.lit .none), (.loc 6)]))] }
noncomputable def f_B_first : Fn := { names := 8, params := 5, body := [
  (.expr (.mcall (.loc 0) "need_all" [(.loc 1)])),
  (.expr (.call (.fn "need_stretch") [(.loc 2), (.loc 3), (.loc 4)])),
  (.ret (.mcall (.loc 0) "look" [(.loc 1), (.loc 2), (.loc 3), (.bin .Sub (.loc 4) (.loc 2)), (.lit (.int 0))]))] }
noncomputable def f_B_meet : Fn := { names := 9, params := 5, body := [
  (.assign 5 (.sub (.mcall (.loc 0) "first" [(.loc 1), (.loc 2), (.loc 3), (.loc 4)]) (.lit (.int 0)))),
  (.ite (.cmp (.loc 5) .Is (.lit .none)) [(.ret (.lit .none))] []),
  (.setAttr (.loc 0) "given" (.bin .Add (.attr (.loc 0) "given") (.lit (.int 1)))),
  (.expr (.meth (.attr (.loc 0) "held") .append [(.tup [(.attr (.loc 0) "given"), (.loc 5), (.loc 2), (.call (.ty .tuple) [(.loc 1)])])])),
  (.ret (.tup [(.attr (.loc 0) "given"), (.loc 5)]))] }
noncomputable def f_B_meetings : Fn := { names := 4, params := 1, body := [
  (.ret (.call (.ty .list) [(.attr (.loc 0) "held")]))] }
noncomputable def f_B_place_of : Fn := { names := 6, params := 2, body := [
  (.ite (.call (.fn "is_whole") [(.loc 1)]) [(.for 2 .range (.call (.bi .len) [(.attr (.loc 0) "held")]) [(.ite (.cmp (.sub (.sub (.attr (.loc 0) "held") (.loc 2)) (.lit (.int 0))) .Eq (.loc 1)) [(.ret (.loc 2))] [])])] []),
  (.raise "NoMeeting" ["NoMeeting", "HourError", "ValueError"])] }
noncomputable def f_B_drop : Fn := { names := 6, params := 2, body := [
  (.assign 2 (.mcall (.loc 0) "place_of" [(.loc 1)])),
  (.setAttr (.loc 0) "held" (.bin .Add (.slice (.attr (.loc 0) "held") none (some (.loc 2))) (.slice (.attr (.loc 0) "held") (some (.bin .Add (.loc 2) (.lit (.int 1)))) none)))] }
noncomputable def f_B_move : Fn := { names := 10, params := 4, body := [
  (.assign 4 (.mcall (.loc 0) "place_of" [(.loc 1)])),
  (.assign 5 (.sub (.attr (.loc 0) "held") (.loc 4))),
  (.expr (.call (.fn "need_stretch") [(.sub (.loc 5) (.lit (.int 2))), (.loc 2), (.loc 3)])),
  (.assign 6 (.sub (.mcall (.loc 0) "look" [(.sub (.loc 5) (.lit (.int 3))), (.sub (.loc 5) (.lit (.int 2))), (.loc 2), (.bin .Sub (.loc 3) (.sub (.loc 5) (.lit (.int 2)))), (.loc 1)]) (.lit (.int 0)))),
  (.ite (.cmp (.loc 6) .IsNot (.lit .none)) [(.setItem (.attr (.loc 0) "held") (.loc 4) (.tup [(.loc 1), (.loc 6), (.sub (.loc 5) (.lit (.int 2))), (.sub (.loc 5) (.lit (.int 3)))]))] []),
  (.ret (.loc 6))] }
noncomputable def f_B_rules_of : Fn := { names := 7, params := 2, body := [
  (.assign 2 (.lst [])),
  (.for 3 .val (.loc 1) [(.assign 2 (.bin .Add (.bin .Add (.loc 2) (.sub (.attr (.loc 0) "free_rules") (.loc 3))) (.sub (.attr (.loc 0) "busy_rules") (.loc 3))))]),
  (.ret (.loc 2))] }
noncomputable def f_B_quiet_from : Fn := { names := 9, params := 2, body := [
  (.assign 2 (.lit (.int 0))),
  (.for 3 .val (.mcall (.loc 0) "rules_of" [(.loc 1)]) [(.assign 2 (.call (.bi .max) [(.loc 2), (.call (.fn "settled") [(.loc 3)])]))]),
  (.for 4 .val (.attr (.loc 0) "held") [(.for 5 .val (.loc 1) [(.ite (.cmp (.loc 5) .In (.sub (.loc 4) (.lit (.int 3)))) [(.assign 2 (.call (.bi .max) [(.loc 2), (.bin .Add (.sub (.loc 4) (.lit (.int 1))) (.sub (.loc 4) (.lit (.int 2))))]))] [])])]),
  (.ret (.bin .Add (.loc 2) (.lit (.int 48))))] }
noncomputable def f_B_ever : Fn := { names := 8, params := 4, body := [
  (.expr (.mcall (.loc 0) "need_all" [(.loc 1)])),
  (.ite (.or (.not (.call (.fn "is_between") [(.loc 2), (.lit (.int 1)), (.lit (.int 48))])) (.not (.call (.fn "is_time") [(.loc 3)]))) [(.raise "NoTime" ["NoTime", "HourError", "ValueError"])] []),
  (.assign 4 (.call (.fn "least_common") [(.comp (.call (.fn "round_of") [(.loc 5)]) 5 .val (.mcall (.loc 0) "rules_of" [(.loc 1)]))])),
  (.assign 4 (.bin .Add (.loc 4) (.call (.bi .max) [(.lit (.int 0)), (.bin .Sub (.mcall (.loc 0) "quiet_from" [(.loc 1)]) (.loc 3))]))),
  (.ite (.cmp (.loc 4) .Gt (.lit (.int 5000))) [(.raise "TooLong" ["TooLong", "HourError", "ValueError"])] []),
  (.ret (.sub (.mcall (.loc 0) "look" [(.loc 1), (.loc 2), (.loc 3), (.bin .Sub (.bin .Add (.loc 3) (.loc 4)) (.lit (.int 1))), (.lit (.int 0))]) (.lit (.int 0))))] }
noncomputable def f_l_cell_at : Fn := { names := 5, params := 2, body := [
  (.ite (.cmp (.call (.bi .len) [(.loc 0)]) .Eq (.lit (.int 0))) [(.ret (.lit (.int 0)))] []),
  (.ret (.bin .Add (.sub (.loc 0) (.bin .Mod (.loc 1) (.call (.bi .len) [(.loc 0)]))) (.bin .Mult (.bin .FloorDiv (.loc 1) (.call (.bi .len) [(.loc 0)])) (.lit (.int 31)))))] }
noncomputable def f_l_far : Fn := { names := 4, params := 1, body := [
  (.ret (.sub (.lst [(.lit (.int 0)), (.bin .Mod (.bin .FloorDiv (.loc 0) (.lit (.int 4))) (.bin .Pow (.lit (.int 10)) (.lit (.int 6)))), (.bin .Mod (.bin .FloorDiv (.loc 0) (.lit (.int 4))) (.bin .Sub (.bin .Pow (.lit (.int 10)) (.lit (.int 12))) (.lit (.int 20000)))), (.bin .Sub (.bin .Pow (.lit (.int 10)) (.lit (.int 12))) (.lit (.int 200)))]) (.bin .Mod (.loc 0) (.lit (.int 4)))))] }
noncomputable def f_l_name_by : Fn := { names := 10, params := 3, body := [
  (.assign 3 (.lit (.str "abcdefghijklmnopqrstuvwxyz"))),
  (.assign 4 (.bin .Mod (.bin .FloorDiv (.loc 0) (.lit (.int 2))) (.lit (.int 12)))),
  (.ite (.cmp (.bin .Mod (.loc 0) (.lit (.int 2))) .Eq (.lit (.int 1))) [(.assign 1 (.bin .FloorDiv (.loc 0) (.lit (.int 48))))] []),
  (.assign 5 (.lit (.str ""))),
  (.ite (.cmp (.bin .Mod (.loc 0) (.lit (.int 6))) .Eq (.lit (.int 4))) [(.for 6 .range (.bin .Add (.loc 2) (.lit (.int 1))) [(.assign 5 (.bin .Add (.loc 5) (.sub (.loc 3) (.bin .Mod (.bin .Add (.bin .FloorDiv (.loc 0) (.lit (.int 6))) (.bin .Mult (.loc 6) (.bin .Add (.lit (.int 1)) (.bin .Mod (.bin .FloorDiv (.loc 0) (.lit (.int 150))) (.lit (.int 5)))))) (.lit (.int 25))))))]), (.ret (.loc 5))] []),
  (.for 6 .range (.bin .Add (.bin .Add (.loc 4) (.lit (.int 1))) (.bin .Mod (.bin .FloorDiv (.loc 1) (.lit (.int 24))) (.bin .Sub (.lit (.int 12)) (.loc 4)))) [(.ite (.cmp (.loc 6) .Eq (.loc 4)) [(.assign 5 (.bin .Add (.loc 5) (.sub (.loc 3) (.bin .Add (.bin .Mult (.bin .Mod (.bin .FloorDiv (.loc 0) (.lit (.int 24))) (.lit (.int 2))) (.lit (.int 13))) (.loc 2)))))] [(.assign 5 (.bin .Add (.loc 5) (.sub (.loc 3) (.bin .Mod (.bin .Add (.bin .FloorDiv (.loc 1) (.lit (.int 288))) (.bin .Mult (.loc 6) (.bin .Add (.lit (.int 1)) (.bin .Mod (.loc 1) (.lit (.int 5)))))) (.lit (.int 26))))))])]),
  (.ret (.loc 5))] }
noncomputable def f_l_called : Fn := { names := 6, params := 3, body := [
  (.ite (.cmp (.loc 1) .Eq (.lit (.str "come"))) [(.expr (.mcall (.loc 0) "come" [(.sub (.loc 2) (.lit (.int 0))), (.sub (.loc 2) (.lit (.int 1)))]))] []),
  (.ite (.cmp (.loc 1) .Eq (.lit (.str "busy"))) [(.expr (.mcall (.loc 0) "busy" [(.sub (.loc 2) (.lit (.int 0))), (.sub (.loc 2) (.lit (.int 1)))]))] []),
  (.ite (.cmp (.loc 1) .Eq (.lit (.str "is_free"))) [(.expr (.mcall (.loc 0) "is_free" [(.sub (.loc 2) (.lit (.int 0))), (.sub (.loc 2) (.lit (.int 1)))]))] []),
  (.ite (.cmp (.loc 1) .Eq (.lit (.str "first"))) [(.expr (.mcall (.loc 0) "first" [(.sub (.loc 2) (.lit (.int 0))), (.sub (.loc 2) (.lit (.int 1))), (.sub (.loc 2) (.lit (.int 2))), (.sub (.loc 2) (.lit (.int 3)))]))] []),
  (.ite (.cmp (.loc 1) .Eq (.lit (.str "meet"))) [(.expr (.mcall (.loc 0) "meet" [(.sub (.loc 2) (.lit (.int 0))), (.sub (.loc 2) (.lit (.int 1))), (.sub (.loc 2) (.lit (.int 2))), (.sub (.loc 2) (.lit (.int 3)))]))] []),
  (.ite (.cmp (.loc 1) .Eq (.lit (.str "ever"))) [(.expr (.mcall (.loc 0) "ever" [(.sub (.loc 2) (.lit (.int 0))), (.sub (.loc 2) (.lit (.int 1))), (.sub (.loc 2) (.lit (.int 2)))]))] []),
  (.ite (.cmp (.loc 1) .Eq (.lit (.str "drop"))) [(.expr (.mcall (.loc 0) "drop" [(.sub (.loc 2) (.lit (.int 0)))]))] []),
  (.ite (.cmp (.loc 1) .Eq (.lit (.str "move"))) [(.expr (.mcall (.loc 0) "move" [(.sub (.loc 2) (.lit (.int 0))), (.sub (.loc 2) (.lit (.int 1))), (.sub (.loc 2) (.lit (.int 2)))]))] [])] }
noncomputable def f_l_class_one : Fn := { names := 6, params := 3, body := [
  (.tryR [(.expr (.call (.fn "_law_called") [(.loc 0), (.loc 1), (.loc 2)]))] [("NoName", none, .ret (.lit (.str "NoName"))), ("Taken", none, .ret (.lit (.str "Taken"))), ("Stranger", none, .ret (.lit (.str "Stranger"))), ("NoRule", none, .ret (.lit (.str "NoRule"))), ("Clash", none, .ret (.lit (.str "Clash"))), ("Twice", none, .ret (.lit (.str "Twice"))), ("NoTime", none, .ret (.lit (.str "NoTime"))), ("NoMeeting", none, .ret (.lit (.str "NoMeeting"))), ("TooLong", none, .ret (.lit (.str "TooLong")))]),
  (.ret (.lit (.str "none")))] }
noncomputable def f_l_by_any : Fn := { names := 8, params := 3, body := [
  (.tryR [(.expr (.call (.fn "_law_called") [(.loc 0), (.loc 1), (.loc 2)]))] [("HourError", some 3, .any 4 ["NoName", "Taken", "Stranger", "NoRule", "Clash", "Twice", "NoTime", "NoMeeting", "TooLong", "NoDate"])]),
  (.ret (.lit (.bool false)))] }
noncomputable def f_l_people_case : Fn := { names := 11, params := 3, body := [
  (.assign 3 (.sub (.lst [(.lit (.str "")), (.bin .Mult (.lit (.str "a")) (.lit (.int 13))), (.lit (.str "Ann")), (.lit (.str "a b")), (.lit (.str "a1")), (.lit (.str "ann.")), (.lit (.int 5)), (.lit .none), (.lit (.bool true)), (.lit (.str "a-b"))]) (.bin .Mod (.bin .FloorDiv (.loc 0) (.lit (.int 16))) (.lit (.int 10))))),
  (.assign 4 (.tup [(.lit (.str "once")), (.loc 2), (.lit (.int 1))])),
  (.assign 5 (.sub (.lst [(.tup [(.lit (.str "once")), (.loc 2)]), (.lit .none), (.tup [(.lit (.str "every")), (.loc 2), (.lit (.int 1)), (.lit (.int 0))]), (.lst [(.lit (.str "once")), (.loc 2), (.lit (.int 1))]), (.tup [(.lit (.str "week")), (.tup []), (.lit (.int 5)), (.lit (.int 1))]), (.lit (.int 5))]) (.bin .Mod (.bin .FloorDiv (.loc 0) (.lit (.int 160))) (.lit (.int 6))))),
  (.assign 6 (.lst [(.tup [(.lit (.str "come")), (.lst [(.loc 3), (.lst [(.loc 5)])]), (.lit (.str "NoName"))]), (.tup [(.lit (.str "come")), (.lst [(.sub (.loc 1) (.bin .Mod (.bin .FloorDiv (.loc 0) (.lit (.int 16))) (.lit (.int 2)))), (.lst [(.loc 5)])]), (.lit (.str "Taken"))])])),
  (.assign 7 (.sub (.lst [(.lst [(.loc 4), (.loc 5)]), (.lst [(.loc 5), (.loc 4)]), (.lst [(.loc 4), (.loc 5), (.loc 4)]), (.bin .Add (.bin .Mult (.lst [(.loc 4)]) (.lit (.int 19))) (.lst [(.loc 5)]))]) (.bin .Mod (.bin .FloorDiv (.loc 0) (.lit (.int 960))) (.lit (.int 4))))),
  (.assign 6 (.bin .Add (.loc 6) (.lst [(.tup [(.lit (.str "come")), (.lst [(.lit (.str "zz")), (.loc 7)]), (.lit (.str "NoRule"))]), (.tup [(.lit (.str "come")), (.lst [(.lit (.str "zz")), (.bin .Mult (.lst [(.loc 4)]) (.lit (.int 21)))]), (.lit (.str "NoRule"))])]))),
  (.assign 6 (.bin .Add (.loc 6) (.lst [(.tup [(.lit (.str "busy")), (.lst [(.lit (.str "zz")), (.loc 5)]), (.lit (.str "Stranger"))]), (.tup [(.lit (.str "busy")), (.lst [(.sub (.loc 1) (.lit (.int 0))), (.loc 5)]), (.lit (.str "NoRule"))])]))),
  (.assign 6 (.bin .Add (.loc 6) (.lst [(.tup [(.lit (.str "busy")), (.lst [(.sub (.loc 1) (.lit (.int 1))), (.tup [(.lit (.str "once")), (.bin .Add (.loc 2) (.bin .Mod (.bin .FloorDiv (.loc 0) (.lit (.int 16))) (.lit (.int 2)))), (.bin .Add (.lit (.int 1)) (.bin .Mod (.bin .FloorDiv (.loc 0) (.lit (.int 32))) (.lit (.int 48))))])]), (.lit (.str "Clash"))])]))),
  (.ret (.sub (.bin .Add (.loc 6) (.lst [(.tup [(.lit (.str "is_free")), (.lst [(.sub (.lst [(.lit (.str "zz")), (.loc 3)]) (.call (.ty .int) [(.cmp (.bin .Mod (.bin .FloorDiv (.loc 0) (.lit (.int 16))) (.lit (.int 10))) .NotEq (.lit (.int 0)))])), (.loc 2)]), (.lit (.str "Stranger"))])])) (.bin .Mod (.loc 0) (.lit (.int 8)))))] }
noncomputable def f_l_meeting_case : Fn := { names := 15, params := 3, body := [
  (.assign 3 (.sub (.lst [(.lit (.str "first")), (.lit (.str "meet"))]) (.bin .Mod (.bin .FloorDiv (.loc 0) (.lit (.int 16))) (.lit (.int 2))))),
  (.assign 4 (.sub (.lst [(.lit (.int 0)), (.lit (.int 49)), (.lit (.bool true)), (.lit .none), (.lit (.str "1")), (.neg (.lit (.int 1))), (.bin .Pow (.lit (.int 10)) (.lit (.int 30)))]) (.bin .Mod (.bin .FloorDiv (.loc 0) (.lit (.int 32))) (.lit (.int 7))))),
  (.assign 5 (.sub (.lst [(.loc 2), (.loc 2), (.neg (.lit (.int 1))), (.bin .Pow (.lit (.int 10)) (.lit (.int 12))), (.lit .none), (.lit (.bool true)), (.loc 2)]) (.bin .Mod (.bin .FloorDiv (.loc 0) (.lit (.int 224))) (.lit (.int 7))))),
  (.assign 6 (.sub (.lst [(.bin .Sub (.loc 2) (.lit (.int 1))), (.bin .Add (.loc 2) (.lit (.int 10001))), (.loc 2), (.bin .Add (.bin .Pow (.lit (.int 10)) (.lit (.int 12))) (.lit (.int 1))), (.loc 2), (.loc 2), (.lit .none)]) (.bin .Mod (.bin .FloorDiv (.loc 0) (.lit (.int 224))) (.lit (.int 7))))),
  (.assign 7 (.sub (.lst [(.lit (.int 0)), (.lit (.int 2)), (.neg (.lit (.int 1))), (.lit (.bool true)), (.lit .none), (.lit (.str "1")), (.bin .Pow (.lit (.int 10)) (.lit (.int 30)))]) (.bin .Mod (.bin .FloorDiv (.loc 0) (.lit (.int 32))) (.lit (.int 7))))),
  (.assign 8 (.lst [(.sub (.loc 1) (.lit (.int 0))), (.sub (.loc 1) (.lit (.int 1)))])),
  (.assign 9 (.sub (.lst [(.lst [(.sub (.loc 1) (.lit (.int 0))), (.sub (.loc 1) (.lit (.int 1))), (.sub (.loc 1) (.lit (.int 0)))]), (.lst [(.sub (.loc 1) (.lit (.int 1))), (.sub (.loc 1) (.lit (.int 1)))]), (.lst [(.sub (.loc 1) (.lit (.int 1))), (.sub (.loc 1) (.lit (.int 0))), (.sub (.loc 1) (.lit (.int 0)))])]) (.bin .Mod (.bin .FloorDiv (.loc 0) (.lit (.int 448))) (.lit (.int 3))))),
  (.assign 10 (.sub (.lst [(.bin .Add (.loc 9) (.lst [(.lit (.str "zz"))])), (.bin .Add (.lst [(.lit (.str "zz"))]) (.loc 9)), (.lst [(.sub (.loc 1) (.lit (.int 0))), (.lit (.str "zz")), (.sub (.loc 1) (.lit (.int 1)))]), (.lst [(.lit (.str "zz"))])]) (.bin .Mod (.bin .FloorDiv (.loc 0) (.lit (.int 1344))) (.lit (.int 4))))),
  (.assign 11 (.lst [(.tup [(.loc 3), (.lst [(.lst []), (.loc 4), (.loc 5), (.loc 6)]), (.lit (.str "Stranger"))]), (.tup [(.loc 3), (.lst [(.loc 10), (.loc 4), (.loc 5), (.loc 6)]), (.lit (.str "Stranger"))])])),
  (.assign 11 (.bin .Add (.loc 11) (.lst [(.tup [(.loc 3), (.lst [(.loc 9), (.loc 4), (.loc 5), (.loc 6)]), (.lit (.str "Twice"))]), (.tup [(.loc 3), (.lst [(.loc 8), (.loc 4), (.loc 2), (.bin .Add (.loc 2) (.lit (.int 5)))]), (.lit (.str "NoTime"))])]))),
  (.assign 11 (.bin .Add (.loc 11) (.lst [(.tup [(.loc 3), (.lst [(.loc 8), (.bin .Add (.lit (.int 1)) (.bin .Mod (.bin .FloorDiv (.loc 0) (.lit (.int 32))) (.lit (.int 48)))), (.loc 5), (.loc 6)]), (.lit (.str "NoTime"))]), (.tup [(.lit (.str "drop")), (.lst [(.loc 7)]), (.lit (.str "NoMeeting"))])]))),
  (.assign 11 (.bin .Add (.loc 11) (.lst [(.tup [(.lit (.str "move")), (.lst [(.loc 7), (.loc 5), (.loc 6)]), (.lit (.str "NoMeeting"))]), (.tup [(.lit (.str "move")), (.lst [(.lit (.int 1)), (.loc 5), (.loc 6)]), (.lit (.str "NoTime"))])]))),
  (.ret (.sub (.loc 11) (.bin .Mod (.loc 0) (.lit (.int 8)))))] }
noncomputable def f_l_ever_case : Fn := { names := 10, params := 3, body := [
  (.assign 3 (.sub (.lst [(.lit (.int 0)), (.lit (.int 49)), (.lit (.bool true)), (.lit .none), (.lit (.str "1")), (.neg (.lit (.int 1))), (.bin .Pow (.lit (.int 10)) (.lit (.int 30)))]) (.bin .Mod (.bin .FloorDiv (.loc 0) (.lit (.int 32))) (.lit (.int 7))))),
  (.assign 4 (.sub (.lst [(.neg (.lit (.int 1))), (.bin .Pow (.lit (.int 10)) (.lit (.int 12))), (.lit .none), (.lit (.bool true)), (.lit (.str "0"))]) (.bin .Mod (.bin .FloorDiv (.loc 0) (.lit (.int 32))) (.lit (.int 5))))),
  (.assign 5 (.lst [(.sub (.loc 1) (.lit (.int 1))), (.sub (.loc 1) (.lit (.int 0)))])),
  (.assign 6 (.lst [(.tup [(.lit (.str "ever")), (.lst [(.lst []), (.loc 3), (.loc 4)]), (.lit (.str "Stranger"))]), (.tup [(.lit (.str "ever")), (.lst [(.lst [(.lit (.str "zz"))]), (.lit (.int 1)), (.loc 2)]), (.lit (.str "Stranger"))])])),
  (.assign 6 (.bin .Add (.loc 6) (.lst [(.tup [(.lit (.str "ever")), (.lst [(.bin .Add (.loc 5) (.loc 5)), (.loc 3), (.loc 2)]), (.lit (.str "Twice"))]), (.tup [(.lit (.str "ever")), (.lst [(.loc 5), (.loc 3), (.loc 2)]), (.lit (.str "NoTime"))])]))),
  (.ret (.sub (.bin .Add (.loc 6) (.lst [(.tup [(.lit (.str "ever")), (.lst [(.loc 5), (.bin .Add (.lit (.int 1)) (.bin .Mod (.bin .FloorDiv (.loc 0) (.lit (.int 224))) (.lit (.int 48)))), (.loc 4)]), (.lit (.str "NoTime"))])])) (.bin .Mod (.bin .FloorDiv (.loc 0) (.lit (.int 4))) (.lit (.int 5)))))] }
noncomputable def f_l_long_case : Fn := { names := 9, params := 3, body := [
  (.assign 3 (.sub (.lst [(.lit (.int 0)), (.lit (.int 49)), (.lit .none)]) (.bin .Mod (.loc 0) (.lit (.int 3))))),
  (.assign 4 (.sub (.lst [(.neg (.lit (.int 1))), (.bin .Pow (.lit (.int 10)) (.lit (.int 12))), (.lit (.bool true))]) (.bin .Mod (.loc 0) (.lit (.int 3))))),
  (.assign 5 (.lst [(.tup [(.lit (.str "ever")), (.lst [(.lst [(.loc 1)]), (.bin .Add (.lit (.int 1)) (.bin .Mod (.bin .FloorDiv (.loc 0) (.lit (.int 18))) (.lit (.int 48)))), (.loc 2)]), (.lit (.str "TooLong"))]), (.tup [(.lit (.str "ever")), (.lst [(.lst [(.loc 1)]), (.loc 3), (.loc 2)]), (.lit (.str "NoTime"))])])),
  (.assign 5 (.bin .Add (.loc 5) (.lst [(.tup [(.lit (.str "ever")), (.lst [(.lst [(.loc 1)]), (.lit (.int 1)), (.loc 4)]), (.lit (.str "NoTime"))]), (.tup [(.lit (.str "ever")), (.lst [(.lst [(.loc 1), (.loc 1)]), (.lit (.int 1)), (.loc 2)]), (.lit (.str "Twice"))])]))),
  (.assign 5 (.bin .Add (.loc 5) (.lst [(.tup [(.lit (.str "ever")), (.lst [(.lst [(.loc 1), (.lit (.str "zz"))]), (.lit (.int 1)), (.loc 2)]), (.lit (.str "Stranger"))]), (.tup [(.lit (.str "ever")), (.lst [(.lst [(.loc 1)]), (.lit (.int 1)), (.loc 2)]), (.lit (.str "TooLong"))])]))),
  (.ret (.sub (.loc 5) (.bin .Mod (.bin .FloorDiv (.loc 0) (.lit (.int 3))) (.lit (.int 6)))))] }
noncomputable def f_l_made_good : Fn := { names := 10, params := 3, body := [
  (.assign 3 (.tup [(.lit (.str "once")), (.loc 2), (.lit (.int 2))])),
  (.assign 4 (.lst [(.tup [(.lit (.str "busy")), (.lst [(.sub (.loc 1) (.lit (.int 1))), (.loc 3)])]), (.tup [(.lit (.str "is_free")), (.lst [(.lit (.str "zz")), (.loc 2)])]), (.tup [(.lit (.str "drop")), (.lst [(.lit (.int 2))])]), (.tup [(.lit (.str "first")), (.lst [(.lst [(.lit (.str "zz"))]), (.lit (.int 1)), (.loc 2), (.bin .Add (.loc 2) (.lit (.int 1)))])])])),
  (.assign 5 (.lst [(.lit (.str "Clash")), (.lit (.str "Stranger")), (.lit (.str "NoMeeting")), (.lit (.str "Stranger"))])),
  (.ite (.cmp (.comp (.call (.fn "_law_class_one") [(.loc 0), (.sub (.loc 7) (.lit (.int 0))), (.sub (.loc 7) (.lit (.int 1)))]) 7 .val (.loc 4)) .NotEq (.loc 5)) [(.ret (.lit (.bool false)))] []),
  (.expr (.mcall (.loc 0) "come" [(.lit (.str "zz")), (.lst [(.tup [(.lit (.str "every")), (.lit (.int 0)), (.lit (.int 1)), (.lit (.int 1))])])])),
  (.expr (.mcall (.loc 0) "drop" [(.lit (.int 1))])),
  (.expr (.mcall (.loc 0) "busy" [(.sub (.loc 1) (.lit (.int 1))), (.loc 3)])),
  (.ite (.or (.cmp (.mcall (.loc 0) "first" [(.lst [(.lit (.str "zz"))]), (.lit (.int 1)), (.loc 2), (.bin .Add (.loc 2) (.lit (.int 1)))]) .NotEq (.tup [(.loc 2), (.lst [])])) (.cmp (.mcall (.loc 0) "meet" [(.lst [(.lit (.str "zz"))]), (.lit (.int 1)), (.loc 2), (.bin .Add (.loc 2) (.lit (.int 1)))]) .NotEq (.tup [(.lit (.int 2)), (.loc 2)]))) [(.ret (.lit (.bool false)))] []),
  (.ite (.cmp (.comp (.mcall (.loc 0) "is_free" [(.loc 7), (.loc 2)]) 7 .val (.lst [(.lit (.str "zz")), (.sub (.loc 1) (.lit (.int 0))), (.sub (.loc 1) (.lit (.int 1)))])) .NotEq (.lst [(.lit (.bool false)), (.lit (.bool true)), (.lit (.bool false))])) [(.ret (.lit (.bool false)))] []),
  (.ite (.or (.cmp (.mcall (.loc 0) "drop" [(.lit (.int 2))]) .IsNot (.lit .none)) (.or (.cmp (.mcall (.loc 0) "is_free" [(.lit (.str "zz")), (.loc 2)]) .IsNot (.lit (.bool true))) (.cmp (.mcall (.loc 0) "people" []) .NotEq (.bin .Add (.loc 1) (.lst [(.lit (.str "zz"))]))))) [(.ret (.lit (.bool false)))] []),
  (.assign 6 (.bin .Add (.loc 2) (.bin .Mult (.lit (.int 5300)) (.call (.ty .int) [(.cmp (.loc 2) .Lt (.bin .Sub (.bin .Pow (.lit (.int 10)) (.lit (.int 12))) (.lit (.int 20000))))])))),
  (.ite (.cmp (.mcall (.loc 0) "meet" [(.lst [(.lit (.str "zz"))]), (.lit (.int 1)), (.loc 6), (.bin .Add (.loc 6) (.lit (.int 1)))]) .NotEq (.tup [(.lit (.int 3)), (.loc 6)])) [(.ret (.lit (.bool false)))] []),
  (.ite (.cmp (.call (.fn "_law_class_one") [(.loc 0), (.lit (.str "ever")), (.lst [(.lst [(.lit (.str "zz"))]), (.lit (.int 1)), (.bin .Sub (.loc 6) (.lit (.int 5300)))])]) .NotEq (.lit (.str "TooLong"))) [(.ret (.lit (.bool false)))] []),
  (.expr (.mcall (.loc 0) "drop" [(.lit (.int 3))])),
  (.ite (.cmp (.call (.fn "_law_class_one") [(.loc 0), (.lit (.str "ever")), (.lst [(.lst [(.lit (.str "zz"))]), (.lit (.int 1)), (.bin .Sub (.loc 6) (.lit (.int 5300)))])]) .NotEq (.lit (.str "none"))) [(.ret (.lit (.bool false)))] []),
  (.ret (.cmp (.mcall (.loc 0) "ever" [(.lst [(.lit (.str "zz"))]), (.lit (.int 1)), (.bin .Sub (.loc 6) (.lit (.int 5300)))]) .Eq (.bin .Sub (.loc 6) (.lit (.int 5300)))))] }
noncomputable def f_law : Fn := { names := 13, params := 1, body := [
  (.assign 1 (.call (.fn "_law_cell_at") [(.loc 0), (.lit (.int 1))])),
  (.assign 2 (.call (.fn "_law_far") [(.call (.fn "_law_cell_at") [(.loc 0), (.lit (.int 0))])])),
  (.assign 3 (.call (.fn "_law_cell_at") [(.loc 0), (.lit (.int 5))])),
  (.assign 5 (.comp (.call (.fn "_law_name_by") [(.loc 3), (.call (.fn "_law_cell_at") [(.loc 0), (.bin .Add (.lit (.int 2)) (.loc 10))]), (.loc 10)]) 10 .range (.lit (.int 2)))),
  (.assign 6 .new),
  (.for 7 .val (.loc 5) [(.expr (.mcall (.loc 6) "come" [(.loc 7), (.lst [(.tup [(.lit (.str "every")), (.lit (.int 0)), (.lit (.int 1)), (.lit (.int 1))])])]))]),
  (.expr (.mcall (.loc 6) "meet" [(.lst [(.sub (.loc 5) (.lit (.int 1))), (.sub (.loc 5) (.lit (.int 0)))]), (.lit (.int 2)), (.loc 2), (.bin .Add (.loc 2) (.lit (.int 2)))])),
  (.ite (.cmp (.bin .Mod (.bin .FloorDiv (.loc 1) (.lit (.int 8))) (.lit (.int 2))) .Eq (.lit (.int 0))) [(.assign 8 (.call (.fn "_law_people_case") [(.loc 1), (.loc 5), (.loc 2)]))] [(.assign 8 (.call (.fn "_law_meeting_case") [(.loc 1), (.loc 5), (.loc 2)]))]),
  (.ite (.cmp (.bin .Mod (.call (.fn "_law_cell_at") [(.loc 0), (.lit (.int 4))]) (.lit (.int 4))) .Eq (.lit (.int 1))) [(.assign 8 (.call (.fn "_law_ever_case") [(.loc 1), (.loc 5), (.loc 2)]))] []),
  (.ite (.cmp (.bin .Mod (.call (.fn "_law_cell_at") [(.loc 0), (.lit (.int 4))]) (.lit (.int 16))) .Eq (.lit (.int 2))) [(.expr (.mcall (.loc 6) "busy" [(.sub (.loc 5) (.lit (.int 0))), (.tup [(.lit (.str "every")), (.bin .Add (.loc 2) (.lit (.int 3))), (.lit (.int 1)), (.bin .Add (.lit (.int 5002)) (.bin .Mod (.loc 1) (.lit (.int 5000))))])])), (.assign 8 (.call (.fn "_law_long_case") [(.loc 1), (.sub (.loc 5) (.lit (.int 0))), (.bin .Add (.loc 2) (.bin .Mod (.loc 1) (.lit (.int 150))))]))] []),
  (.ite (.cmp (.bin .Mod (.call (.fn "_law_cell_at") [(.loc 0), (.lit (.int 4))]) (.lit (.int 16))) .Eq (.lit (.int 3))) [(.for 4 .range (.lit (.int 20)) [(.expr (.mcall (.loc 6) "busy" [(.sub (.loc 5) (.lit (.int 0))), (.tup [(.lit (.str "once")), (.bin .Add (.bin .Add (.loc 2) (.lit (.int 4))) (.loc 4)), (.lit (.int 1))])]))]), (.assign 8 (.tup [(.lit (.str "busy")), (.lst [(.sub (.loc 5) (.lit (.int 0))), (.tup [(.lit (.str "once")), (.bin .Add (.loc 2) (.sub (.lst [(.lit (.int 30)), (.lit (.int 1))]) (.bin .Mod (.loc 1) (.lit (.int 2))))), (.lit (.int 1))])]), (.lit (.str "NoRule"))]))] []),
  (.assign 9 (.comp (.mcall (.loc 6) "is_free" [(.loc 10), (.loc 2)]) 10 .val (.loc 5))),
  (.ite (.or (.cmp (.call (.fn "_law_class_one") [(.loc 6), (.sub (.loc 8) (.lit (.int 0))), (.sub (.loc 8) (.lit (.int 1)))]) .NotEq (.sub (.loc 8) (.lit (.int 2)))) (.not (.call (.fn "_law_by_any") [(.loc 6), (.sub (.loc 8) (.lit (.int 0))), (.sub (.loc 8) (.lit (.int 1)))]))) [(.ret (.lit (.bool false)))] []),
  (.ite (.or (.cmp (.loc 9) .NotEq (.lst [(.lit (.bool false)), (.lit (.bool false))])) (.cmp (.mcall (.loc 6) "is_free" [(.sub (.loc 5) (.lit (.int 0))), (.bin .Add (.loc 2) (.lit (.int 2)))]) .IsNot (.lit (.bool true)))) [(.ret (.lit (.bool false)))] []),
  (.ite (.cmp (.mcall (.loc 6) "is_free" [(.sub (.loc 5) (.lit (.int 1))), (.bin .Add (.loc 2) (.lit (.int 1)))]) .IsNot (.lit (.bool false))) [(.ret (.lit (.bool false)))] []),
  (.ite (.or (.cmp (.mcall (.loc 6) "people" []) .NotEq (.loc 5)) (.cmp (.mcall (.loc 6) "meetings" []) .NotEq (.lst [(.tup [(.lit (.int 1)), (.loc 2), (.lit (.int 2)), (.tup [(.sub (.loc 5) (.lit (.int 1))), (.sub (.loc 5) (.lit (.int 0)))])])]))) [(.ret (.lit (.bool false)))] []),
  (.ret (.call (.fn "_law_made_good") [(.loc 6), (.loc 5), (.loc 2)]))] }
end Mine
namespace Mine
open PySem
noncomputable abbrev Ctr := List V → Hp → (V → Hp → Prop) → XL → Prop
noncomputable def on3P (l : List V) (P : V → V → V → Prop) : Prop := match l with
  | [] => False
  | a :: r => on2P r (P a)
theorem on3P_elim {l : List V} {P : V → V → V → Prop} (h : on3P l P) : ∃ a b c, l = [a, b, c] ∧ P a b c := by
  cases l with
  | nil => exact h.elim
  | cons a r => obtain ⟨b, c, rfl, h⟩ := on2P_elim h; exact ⟨a, b, c, rfl, h⟩
noncomputable def simK (v : V) (P : Option Int → Prop) : Prop := match v with
  | .int i => P (some i)
  | .bool _ => P none
  | .none => P none
  | .str _ => P none
  | _ => False
section
variable {P : Option Int → Prop} {i : Int} {b : Bool} {x : Str}
theorem sk_int : simK (.int i) P = P (some i) := rfl
theorem sk_bool : simK (.bool b) P = P none := rfl
theorem sk_none : simK .none P = P none := rfl
theorem sk_str : simK (.str x) P = P none := rfl
end
section
variable {H : Hp} {x : Int} {b : Bool} {u : Str} {l : List V}
theorem isi_ii : isInstH H (.int x) .int = some true := rfl
theorem isi_ib : isInstH H (.int x) .bool = some false := rfl
theorem isi_bi : isInstH H (.bool b) .int = some true := rfl
theorem isi_bb : isInstH H (.bool b) .bool = some true := rfl
theorem isi_ni : isInstH H .none .int = some false := rfl
theorem isi_si : isInstH H (.str u) .int = some false := rfl
theorem isi_ss : isInstH H (.str u) .str = some true := rfl
theorem isi_is : isInstH H (.int x) .str = some false := rfl
theorem isi_bs : isInstH H (.bool b) .str = some false := rfl
theorem isi_ns : isInstH H .none .str = some false := rfl
theorem isi_tt : isInstH H (.tup l) .tuple = some true := rfl
theorem isi_nt : isInstH H .none .tuple = some false := rfl
theorem isi_it : isInstH H (.int x) .tuple = some false := rfl
theorem isi_rt {i : Nat} (h : listAt H i = some l) : isInstH H (.ref i) .tuple = some false := by show ((listAt H i).map _).map _ = _; rw [h]; rfl
end
noncomputable def C_is_whole : Ctr := fun vs H Q _ => on1P vs fun v => simK v fun o => Q (.bool o.isSome) H
theorem w_is_whole : ∀ vs H Q X, C_is_whole vs H Q X → wpFn noΦ f_is_whole vs H Q X := by
  intro vs H Q X h
  refine e1_2 (on1P_elim h) fun v e_316 h => ?_
  obtain rfl := e_316
  refine fn_of rfl ?_
  change wpSs noΦ f_is_whole.body [some v, none, none, none] H _ _
  refine zs_cons ?_
  cases v with
  | int i => simp_arith only [isi_ii, isi_ib]; exact h
  | bool b => simp_arith only [isi_bi, isi_bb]; exact h
  | none => simp_arith only [isi_ni]; exact h
  | str x => simp_arith only [isi_si]; exact h
  | _ => exact h.elim
noncomputable def Φ1 : Orc := ext "is_whole" C_is_whole noΦ
theorem P1_iw : Φ1 "is_whole" = C_is_whole := rfl
noncomputable def btw (a b : Int) : Option Int → Bool
  | some x => decide (a ≤ x) && decide (x ≤ b)
  | none => false
noncomputable def C_is_between : Ctr := fun vs H Q _ => on3P vs fun v a b => pInt a b fun i j => simK v fun o => Q (.bool (btw i j o)) H
theorem cw_i {x : Int} {H : Hp} {Q : V → Hp → Prop} {X : XL} : C_is_whole [.int x] H Q X = Q (.bool true) H := rfl
theorem w_is_between : ∀ vs H Q X, C_is_between vs H Q X → wpFn Φ1 f_is_between vs H Q X := by
  intro vs H Q X h
  refine e3_2 (on3P_elim h) fun v a b e_317 h => ?_
  obtain rfl := e_317
  refine e2_3 (pInt_elim h) fun i j e_318 e_319 h => ?_
  obtain rfl := e_318
  obtain rfl := e_319
  refine fn_of rfl ?_
  change wpSs Φ1 f_is_between.body [some v, some (.int i), some (.int j), none, none, none] H _ _
  refine zs_cons ?_
  simp_arith only [↓P1_iw]
  cases v with
  | int x =>
    rw [cw_i]
    simp_arith only [X_lit]
    have h : Q (.bool (decide (i ≤ x) && decide (x ≤ j))) H := h
    refine ⟨fun e => ?_, fun e => ?_⟩
    · rw [decide_eq_true e] at h; exact h
    · rw [decide_eq_false e] at h ⊢; exact h
  | bool b => exact h
  | none => exact h
  | str x => exact h
  | _ => exact h.elim
noncomputable def Φ2 : Orc := ext "is_between" C_is_between Φ1
theorem P2_ib : Φ2 "is_between" = C_is_between := rfl
noncomputable def timeB (o : Option Int) : Bool := btw 0 999999999999 o
noncomputable def C_is_time : Ctr := fun vs H Q _ => on1P vs fun v => simK v fun o => Q (.bool (timeB o)) H
theorem w_is_time : ∀ vs H Q X, C_is_time vs H Q X → wpFn Φ2 f_is_time vs H Q X := by
  intro vs H Q X h
  refine e1_2 (on1P_elim h) fun v e_320 h => ?_
  obtain rfl := e_320
  refine fn_of rfl ?_
  change wpSs Φ2 f_is_time.body [some v, none, none, none] H _ _
  refine zs_cons ?_
  simp_arith only [↓P2_ib]
  cases v with
  | int x => exact h
  | bool b => exact h
  | none => exact h
  | str x => exact h
  | _ => exact h.elim
noncomputable def Φ3 : Orc := ext "is_time" C_is_time Φ2
theorem P3_ib : Φ3 "is_between" = C_is_between := rfl
theorem P3_it : Φ3 "is_time" = C_is_time := rfl
noncomputable def C_are_rising : Ctr := fun vs H Q _ => ∃ a b : Int, vs = [.tup [], .int a, .int b] ∧ Q (.bool false) H
theorem w_are_rising : ∀ vs H Q X, C_are_rising vs H Q X → wpFn Φ3 f_are_rising vs H Q X := by
  rintro vs H Q X ⟨a, b, rfl, q⟩
  refine fn_of rfl ?_
  change wpSs Φ3 f_are_rising.body [some (.tup []), some (.int a), some (.int b), none, none, none, none, none] H _ _
  refine zs_cons ?_
  simp_arith only [isi_tt]
  exact ⟨fun h => absurd h (by decide), fun _ => q⟩
noncomputable def Φ4 : Orc := ext "are_rising" C_are_rising Φ3
theorem P4_ib : Φ4 "is_between" = C_is_between := rfl
theorem P4_it : Φ4 "is_time" = C_is_time := rfl
theorem P4_ar : Φ4 "are_rising" = C_are_rising := rfl
noncomputable def hourOk (x : Int) : Prop := 0 ≤ x ∧ x < 1000000000000
noncomputable def sizeOk1 (x : Int) : Prop := 1 ≤ x ∧ x ≤ 48
inductive Pl where
  | once (s l : Int)
  | every (s l p : Int)
noncomputable def pv : Pl → V
  | .once s l => .tup [.str "once", .int s, .int l]
  | .every s l p => .tup [.str "every", .int s, .int l, .int p]
noncomputable def Pl.fine : Pl → Prop
  | .once s l => hourOk s ∧ sizeOk1 l
  | .every s l p => hourOk s ∧ sizeOk1 l ∧ 1 ≤ p ∧ p ≤ 1000000
inductive Tg where
  | pl (p : Pl)
  | w1 (f : Int)
  | w2
  | w3 (f : Int)
  | w4 (i : Nat)
  | w5
  | w6
noncomputable def tv : Tg → V
  | .pl p => pv p
  | .w1 f => .tup [.str "once", .int f]
  | .w2 => .none
  | .w3 f => .tup [.str "every", .int f, .int 1, .int 0]
  | .w4 i => .ref i
  | .w5 => .tup [.str "week", .tup [], .int 5, .int 1]
  | .w6 => .int 5
noncomputable def Tg.ok (H : Hp) : Tg → Prop
  | .pl p => p.fine
  | .w3 f => hourOk f
  | .w4 i => ∃ l, listAt H i = some l
  | _ => True
noncomputable def Tg.good : Tg → Bool
  | .pl _ => true
  | _ => false
theorem btw_t {a b x : Int} (h1 : a ≤ x) (h2 : x ≤ b) : btw a b (some x) = true := by show (decide (a ≤ x) && decide (x ≤ b)) = true; rw [decide_eq_true h1, decide_eq_true h2]; rfl
theorem time_t {x : Int} (h : hourOk x) : timeB (some x) = true := btw_t h.1 (by have := h.2; lia)
section
variable {H : Hp} {Q : V → Hp → Prop} {X : XL} {x a b : Int}
theorem c_ib : C_is_between [.int x, .int a, .int b] H Q X = Q (.bool (btw a b (some x))) H := rfl
theorem c_it : C_is_time [.int x] H Q X = Q (.bool (timeB (some x))) H := rfl
end
theorem sw_oo : (Str.ofString "once" == Str.ofString "once") = true := by decide
theorem sw_ee : (Str.ofString "every" == Str.ofString "every") = true := by decide
theorem sw_eo : (Str.ofString "every" == Str.ofString "once") = false := by decide
theorem sw_wo : (Str.ofString "week" == Str.ofString "once") = false := by decide
theorem sw_we : (Str.ofString "week" == Str.ofString "every") = false := by decide
theorem sw_ww : (Str.ofString "week" == Str.ofString "week") = true := by decide
noncomputable def C_is_plain : Ctr := fun vs H Q _ => ∃ t : Tg, vs = [tv t] ∧ t.ok H ∧ (match t with | .w2 => False | .w4 _ => False | .w6 => False | _ => True) ∧ Q (.bool t.good) H
theorem w_is_plain : ∀ vs H Q X, C_is_plain vs H Q X → wpFn Φ4 f_is_plain vs H Q X := by
  rintro vs H Q X ⟨t, rfl, ht, hk, q⟩
  refine fn_of rfl ?_
  change wpSs Φ4 f_is_plain.body [some (tv t), none, none, none, none] H _ _
  cases t with
  | pl p =>
    cases p with
    | once s l =>
      refine zs_cons ?_
      generalize hK : sqX Φ4 (_ :: _) = K
      simp_arith only [tv, pv]
      subst hK
      refine zs_cons ?_
      generalize hK : sqX Φ4 (_ :: _) = K
      simp_arith only [sw_oo, ↓P4_it, ↓P4_ib, ↓c_it, ↓c_ib, time_t ht.1, btw_t ht.2.1 ht.2.2]
      subst hK
      exact ⟨fun _ => q, fun h => absurd rfl h⟩
    | every s l p =>
      refine zs_cons ?_
      generalize hK : sqX Φ4 (_ :: _) = K
      simp_arith only [tv, pv]
      subst hK
      refine zs_cons ?_
      generalize hK : sqX Φ4 (_ :: _) = K
      simp_arith only [sw_eo]
      subst hK
      refine zs_cons ?_
      generalize hK : sqX Φ4 (_ :: _) = K
      simp_arith only [X_lit]
      refine ⟨fun h => absurd rfl h, fun _ => ?_⟩
      subst hK
      refine zs_cons ?_
      generalize hK : sqX Φ4 (_ :: _) = K
      simp_arith only [sw_ee, ↓P4_it, ↓P4_ib, ↓c_it, ↓c_ib, time_t ht.1, btw_t ht.2.1.1 ht.2.1.2, btw_t ht.2.2.1 ht.2.2.2]
      subst hK
      exact q
  | w1 f =>
    refine zs_cons ?_
    generalize hK : sqX Φ4 (_ :: _) = K
    simp_arith only [tv]
    subst hK
    refine zs_cons ?_
    generalize hK : sqX Φ4 (_ :: _) = K
    simp_arith only [sw_oo]
    subst hK
    exact ⟨fun h => absurd h (by decide), fun _ => q⟩
  | w3 f =>
    refine zs_cons ?_
    generalize hK : sqX Φ4 (_ :: _) = K
    simp_arith only [tv]
    subst hK
    refine zs_cons ?_
    generalize hK : sqX Φ4 (_ :: _) = K
    simp_arith only [sw_eo]
    subst hK
    refine zs_cons ?_
    generalize hK : sqX Φ4 (_ :: _) = K
    simp_arith only [X_lit]
    refine ⟨fun h => absurd rfl h, fun _ => ?_⟩
    subst hK
    refine zs_cons ?_
    generalize hK : sqX Φ4 (_ :: _) = K
    simp_arith only [sw_ee, ↓P4_it, ↓P4_ib, ↓c_it, ↓c_ib, time_t ht]
    subst hK
    exact q
  | w5 =>
    refine zs_cons ?_
    generalize hK : sqX Φ4 (_ :: _) = K
    simp_arith only [tv]
    subst hK
    refine zs_cons ?_
    generalize hK : sqX Φ4 (_ :: _) = K
    simp_arith only [sw_wo]
    subst hK
    refine zs_cons ?_
    generalize hK : sqX Φ4 (_ :: _) = K
    simp_arith only [X_lit]
    refine ⟨fun h => absurd rfl h, fun _ => ?_⟩
    subst hK
    refine zs_cons ?_
    generalize hK : sqX Φ4 (_ :: _) = K
    simp_arith only [sw_we]
    subst hK
    refine zs_cons ?_
    generalize hK : sqX Φ4 (_ :: _) = K
    simp_arith only [↓P4_ib, ↓c_ib]
    subst hK
    refine zs_cons ?_
    generalize hK : sqX Φ4 (_ :: _) = K
    simp_arith only [sw_ww, ↓P4_ar]
    subst hK
    exact ⟨7, 6, rfl, q⟩
  | _ => exact hk.elim
noncomputable def Φ5 : Orc := ext "is_plain" C_is_plain Φ4
theorem P5_ip : Φ5 "is_plain" = C_is_plain := rfl
noncomputable abbrev outs : List V := [.str "from", .str "until", .str "also", .str "but"]
theorem mo_once : memV (.str "once") outs = some false := by decide
theorem mo_every : memV (.str "every") outs = some false := by decide
theorem mo_week : memV (.str "week") outs = some false := by decide
noncomputable def C_is_rule : Ctr := fun vs H Q _ => ∃ t : Tg, vs = [tv t] ∧ t.ok H ∧ Q (.bool t.good) H
theorem range8 : rangeL 0 8 = V.int 0 :: [1, 2, 3, 4, 5, 6, 7].map V.int := rfl
noncomputable abbrev ruB : List IS := bdy (f_is_rule.body.getD 0 .fail)
theorem ru_w {u : Str} {rest : List V} {Lr : Lc} {H : Hp} {QF : QS} {XF : XS} (hm : memV (.str u) outs = some false) (h : C_is_plain [.tup (.str u :: rest)] H (fun v H1 => QF (.ret v) (some (.tup (.str u :: rest)) :: Lr) H1) (fun x => XF x (some (.tup (.str u :: rest)) :: Lr))) : wpSs Φ5 ruB (some (.tup (.str u :: rest)) :: Lr) H QF XF := by
  refine zs_cons ?_
  generalize hK : sqX Φ5 (_ :: _) = K
  simp_arith only [isi_tt, isi_ss]
  refine ⟨fun e => absurd e (by lia), fun _ => ?_⟩
  subst hK
  refine zs_cons ?_
  generalize hK : sqX Φ5 (_ :: _) = K
  simp_arith only [hm, ↓P5_ip]
  subst hK
  exact h
theorem w_is_rule : ∀ vs H Q X, C_is_rule vs H Q X → wpFn Φ5 f_is_rule vs H Q X := by
  rintro vs H Q X ⟨t, rfl, ht, q⟩
  refine fn_of rfl ?_
  change wpSs Φ5 f_is_rule.body [some (tv t), none, none, none, none] H _ _
  refine zs_cons ?_
  rw [Z_for, X_lit, u_range, range8]
  refine ⟨⟨by decide, by decide⟩, ?_⟩
  rw [foX_cons]
  cases t with
  | pl p =>
    cases p with
    | once s l => exact ru_w mo_once ⟨.pl (.once s l), rfl, ht, trivial, q⟩
    | every s l p => exact ru_w mo_every ⟨.pl (.every s l p), rfl, ht, trivial, q⟩
  | w1 f => exact ru_w mo_once ⟨.w1 f, rfl, ht, trivial, q⟩
  | w3 f => exact ru_w mo_every ⟨.w3 f, rfl, ht, trivial, q⟩
  | w5 => exact ru_w mo_week ⟨.w5, rfl, ht, trivial, q⟩
  | w2 =>
    refine zs_cons ?_
    generalize hK : sqX Φ5 (_ :: _) = K
    simp_arith only [tv, isi_nt]
    subst hK
    exact q
  | w6 =>
    refine zs_cons ?_
    generalize hK : sqX Φ5 (_ :: _) = K
    simp_arith only [tv, isi_it]
    subst hK
    exact q
  | w4 i =>
    obtain ⟨l, hl⟩ := ht
    refine zs_cons ?_
    generalize hK : sqX Φ5 (_ :: _) = K
    simp_arith only [tv, isi_rt hl]
    subst hK
    exact q
noncomputable def Φ6 : Orc := ext "is_rule" C_is_rule Φ5
end Mine
namespace Mine
open PySem
noncomputable def xc (c : Str) : Exc := ⟨c, [c, "HourError", "ValueError"]⟩
noncomputable def Pl.size : Pl → Int
  | .once _ l => l
  | .every _ l _ => l
theorem Pl.fine.size {p : Pl} (h : p.fine) : sizeOk1 p.size := by
  cases p with
  | once s l => exact h.2
  | every s l p => exact h.2.1
section
variable {Φ : Orc} {Lr : Lc} {H : Hp} {P : Bool → Hp → Prop} {X : XL} {u : Str} {rest l : List V} {b : Bool}
theorem t_in (hm : memV (.str u) l = some b) (h : P b H) : (wp2 Φ (.cmp (.sub (.loc 0) (.lit (.int 0))) .In (.lit (.tup l)))).T (some (.tup (.str u :: rest)) :: Lr) H P X := by
  show oK (memV (.str u) l) _
  rw [hm]; exact h
theorem t_inP {p : Pl} (h : P false H) : (wp2 Φ (.cmp (.sub (.loc 0) (.lit (.int 0))) .In (.lit (.tup outs)))).T (some (pv p) :: Lr) H P X := by
  cases p with
  | once s l => exact t_in mo_once h
  | every s l p => exact t_in mo_every h
end
noncomputable def C_innermost : Ctr := fun vs H Q _ => ∃ p : Pl, vs = [pv p] ∧ Q (pv p) H
theorem w_innermost : ∀ vs H Q X, C_innermost vs H Q X → wpFn Φ6 f_innermost vs H Q X := by
  rintro vs H Q X ⟨p, rfl, q⟩
  refine fn_of rfl ?_
  change wpSs Φ6 f_innermost.body [some (pv p), none, none, none] H _ _
  refine zs_cons ?_
  rw [Z_while]
  refine ⟨1, ?_⟩
  rw [whX_s]
  exact t_inP q
noncomputable def Φ7 : Orc := ext "innermost" C_innermost Φ6
theorem P7_im : Φ7 "innermost" = C_innermost := rfl
noncomputable def C_length_of : Ctr := fun vs H Q _ => ∃ p : Pl, vs = [pv p] ∧ Q (.int p.size) H
theorem w_length_of : ∀ vs H Q X, C_length_of vs H Q X → wpFn Φ7 f_length_of vs H Q X := by
  rintro vs H Q X ⟨p, rfl, q⟩
  refine fn_of rfl ?_
  change wpSs Φ7 f_length_of.body [some (pv p), none, none, none, none] H _ _
  refine zs_cons ?_
  generalize hK : sqX Φ7 (_ :: _) = K
  simp_arith only [↓P7_im]
  refine ⟨p, rfl, ?_⟩
  subst hK
  cases p with
  | once s l => simp_arith only [pv, sw_oo]; exact q
  | every s l p => simp_arith only [pv, sw_eo, sw_ee]; exact q
noncomputable def Φ8 : Orc := ext "length_of" C_length_of Φ7
noncomputable def bp : Pl → Int → Bool
  | .once h _, x => decide (x = h)
  | .every h _ p, x => decide (h ≤ x) && decide ((x - h) % p = 0)
noncomputable def C_begins_plain : Ctr := fun vs H Q _ => ∃ (r : Pl) (x : Int), vs = [pv r, .int x] ∧ r.fine ∧ Q (.bool (bp r x)) H
theorem w_begins_plain : ∀ vs H Q X, C_begins_plain vs H Q X → wpFn Φ8 f_begins_plain vs H Q X := by
  rintro vs H Q X ⟨r, x, rfl, hok, q⟩
  refine fn_of rfl ?_
  cases r with
  | once h s =>
    change wpSs Φ8 f_begins_plain.body [some (V.tup [.str "once", .int h, .int s]), some (.int x), none, none, none, none] H _ _
    refine zs_cons ?_
    generalize hK : sqX Φ8 (_ :: _) = K
    simp_arith only [sw_oo]
    subst hK
    exact q
  | every h s p =>
    change wpSs Φ8 f_begins_plain.body [some (V.tup [.str "every", .int h, .int s, .int p]), some (.int x), none, none, none, none] H _ _
    refine zs_cons ?_
    generalize hK : sqX Φ8 (_ :: _) = K
    simp_arith only [sw_eo]
    subst hK
    refine zs_cons ?_
    generalize hK : sqX Φ8 (_ :: _) = K
    simp_arith only [sw_ee]
    subst hK
    have q : Q (.bool (decide (h ≤ x) && decide ((x - h) % p = 0))) H := q
    have h1 := hok.2.2.1
    have h2 := hok.2.2.2
    refine ⟨fun e => ⟨⟨by lia, by lia⟩, ?_⟩, fun e => ?_⟩
    · rw [decide_eq_true e] at q; exact q
    · rw [decide_eq_false e] at q ⊢; exact q
noncomputable def Φ9 : Orc := ext "begins_plain" C_begins_plain Φ8
theorem P9_bp : Φ9 "begins_plain" = C_begins_plain := rfl
noncomputable def bg (r : Pl) (x : Int) : Bool := if x < 0 then false else bp r x
noncomputable def C_begins : Ctr := fun vs H Q _ => ∃ (r : Pl) (x : Int), vs = [pv r, .int x] ∧ r.fine ∧ Q (.bool (bg r x)) H
theorem w_begins : ∀ vs H Q X, C_begins vs H Q X → wpFn Φ9 f_begins vs H Q X := by
  rintro vs H Q X ⟨r, x, rfl, hf, q⟩
  refine fn_of rfl ?_
  change wpSs Φ9 f_begins.body [some (pv r), some (.int x), none, none, none] H _ _
  refine zs_cons ?_
  generalize hK : sqX Φ9 (_ :: _) = K
  simp_arith only [X_lit]
  unfold bg at q
  refine ⟨fun hx => ?_, fun hx => ?_⟩
  · rw [if_pos hx] at q; subst hK; exact q
  rw [if_neg hx] at q
  subst hK
  refine zs_cons ?_
  rw [Z_while]
  refine ⟨1, ?_⟩
  rw [whX_s]
  refine t_inP ?_
  simp_arith only [↓P9_bp]
  exact ⟨r, x, rfl, hf, q⟩
noncomputable def Φa : Orc := ext "begins" C_begins Φ9
theorem Pa_be : Φa "begins" = C_begins := rfl
theorem Pa_lo : Φa "length_of" = C_length_of := rfl
noncomputable def rangeJ (a b : Int) : List Int := (List.range (b - a).toNat).map fun (k : Nat) => a + (k : Int)
theorem rangeL_J (a b : Int) : rangeL a b = (rangeJ a b).map V.int := by
  unfold rangeL rangeJ; rw [List.map_map]; rfl
theorem mem_rangeJ {a b k : Int} : k ∈ rangeJ a b ↔ a ≤ k ∧ k < b := by
  unfold rangeJ
  rw [List.mem_map]
  constructor
  · rintro ⟨n, hn, rfl⟩
    have := List.mem_range.mp hn
    lia
  · intro h
    exact ⟨(k - a).toNat, List.mem_range.mpr (by lia), by lia⟩
noncomputable def cov (r : Pl) (x : Int) : Bool := (rangeJ 0 r.size).any fun k => bg r (x - k)
noncomputable def C_covers : Ctr := fun vs H Q _ => ∃ (r : Pl) (x : Int), vs = [pv r, .int x] ∧ r.fine ∧ 0 ≤ x ∧ Q (.bool (cov r x)) H
theorem cv_loop {XF : XS} {r : Pl} {x : Int} {t3 t4 t5 : Option V} {H : Hp} {Q : QS} (hf : r.fine) : ∀ (ks : List Int) (t2 : Option V),
    (∀ L', (ks.any fun k => bg r (x - k)) = true → Q (.ret (.bool true)) L' H) → (∀ L', (ks.any fun k => bg r (x - k)) = false → Q .next L' H) →
    forGo (whBX Φa [(.ite (.call (.fn "begins") [(.loc 0), (.bin .Sub (.loc 1) (.loc 2))]) [(.ret (.lit (.bool true)))] [])] XF) (fun _ => True) 2 (ks.map V.int) [some (pv r), some (.int x), t2, t3, t4, t5] H Q := by
  intro ks
  induction ks with
  | nil => intro t2 _ q; exact q _ rfl
  | cons k ks ih =>
    intro t2 q1 q2
    rw [List.map_cons, foX_cons]
    simp_arith only [↓Pa_be]
    refine ⟨r, x - k, rfl, hf, ?_⟩
    simp_arith only [X_lit]
    rw [List.any_cons] at q1 q2
    refine iX_b (fun h => ?_) (fun h => ?_)
    · exact q1 _ (by rw [h]; rfl)
    · rw [h, Bool.false_or] at q1 q2
      exact ih _ q1 q2
theorem w_covers : ∀ vs H Q X, C_covers vs H Q X → wpFn Φa f_covers vs H Q X := by
  rintro vs H Q X ⟨r, x, rfl, hf, h0, q⟩
  refine fn_of rfl ?_
  change wpSs Φa f_covers.body [some (pv r), some (.int x), none, none, none, none] H _ _
  unfold cov at q
  have hs := hf.size
  refine zs_cons ?_
  generalize hK : sqX Φa (_ :: _) = K
  simp_arith only [X_lit]
  refine ⟨fun hx => absurd hx (by lia), fun _ => ?_⟩
  subst hK
  refine zs_cons ?_
  generalize hK : sqX Φa (_ :: _) = K
  simp_arith only [↓Pa_lo]
  refine ⟨r, rfl, ?_⟩
  simp_arith only [X_lit]
  have e1 : 1 ≤ r.size := hs.1
  have e2 : r.size ≤ 48 := hs.2
  refine ⟨⟨by lia, by lia⟩, ?_⟩
  rw [rangeL_J]
  subst hK
  refine cv_loop hf _ _ (fun L' h => ?_) (fun L' h => ?_)
  · rw [h] at q; exact q
  · rw [h] at q; exact q
noncomputable def Φb : Orc := ext "covers" C_covers Φa
theorem Pb_co : Φb "covers" = C_covers := rfl
inductive IC_some_covers (H : Hp) (Q : V → Hp → Prop) : List V → Prop where
  | mk (i : Nat) (rs : List Pl) (x : Int) : listAt H i = some (rs.map pv) → (∀ r ∈ rs, r.fine) → 0 ≤ x → Q (.bool (rs.any fun r => cov r x)) H → IC_some_covers H Q [.ref i, .int x]
noncomputable def C_some_covers : Ctr := fun vs H Q _ => IC_some_covers H Q vs
theorem sc_loop {XF : XS} {i : Nat} {x : Int} {t3 t4 t5 : Option V} {H : Hp} {Q : QS} {st : Hp → Prop} (hst : st H) (h0 : 0 ≤ x) : ∀ (rs : List Pl) (t2 : Option V), (∀ r ∈ rs, r.fine) →
    (∀ L', (rs.any fun r => cov r x) = true → Q (.ret (.bool true)) L' H) → (∀ L', (rs.any fun r => cov r x) = false → Q .next L' H) →
    forGo (whBX Φb [(.ite (.call (.fn "covers") [(.loc 2), (.loc 1)]) [(.ret (.lit (.bool true)))] [])] XF) st 2 (rs.map pv) [some (.ref i), some (.int x), t2, t3, t4, t5] H Q := by
  intro rs
  induction rs with
  | nil => intro t2 _ _ q; exact q _ rfl
  | cons r rs ih =>
    intro t2 hf q1 q2
    rw [List.map_cons, foX_cons]
    simp_arith only [↓Pb_co]
    refine ⟨r, x, rfl, hf r List.mem_cons_self, h0, ?_⟩
    simp_arith only [X_lit]
    rw [List.any_cons] at q1 q2
    refine iX_b (fun h => ?_) (fun h => ?_)
    · exact q1 _ (by rw [h]; rfl)
    · rw [h, Bool.false_or] at q1 q2
      exact ⟨hst, ih _ (fun r hr => hf r (List.mem_cons_of_mem _ hr)) q1 q2⟩
theorem w_some_covers : ∀ vs H Q X, C_some_covers vs H Q X → wpFn Φb f_some_covers vs H Q X := by
  rintro vs H Q X ⟨i, rs, x, hl, hf, h0, q⟩
  refine fn_of rfl ?_
  change wpSs Φb f_some_covers.body [some (.ref i), some (.int x), none, none, none, none] H _ _
  refine zs_cons ?_
  generalize hK : sqX Φb (_ :: _) = K
  simp_arith only [hl]
  subst hK
  refine sc_loop hl h0 rs _ hf (fun L' h => ?_) (fun L' h => ?_)
  · rw [h] at q; exact q
  · rw [h] at q; exact q
noncomputable def Φc : Orc := ext "some_covers" C_some_covers Φb
theorem Pc_ib : Φc "is_between" = C_is_between := rfl
theorem Pc_it : Φc "is_time" = C_is_time := rfl
noncomputable def numV : V → Option Int
  | .int i => some i
  | _ => none
noncomputable def smp : V → Bool
  | .int _ => true
  | .bool _ => true
  | .none => true
  | .str _ => true
  | _ => false
theorem sk_of {v : V} {P : Option Int → Prop} (h : smp v = true) : simK v P = P (numV v) := by
  cases v with
  | int i => rfl
  | bool b => rfl
  | none => rfl
  | str x => rfl
  | _ => exact Bool.noConfusion h
theorem cs_ib {v : V} {a b : Int} {H : Hp} {Q : V → Hp → Prop} {X : XL} (h : smp v = true) : C_is_between [v, .int a, .int b] H Q X = Q (.bool (btw a b (numV v))) H := sk_of (P := fun o => Q (.bool (btw a b o)) H) h
theorem cs_it {v : V} {H : Hp} {Q : V → Hp → Prop} {X : XL} (h : smp v = true) : C_is_time [v] H Q X = Q (.bool (timeB (numV v))) H := sk_of (P := fun o => Q (.bool (timeB o)) H) h
noncomputable def len2 : Option Int → Option Int → Bool
  | some a, some b => decide (a ≤ b) && decide (b ≤ a + 10000)
  | _, _ => false
noncomputable def strB (h a b : V) : Bool := btw 1 48 (numV h) && timeB (numV a) && timeB (numV b) && len2 (numV a) (numV b)
inductive IC_need_stretch (H : Hp) (Q : V → Hp → Prop) (X : XL) : List V → Prop where
  | mk (h a b : V) : smp h = true → smp a = true → smp b = true → (strB h a b = true → Q .none H) → (strB h a b = false → X (xc "NoTime") H) → IC_need_stretch H Q X [h, a, b]
noncomputable def C_need_stretch : Ctr := fun vs H Q X => IC_need_stretch H Q X vs
theorem numV_some {v : V} {o : Option Int} {i : Int} (e : numV v = o) (h : o = some i) : v = .int i := by
  subst e
  cases v with
  | int j => exact congrArg V.int (Option.some.inj h)
  | _ => exact no_some h
theorem timeB_some {o : Option Int} (h : timeB o = true) : ∃ i, o = some i := by
  cases o with
  | some i => exact ⟨i, rfl⟩
  | none => exact Bool.noConfusion h
theorem w_need_stretch : ∀ vs H Q X, C_need_stretch vs H Q X → wpFn Φc f_need_stretch vs H Q X := by
  rintro vs H Q X ⟨h, a, b, sh, sa, sb, q1, q2⟩
  refine fn_of rfl ?_
  change wpSs Φc f_need_stretch.body [some h, some a, some b, none, none, none] H _ _
  unfold strB at q1 q2
  refine zs_cons ?_
  generalize hK : sqX Φc (_ :: _) = K
  simp_arith only [↓Pc_ib, ↓Pc_it]
  rw [cs_ib sh]
  simp_arith only [X_lit]
  cases e1 : btw 1 48 (numV h) with
  | false => rw [e1] at q1 q2; subst hK; exact q2 rfl
  | true =>
    rw [e1] at q1 q2
    simp_arith only [X_lit]
    rw [cs_it sa]
    simp_arith only [X_lit]
    cases e2 : timeB (numV a) with
    | false => rw [e2] at q1 q2; subst hK; exact q2 rfl
    | true =>
      rw [e2] at q1 q2
      simp_arith only [X_lit]
      rw [cs_it sb]
      simp_arith only [X_lit]
      cases e3 : timeB (numV b) with
      | false => rw [e3] at q1 q2; subst hK; exact q2 rfl
      | true =>
        rw [e3] at q1 q2
        obtain ⟨i, ei⟩ := timeB_some e2
        obtain ⟨j, ej⟩ := timeB_some e3
        obtain rfl := numV_some rfl ei
        obtain rfl := numV_some rfl ej
        have q1 : (decide (i ≤ j) && decide (j ≤ i + 10000)) = true → Q .none H := q1
        have q2 : (decide (i ≤ j) && decide (j ≤ i + 10000)) = false → X (xc "NoTime") H := q2
        simp_arith only [X_lit]
        subst hK
        refine zs_cons ?_
        generalize hK : sqX Φc [] = K
        simp_arith only [X_lit]
        refine ⟨fun h1 => ?_, fun h1 => ?_⟩
        · rw [decide_eq_true h1] at q1 q2
          by_cases h2 : j ≤ i + 10000
          · rw [decide_eq_true h2] at q1; rw [decide_eq_true h2]; subst hK; exact q1 rfl
          · rw [decide_eq_false h2] at q2; rw [decide_eq_false h2]; subst hK; exact q2 rfl
        · rw [decide_eq_false h1] at q2 ⊢; subst hK; exact q2 rfl
noncomputable def Φd : Orc := ext "need_stretch" C_need_stretch Φc
noncomputable def lowB (c : Nat) : Bool := decide (97 ≤ c) && decide (c ≤ 122)
noncomputable def nmB (x : Str) : Bool := decide (1 ≤ (x.length : Int)) && decide ((x.length : Int) ≤ 12) && x.cps.toList.all lowB
theorem low_in : ∀ c : Fin 128, Txt.contains "abcdefghijklmnopqrstuvwxyz" ⟨#[c.val]⟩ = lowB c.val := by decide +kernel
theorem low_at {c : Nat} (h : c < 128) : Txt.contains "abcdefghijklmnopqrstuvwxyz" ⟨#[c]⟩ = lowB c := low_in ⟨c, h⟩
noncomputable def nameB : V → Bool
  | .str x => nmB x
  | _ => false
noncomputable def ascV : V → Prop
  | .str x => ∀ c ∈ x.cps.toList, c < 128
  | .int _ => True
  | .bool _ => True
  | .none => True
  | _ => False
noncomputable def C_is_name : Ctr := fun vs H Q _ => ∃ v : V, vs = [v] ∧ ascV v ∧ Q (.bool (nameB v)) H
theorem na_loop {XF : XS} {v0 : V} {t2 t3 t4 : Option V} {H : Hp} {Q : QS} : ∀ (cs : List Nat) (t1 : Option V), (∀ c ∈ cs, c < 128) → (cs.all lowB = true → ∀ L', Q .next L' H) → (cs.all lowB = false → ∀ L', Q (.ret (.bool false)) L' H) →
    forGo (whBX Φd [(.ite (.cmp (.loc 1) .NotIn (.lit (.str "abcdefghijklmnopqrstuvwxyz"))) [(.ret (.lit (.bool false)))] [])] XF) (fun _ => True) 1 (cs.map fun c => V.str ⟨#[c]⟩) [some v0, t1, t2, t3, t4] H Q := by
  intro cs
  induction cs with
  | nil => intro t1 _ q _; exact q rfl _
  | cons c cs ih =>
    intro t1 hc q1 q2
    rw [List.map_cons, foX_cons]
    simp_arith only [↓sV_str, ↓q_lenstr, ↓q_sstr, ↓q_ins, ↓q_nins, ↓u_str, ↓q_adds, low_at (hc c List.mem_cons_self)]
    rw [List.all_cons] at q1 q2
    cases e : lowB c with
    | true => rw [e, Bool.true_and] at q1 q2; exact ih _ (fun c h => hc c (List.mem_cons_of_mem _ h)) q1 q2
    | false => rw [e] at q2; exact q2 rfl _
theorem w_is_name : ∀ vs H Q X, C_is_name vs H Q X → wpFn Φd f_is_name vs H Q X := by
  rintro vs H Q X ⟨v, rfl, hn, q⟩
  refine fn_of rfl ?_
  change wpSs Φd f_is_name.body [some v, none, none, none, none] H _ _
  refine zs_cons ?_
  generalize hK : sqX Φd (_ :: _) = K
  cases v with
  | int i => simp_arith only [isi_is]; subst hK; exact q
  | bool b => simp_arith only [isi_bs]; subst hK; exact q
  | none => simp_arith only [isi_ns]; subst hK; exact q
  | str x =>
    have q : Q (.bool (decide (1 ≤ (x.length : Int)) && decide ((x.length : Int) ≤ 12) && x.cps.toList.all lowB)) H := q
    simp_arith only [↓sV_str, ↓q_lenstr, ↓q_sstr, ↓q_ins, ↓q_nins, ↓u_str, ↓q_adds, isi_ss]
    refine ⟨fun h1 => ?_, fun h1 => ?_⟩
    · rw [decide_eq_true h1] at q
      by_cases h2 : (x.length : Int) ≤ 12
      · rw [decide_eq_true h2] at q; rw [decide_eq_true h2]
        subst hK
        refine zs_cons ?_
        generalize hK : sqX Φd (_ :: _) = K
        simp_arith only [↓sV_str, ↓q_lenstr, ↓q_sstr, ↓q_ins, ↓q_nins, ↓u_str, ↓q_adds]
        refine ⟨?_, ?_⟩
        · rw [← Array.all_toList, List.all_eq_true]
          intro c hc
          exact decide_eq_true (hn c hc)
        subst hK
        refine na_loop _ _ hn (fun e L' => ?_) (fun e L' => ?_)
        · rw [e] at q; exact q
        · rw [e] at q; exact q
      · rw [decide_eq_false h2] at q; rw [decide_eq_false h2]; subst hK; exact q
    · rw [decide_eq_false h1] at q ⊢; subst hK; exact q
  | _ => exact hn.elim
noncomputable def Φe : Orc := ext "is_name" C_is_name Φd
end Mine
namespace Mine
open PySem
theorem Pe_im : Φe "innermost" = C_innermost := rfl
noncomputable def Pl.rnd : Pl → Int
  | .once _ _ => 1
  | .every _ _ p => p
noncomputable def Pl.stl : Pl → Int
  | .once s _ => s + 1
  | .every s _ _ => s
noncomputable def C_round_of : Ctr := fun vs H Q _ => ∃ p : Pl, vs = [pv p] ∧ Q (.int p.rnd) H
theorem w_round_of : ∀ vs H Q X, C_round_of vs H Q X → wpFn Φe f_round_of vs H Q X := by
  rintro vs H Q X ⟨p, rfl, q⟩
  refine fn_of rfl ?_
  change wpSs Φe f_round_of.body [some (pv p), none, none, none, none] H _ _
  refine zs_cons ?_
  generalize hK : sqX Φe (_ :: _) = K
  simp_arith only [↓Pe_im]
  refine ⟨p, rfl, ?_⟩
  subst hK
  cases p with
  | once s l =>
    refine zs_cons ?_
    generalize hK : sqX Φe (_ :: _) = K
    simp_arith only [pv, sw_oo]
    subst hK
    exact q
  | every s l p =>
    refine zs_cons ?_
    generalize hK : sqX Φe (_ :: _) = K
    simp_arith only [pv, sw_eo]
    subst hK
    refine zs_cons ?_
    generalize hK : sqX Φe (_ :: _) = K
    simp_arith only [sw_ee]
    subst hK
    exact q
noncomputable def Φf : Orc := ext "round_of" C_round_of Φe
noncomputable def C_settled_plain : Ctr := fun vs H Q _ => ∃ p : Pl, vs = [pv p] ∧ Q (.int p.stl) H
theorem w_settled_plain : ∀ vs H Q X, C_settled_plain vs H Q X → wpFn Φf f_settled_plain vs H Q X := by
  rintro vs H Q X ⟨p, rfl, q⟩
  refine fn_of rfl ?_
  change wpSs Φf f_settled_plain.body [some (pv p), none, none, none] H _ _
  cases p with
  | once s l =>
    refine zs_cons ?_
    generalize hK : sqX Φf (_ :: _) = K
    simp_arith only [pv, sw_oo]
    subst hK
    exact q
  | every s l p =>
    refine zs_cons ?_
    generalize hK : sqX Φf (_ :: _) = K
    simp_arith only [pv, sw_eo]
    subst hK
    refine zs_cons ?_
    generalize hK : sqX Φf (_ :: _) = K
    simp_arith only [sw_ee]
    subst hK
    exact q
noncomputable def Φg : Orc := ext "settled_plain" C_settled_plain Φf
theorem Pg_sp : Φg "settled_plain" = C_settled_plain := rfl
noncomputable def C_settled : Ctr := fun vs H Q _ => ∃ p : Pl, vs = [pv p] ∧ Q (.int (max 0 p.stl)) H
theorem w_settled : ∀ vs H Q X, C_settled vs H Q X → wpFn Φg f_settled vs H Q X := by
  rintro vs H Q X ⟨p, rfl, q⟩
  refine fn_of rfl ?_
  change wpSs Φg f_settled.body [some (pv p), none, none, none, none] H _ _
  refine zs_cons ?_
  generalize hK : sqX Φg (_ :: _) = K
  simp_arith only [X_lit]
  subst hK
  refine zs_cons ?_
  rw [Z_while]
  refine ⟨1, ?_⟩
  rw [whX_s]
  refine t_inP ?_
  simp_arith only [↓Pg_sp]
  exact ⟨p, rfl, q⟩
noncomputable def Φh : Orc := ext "settled" C_settled Φg
noncomputable def C_greatest_common : Ctr := fun vs H Q _ => ∃ p : Int, vs = [.int 1, .int p] ∧ 1 ≤ p ∧ p ≤ 1000000 ∧ Q (.int 1) H
noncomputable abbrev gcT : IE := .cmp (.loc 1) .Gt (.lit (.int 0))
noncomputable abbrev gcB : List IS := bdy (f_greatest_common.body.getD 0 .fail)
theorem gc_end {a b : Int} (hb : b = 0) {t2 t3 t4 t5 : Option V} {H : Hp} {Q : QS} {n : Nat} (q : ∀ t1 t2, Q .next [some (.int a), t1, t2, t3, t4, t5] H) : whileGo (whTX Φh gcT noX) (whBX Φh gcB noXS) (n + 1) [some (.int a), some (.int b), t2, t3, t4, t5] H Q := by
  rw [whX_s]
  show ifP (decide (0 < b)) _ _
  exact iX_p (fun h => absurd h (by lia)) fun _ => q _ _
theorem gc_step {a b : Int} {t2 t3 t4 t5 : Option V} {H : Hp} {Q : QS} {n : Nat} (hb : 0 < b) (hb2 : b ≤ 1000000) (q : ∀ t2, whileGo (whTX Φh gcT noX) (whBX Φh gcB noXS) n [some (.int b), some (.int (a % b)), t2, t3, t4, t5] H Q) : whileGo (whTX Φh gcT noX) (whBX Φh gcB noXS) (n + 1) [some (.int a), some (.int b), t2, t3, t4, t5] H Q := by
  rw [whX_s]
  show ifP (decide (0 < b)) _ _
  refine iX_p (fun _ => ?_) fun h => absurd hb h
  refine zs_cons ?_
  generalize hK : sqX Φh (_ :: _) = K
  simp_arith only [X_lit]
  refine ⟨⟨hb, by lia⟩, ?_⟩
  subst hK
  refine zs_cons ?_
  generalize hK : sqX Φh (_ :: _) = K
  simp_arith only [X_lit]
  subst hK
  refine zs_cons ?_
  simp_arith only [X_lit]
  exact q _
theorem w_greatest_common : ∀ vs H Q X, C_greatest_common vs H Q X → wpFn Φh f_greatest_common vs H Q X := by
  rintro vs H Q X ⟨p, rfl, h1, h2, q⟩
  refine fn_of rfl ?_
  change wpSs Φh f_greatest_common.body [some (.int 1), some (.int p), none, none, none, none] H _ _
  refine zs_cons ?_
  rw [Z_while]
  refine ⟨3, gc_step (by lia) h2 fun t2 => ?_⟩
  by_cases e : p = 1
  · subst e
    exact gc_end rfl fun t1 t2 => q
  · rw [show (1 : Int) % p = 1 from Int.emod_eq_of_lt (by decide) (by lia)]
    refine gc_step (by decide) (by decide) fun t2 => ?_
    exact gc_end (Int.emod_one p) fun t1 t2 => q
noncomputable def Φi : Orc := ext "greatest_common" C_greatest_common Φh
theorem Pi_gc : Φi "greatest_common" = C_greatest_common := rfl
inductive IC_least_common (H : Hp) (Q : V → Hp → Prop) : List V → Prop where
  | one (i : Nat) : listAt H i = some [.int 1] → Q (.int 1) H → IC_least_common H Q [.ref i]
  | two (i : Nat) (p : Int) : listAt H i = some [.int 1, .int p] → 1 ≤ p → p ≤ 1000000 → Q (.int p) H → IC_least_common H Q [.ref i]
noncomputable def C_least_common : Ctr := fun vs H Q _ => IC_least_common H Q vs
noncomputable abbrev lcB : List IS := bdy (f_least_common.body.getD 1 .fail)
theorem lc_step {XF : XS} {p : Int} {v0 : V} {t3 t4 t5 : Option V} {H : Hp} {Q : QS} (h1 : 1 ≤ p) (h2 : p ≤ 1000000) (q : Q .next [some v0, some (.int p), some (.int p), t3, t4, t5] H) : wpSs Φi lcB [some v0, some (.int 1), some (.int p), t3, t4, t5] H Q XF := by
  refine zs_cons ?_
  simp_arith only [↓Pi_gc]
  refine ⟨p, rfl, h1, h2, ⟨by decide, by decide⟩, .inl ⟨by decide, by decide⟩, ?_⟩
  rw [show (1 : Int) / 1 * p = p by rw [Int.ediv_one, Int.one_mul]]
  exact q
theorem w_least_common : ∀ vs H Q X, C_least_common vs H Q X → wpFn Φi f_least_common vs H Q X := by
  intro vs H Q X h
  refine fn_of (by cases h <;> rfl) ?_
  rcases h with ⟨i, hl, q⟩ | ⟨i, p, hl, h1, h2, q⟩
  · change wpSs Φi f_least_common.body [some (.ref i), none, none, none, none, none] H _ _
    refine zs_cons ?_
    generalize hK : sqX Φi (_ :: _) = K
    simp_arith only [X_lit]
    subst hK
    refine zs_cons ?_
    generalize hK : sqX Φi (_ :: _) = K
    simp_arith only [hl]
    rw [foX_cons]
    refine lc_step (by decide) (by decide) ⟨hl, ?_⟩
    rw [foX_nil]
    subst hK
    exact q
  · change wpSs Φi f_least_common.body [some (.ref i), none, none, none, none, none] H _ _
    refine zs_cons ?_
    generalize hK : sqX Φi (_ :: _) = K
    simp_arith only [X_lit]
    subst hK
    refine zs_cons ?_
    generalize hK : sqX Φi (_ :: _) = K
    simp_arith only [hl]
    rw [foX_cons]
    refine lc_step (by decide) (by decide) ⟨hl, ?_⟩
    rw [foX_cons]
    refine lc_step h1 h2 ⟨hl, ?_⟩
    rw [foX_nil]
    subst hK
    exact q
noncomputable def Φj : Orc := ext "least_common" C_least_common Φi
end Mine
namespace Mine
open PySem
structure Prs where
  nm : Str
  fr : List Pl
  bu : List Pl
noncomputable def Prs.fine (p : Prs) : Prop := (∀ r ∈ p.fr, r.fine) ∧ ∀ r ∈ p.bu, r.fine
noncomputable def freeAt (p : Prs) (x : Int) : Bool := (p.fr.any fun r => cov r x) && !p.bu.any fun r => cov r x
structure Mtg where
  no : Int
  hr : Int
  sz : Int
  who : List Str
noncomputable def mtv (m : Mtg) : V := .tup [.int m.no, .int m.hr, .int m.sz, .tup (m.who.map V.str)]
noncomputable def meets (b : Int) (hs : List Mtg) (nm : Str) (x : Int) : Bool := hs.any fun m => decide (m.no ≠ b) && (m.who.contains nm && (decide (m.hr ≤ x) && decide (x < m.hr + m.sz)))
noncomputable def fre (b : Int) (hs : List Mtg) (p : Prs) (x : Int) : Bool := !decide (x < 0) && (!meets b hs p.nm x && freeAt p x)
structure Fr (F : List Nat) (H H' : Hp) : Prop where
  keep : ∀ i o, i ∉ F → H[i]? = some o → H'[i]? = some o
  len : H.length ≤ H'.length
theorem get_lt {H : Hp} {i : Nat} {o : O} (h : H[i]? = some o) : i < H.length := (List.getElem?_eq_some_iff.mp h).1
theorem get_pre {H H' : Hp} {i : Nat} {o : O} (p : H <+: H') (h : H[i]? = some o) : H'[i]? = some o := by
  obtain ⟨Δ, rfl⟩ := p
  rw [List.getElem?_append_left (get_lt h), h]
theorem Fr.pre {F : List Nat} {H H' : Hp} (p : H <+: H') : Fr F H H' := ⟨fun _ _ _ h => get_pre p h, p.length_le⟩
theorem Fr.refl {F : List Nat} {H : Hp} : Fr F H H := ⟨fun _ _ _ h => h, Nat.le_refl _⟩
theorem Fr.trans {F G : List Nat} {H H1 H2 : Hp} (a : Fr F H H1) (b : Fr G H1 H2) (hs : ∀ i ∈ G, i ∈ F ∨ H.length ≤ i) : Fr F H H2 := ⟨fun i o hi h => by
  refine b.keep i o (fun hg => ?_) (a.keep i o hi h)
  rcases hs i hg with q | q
  · exact hi q
  · have := get_lt h; lia, Nat.le_trans a.len b.len⟩
theorem Fr.mono {F G : List Nat} {H H' : Hp} (a : Fr F H H') (hs : ∀ i ∈ F, i ∈ G ∨ H.length ≤ i) : Fr G H H' := Fr.trans Fr.refl a hs
theorem Fr.set {H : Hp} {n : Nat} {o : O} : Fr [n] H (H.set n o) := ⟨fun i o' hi h => by
  rw [List.getElem?_set_ne (fun q => hi (by rw [q]; exact .head _)), h], by rw [List.length_set]; exact Nat.le_refl _⟩
theorem nin1 {i x : Nat} (h : i ≠ x) : i ∉ [x] := fun q => h (List.mem_singleton.mp q)
theorem Fr.list {F : List Nat} {H H' : Hp} {i : Nat} {l : List V} (f : Fr F H H') (hi : i ∉ F) (h : listAt H i = some l) : listAt H' i = some l := by
  refine e1_2 (Option.bind_eq_some_iff.mp h) fun o e h => ?_
  unfold listAt; rw [f.keep i o hi e]; exact h
theorem Fr.dict {F : List Nat} {H H' : Hp} {i : Nat} {l : List (Str × V)} (f : Fr F H H') (hi : i ∉ F) (h : dictAt H i = some l) : dictAt H' i = some l := by
  refine e1_2 (Option.bind_eq_some_iff.mp h) fun o e h => ?_
  unfold dictAt; rw [f.keep i o hi e]; exact h
theorem Fr.ns {F : List Nat} {H H' : Hp} {i : Nat} {l : Nat × List (Str × V)} (f : Fr F H H') (hi : i ∉ F) (hj : l.1 ∉ F) (h : nsAt H i = some l) : nsAt H' i = some l := by
  refine e1_2 (Option.bind_eq_some_iff.mp h) fun j h1 h => ?_
  refine e1_2 (Option.map_eq_some_iff.mp h) fun fs h2 e_321 => ?_
  obtain rfl := e_321
  refine e1_2 (Option.bind_eq_some_iff.mp h1) fun o e1 h1 => ?_
  refine e1_2 (Option.bind_eq_some_iff.mp h2) fun o2 e2 h2 => ?_
  unfold nsAt
  rw [f.keep _ _ hi e1, Option.bind_some, h1, Option.bind_some, f.keep _ _ hj e2, Option.bind_some, h2]; rfl
theorem listAt_lt {H : Hp} {i : Nat} {l : List V} (h : listAt H i = some l) : i < H.length := by
  refine e1_2 (Option.bind_eq_some_iff.mp h) fun o e _ => ?_
  exact get_lt e
noncomputable def RlAt (H : Hp) (es : List (Str × V)) (f : Prs → List Pl) : List Prs → List Nat → Prop
  | [], is => is = []
  | p :: ps, is => ∃ i js, is = i :: js ∧ es.lookup p.nm = some (.ref i) ∧ listAt H i = some ((f p).map pv) ∧ RlAt H es f ps js
theorem RlAt.fr {F : List Nat} {H H' : Hp} {es : List (Str × V)} {f : Prs → List Pl} (g : Fr F H H') : ∀ {ps : List Prs} {is : List Nat}, (∀ i ∈ is, i ∉ F) → RlAt H es f ps is → RlAt H' es f ps is
  | [], _, _, h => h
  | _ :: _, _, hd, ⟨i, js, e, h1, h2, r⟩ => ⟨i, js, e, h1, g.list (hd i (by rw [e]; exact .head _)) h2, r.fr g fun k hk => hd k (by rw [e]; exact .tail _ hk)⟩
theorem RlAt.get {H : Hp} {es : List (Str × V)} {f : Prs → List Pl} {p : Prs} : ∀ {ps : List Prs} {is : List Nat}, RlAt H es f ps is → p ∈ ps → ∃ i, es.lookup p.nm = some (.ref i) ∧ listAt H i = some ((f p).map pv) ∧ i ∈ is
  | [], _, _, h => nomatch h
  | a :: ps, _, ⟨i, js, e, h1, h2, r⟩, h => by
    rcases List.mem_cons.mp h with q | q
    · rw [q, e]; exact ⟨i, h1, h2, .head _⟩
    · refine e1_3 (r.get q) fun k k1 k2 k3 => ?_
      exact ⟨k, k1, k2, by rw [e]; exact .tail _ k3⟩
structure Bk where
  b : Nat
  j : Nat
  n : Nat
  h : Nat
  d : Nat
  e : Nat
  fs : List (Str × V)
  es : List (Str × V)
  us : List (Str × V)
  fl : List Nat
  ul : List Nat
  g : Int
  c : Nat
noncomputable def Bk.foot (k : Bk) : List Nat := k.b :: k.j :: k.n :: k.h :: k.d :: k.e :: (k.fl ++ k.ul)
structure BkAt (H : Hp) (k : Bk) (ps : List Prs) (hs : List Mtg) : Prop where
  nd : k.foot.Nodup
  ns : nsAt H k.b = some (k.j, k.fs)
  fN : k.fs.lookup (Str.ofString "names") = some (.ref k.n)
  fH : k.fs.lookup (Str.ofString "held") = some (.ref k.h)
  fF : k.fs.lookup (Str.ofString "free_rules") = some (.ref k.d)
  fB : k.fs.lookup (Str.ofString "busy_rules") = some (.ref k.e)
  fG : k.fs.lookup (Str.ofString "given") = some (.int k.g)
  ln : listAt H k.n = some (ps.map fun p => .str p.nm)
  lh : listAt H k.h = some (hs.map mtv)
  dd : dictAt H k.d = some k.es
  de : dictAt H k.e = some k.us
  rf : RlAt H k.es Prs.fr ps k.fl
  ru : RlAt H k.us Prs.bu ps k.ul
  g0 : 0 ≤ k.g
  no : ∀ m ∈ hs, 0 < m.no ∧ m.no ≤ k.g
  nu : (hs.map Mtg.no).Nodup
  z : k.fs.length ≤ k.c
  ze : k.es.length = ps.length
  zu : k.us.length = ps.length
section
variable {k : Bk}
theorem ft_b : k.b ∈ k.foot := .head _
theorem ft_j : k.j ∈ k.foot := .tail _ (.head _)
theorem ft_n : k.n ∈ k.foot := .tail _ (.tail _ (.head _))
theorem ft_h : k.h ∈ k.foot := .tail _ (.tail _ (.tail _ (.head _)))
theorem ft_d : k.d ∈ k.foot := .tail _ (.tail _ (.tail _ (.tail _ (.head _))))
theorem ft_e : k.e ∈ k.foot := .tail _ (.tail _ (.tail _ (.tail _ (.tail _ (.head _)))))
theorem ft_l {i : Nat} (h : i ∈ k.fl ++ k.ul) : i ∈ k.foot := .tail _ (.tail _ (.tail _ (.tail _ (.tail _ (.tail _ h)))))
theorem ft_fl {i : Nat} (h : i ∈ k.fl) : i ∈ k.foot := ft_l (List.mem_append_left _ h)
theorem ft_ul {i : Nat} (h : i ∈ k.ul) : i ∈ k.foot := ft_l (List.mem_append_right _ h)
theorem BkAt.fr {F : List Nat} {H H' : Hp} {ps : List Prs} {hs : List Mtg} (B : BkAt H k ps hs) (f : Fr F H H') (hd : ∀ i ∈ k.foot, i ∉ F) : BkAt H' k ps hs :=
  ⟨B.nd, f.ns (hd _ ft_b) (hd _ ft_j) B.ns, B.fN, B.fH, B.fF, B.fB, B.fG, f.list (hd _ ft_n) B.ln, f.list (hd _ ft_h) B.lh, f.dict (hd _ ft_d) B.dd, f.dict (hd _ ft_e) B.de, B.rf.fr f fun i hi => hd i (ft_fl hi), B.ru.fr f fun i hi => hd i (ft_ul hi), B.g0, B.no, B.nu, B.z, B.ze, B.zu⟩
theorem BkAt.pre {H H' : Hp} {ps : List Prs} {hs : List Mtg} (p : H <+: H') (B : BkAt H k ps hs) : BkAt H' k ps hs := B.fr (F := []) (Fr.pre p) fun _ _ h => nomatch h
end
theorem eqv_str (a b : Str) : PyData.eqv (.str a) (.str b) = (a == b) := rfl
theorem toPys_strs : ∀ xs : List Str, toPys (xs.map V.str) = some (xs.map PyData.str)
  | [] => rfl
  | d :: r => by
    show ((toPys (r.map V.str)).map _) = _
    rw [toPys_strs r]; rfl
theorem any_strs (x : Str) : ∀ xs : List Str, ((xs.map PyData.str).any fun e => PyData.eqv e (.str x)) = xs.contains x
  | [] => rfl
  | d :: r => by
    rw [List.map_cons, List.any_cons, any_strs x r, eqv_str, List.contains_cons]
    congr 1
    rw [Bool.eq_iff_iff, beq_iff_eq, beq_iff_eq]; exact eq_comm
theorem mem_strs {x : Str} {xs : List Str} : memV (.str x) (xs.map V.str) = some (xs.contains x) := by
  unfold memV
  rw [toPys_strs]
  show (if (PyData.str x).depth ≤ 60 then some ((xs.map PyData.str).any fun e => PyData.eqv e (.str x)) else none) = _
  rw [if_pos (Nat.le_of_ble_eq_true rfl), any_strs]
theorem nm_map (ps : List Prs) : (ps.map fun p => V.str p.nm) = (ps.map Prs.nm).map V.str := by rw [List.map_map]; rfl
noncomputable def inB (v : V) (xs : List Str) : Bool := match v with
  | .str x => xs.contains x
  | _ => false
theorem mem_smp {v : V} (h : smp v = true) : ∀ xs : List Str, memV v (xs.map V.str) = some (inB v xs) := fun xs => by
  have no : ∀ d : PyData, (∀ a, PyData.eqv (.str a) d = false) → ((xs.map PyData.str).any fun e => PyData.eqv e d) = false := fun d hd => by
    rw [List.any_map, List.any_eq_false]
    intro x _
    show ¬ PyData.eqv (.str x) d = true
    rw [hd]; exact Bool.false_ne_true
  cases v with
  | str x => exact mem_strs
  | int i => unfold memV; rw [toPys_strs]; show (if (PyData.int i).depth ≤ 60 then some _ else none) = _; rw [if_pos (Nat.le_of_ble_eq_true rfl), no _ fun a => rfl]; rfl
  | bool b => unfold memV; rw [toPys_strs]; show (if (PyData.bool b).depth ≤ 60 then some _ else none) = _; rw [if_pos (Nat.le_of_ble_eq_true rfl), no _ fun a => rfl]; rfl
  | none => unfold memV; rw [toPys_strs]; show (if (PyData.none).depth ≤ 60 then some _ else none) = _; rw [if_pos (Nat.le_of_ble_eq_true rfl), no _ fun a => rfl]; rfl
  | _ => exact Bool.noConfusion h
inductive IC_need_somebody (H : Hp) (Q : V → Hp → Prop) (X : XL) : List V → Prop where
  | mk (k : Bk) (ps : List Prs) (hs : List Mtg) (v : V) : BkAt H k ps hs → smp v = true → (inB v (ps.map Prs.nm) = true → Q .none H) → (inB v (ps.map Prs.nm) = false → X (xc "Stranger") H) → IC_need_somebody H Q X [.ref k.b, v]
noncomputable def C_need_somebody : Ctr := fun vs H Q X => IC_need_somebody H Q X vs
theorem w_need_somebody : ∀ vs H Q X, C_need_somebody vs H Q X → wpFn Φj f_B_need_somebody vs H Q X := by
  rintro vs H Q X ⟨k, ps, hs, v, B, hv, q1, q2⟩
  refine fn_of rfl ?_
  have h3 := B.ln
  rw [nm_map] at h3
  change wpSs Φj f_B_need_somebody.body [some (.ref k.b), some v, none, none, none] H _ _
  refine zs_cons ?_
  generalize hK : sqX Φj [] = K
  simp_arith only [B.ns, B.fN, h3, mem_smp hv]
  subst hK
  cases e : inB v (ps.map Prs.nm) with
  | true => exact q1 e
  | false => exact q2 e
noncomputable def Ψ1 : Orc := ext (Str.ofString "Book." ++ Str.ofString "need_somebody") C_need_somebody Φj
inductive IC_meets_at (H : Hp) (Q : V → Hp → Prop) : List V → Prop where
  | mk (k : Bk) (ps : List Prs) (hs : List Mtg) (nm : Str) (x : Int) (b : Int) : (BkAt H k ps hs) → (Q (.bool (meets b hs nm x)) H) → IC_meets_at H Q ([.ref k.b, .str nm, .int x, .int b])
noncomputable def C_meets_at : Ctr := fun vs H Q _ => IC_meets_at H Q vs
noncomputable abbrev maB : List IS := bdy (f_B_meets_at.body.getD 0 .fail)
theorem ma_loop {XF : XS} {v0 : V} {nm : Str} {x b : Int} {t5 t6 t7 : Option V} {H : Hp} {Q : QS} {st : Hp → Prop} (hst : st H) : ∀ (hs : List Mtg) (t4 : Option V), (meets b hs nm x = true → ∀ L', Q (.ret (.bool true)) L' H) → (meets b hs nm x = false → ∀ L', Q .next L' H) →
    forGo (whBX Ψ1 maB XF) st 4 (hs.map mtv) [some v0, some (.str nm), some (.int x), some (.int b), t4, t5, t6, t7] H Q := by
  intro hs
  induction hs with
  | nil => intro t4 _ q; exact q rfl _
  | cons m hs ih =>
    intro t4 q1 q2
    rw [List.map_cons, foX_cons]
    have e : meets b (m :: hs) nm x = ((decide (m.no ≠ b) && (m.who.contains nm && (decide (m.hr ≤ x) && decide (x < m.hr + m.sz)))) || meets b hs nm x) := List.any_cons
    rw [e] at q1 q2
    have nx : (decide (m.no ≠ b) && (m.who.contains nm && (decide (m.hr ≤ x) && decide (x < m.hr + m.sz)))) = false → st H ∧ forGo (whBX Ψ1 maB XF) st 4 (hs.map mtv) [some v0, some (.str nm), some (.int x), some (.int b), some (mtv m), t5, t6, t7] H Q := fun h => by
      rw [h, Bool.false_or] at q1 q2
      exact ⟨hst, ih _ q1 q2⟩
    rw [show mtv m = V.tup [.int m.no, .int m.hr, .int m.sz, .tup (m.who.map V.str)] from rfl] at nx ⊢
    refine zs_cons ?_
    simp_arith only [mem_strs]
    refine ⟨fun hm => iX_b (fun hw => ?_) (fun hw => nx (by rw [hw, Bool.false_and, Bool.and_false])), fun h => nx (by rw [decide_eq_false h]; rfl)⟩
    refine ⟨fun h1 => ⟨fun h2 => q1 (by rw [decide_eq_true hm, hw, decide_eq_true h1, decide_eq_true h2]; rfl) _, fun h2 => nx (by rw [hw, decide_eq_true h1, decide_eq_false h2, decide_eq_true hm]; rfl)⟩, fun h1 => ?_⟩
    exact ⟨fun h => absurd h h1, fun _ => nx (by rw [hw, decide_eq_false h1, decide_eq_true hm]; rfl)⟩
theorem w_meets_at : ∀ vs H Q X, C_meets_at vs H Q X → wpFn Ψ1 f_B_meets_at vs H Q X := by
  rintro vs H Q X ⟨k, ps, hs, nm, x, b, B, q⟩
  refine fn_of rfl ?_
  change wpSs Ψ1 f_B_meets_at.body [some (.ref k.b), some (.str nm), some (.int x), some (.int b), none, none, none, none] H _ _
  refine zs_cons ?_
  generalize hK : sqX Ψ1 (_ :: _) = K
  have hl := B.lh
  simp_arith only [B.ns, B.fH, hl]
  subst hK
  refine ma_loop hl hs _ (fun h L' => ?_) (fun h L' => ?_)
  · rw [h] at q; exact q
  · rw [h] at q; exact q
noncomputable def Ψ2 : Orc := ext (Str.ofString "Book." ++ Str.ofString "meets_at") C_meets_at Ψ1
theorem P2_ma : Ψ2 (Str.ofString "Book." ++ Str.ofString "meets_at") = C_meets_at := rfl
theorem P2_sc : Ψ2 "some_covers" = C_some_covers := rfl
inductive IC_free_at (H : Hp) (Q : V → Hp → Prop) : List V → Prop where
  | mk (k : Bk) (ps : List Prs) (hs : List Mtg) (p : Prs) (x : Int) (b : Int) : (BkAt H k ps hs) → (p ∈ ps) → (p.fine) → (Q (.bool (fre b hs p x)) H) → IC_free_at H Q ([.ref k.b, .str p.nm, .int x, .int b])
noncomputable def C_free_at : Ctr := fun vs H Q _ => IC_free_at H Q vs
theorem w_free_at : ∀ vs H Q X, C_free_at vs H Q X → wpFn Ψ2 f_B_free_at vs H Q X := by
  rintro vs H Q X ⟨k, ps, hs, p, x, b, B, hp, hf, q⟩
  refine fn_of rfl ?_
  refine e1_3 (B.rf.get hp) fun i k1 k2 _ => ?_
  refine e1_3 (B.ru.get hp) fun i' k1' k2' _ => ?_
  change wpSs Ψ2 f_B_free_at.body [some (.ref k.b), some (.str p.nm), some (.int x), some (.int b), none, none, none] H _ _
  refine zs_cons ?_
  generalize hK : sqX Ψ2 (_ :: _) = K
  unfold fre at q
  simp_arith only [B.ns, ↓P2_ma]
  refine ⟨fun h => ?_, fun h => ⟨k, ps, hs, p.nm, x, b, B, ?_⟩⟩
  · rw [decide_eq_true h] at q; subst hK; exact q
  rw [decide_eq_false h] at q
  simp_arith only [X_lit]
  refine iX_b (fun hm => ?_) (fun hm => ?_)
  · rw [hm] at q; subst hK; exact q
  rw [hm] at q
  subst hK
  have h0 : 0 ≤ x := by lia
  simp_arith only [B.ns, B.fF, B.dd, k1, B.fB, B.de, k1', ↓P2_sc]
  refine ⟨i, p.fr, x, k2, hf.1, h0, ?_⟩
  simp_arith only [X_lit]
  have q : Q (.bool (freeAt p x)) H := q
  unfold freeAt at q
  refine iX_b (fun h => ?_) (fun h => ?_)
  · simp_arith only [B.ns, B.fB, B.de, k1', ↓P2_sc]
    refine ⟨i', p.bu, x, k2', hf.2, h0, ?_⟩
    rw [h, Bool.true_and] at q; exact q
  · rw [h, Bool.false_and] at q; rw [h]; exact q
noncomputable def Ψ3 : Orc := ext (Str.ofString "Book." ++ Str.ofString "free_at") C_free_at Ψ2
theorem P3_ns : Ψ3 (Str.ofString "Book." ++ Str.ofString "need_somebody") = C_need_somebody := rfl
theorem strsOf_strs : ∀ xs : List Str, strsOf (xs.map V.str) = some xs
  | [] => rfl
  | x :: r => by
    show ((strsOf (r.map V.str)).map _) = _
    rw [strsOf_strs r]; rfl
noncomputable def needR (nms xs : List Str) : Option Str := if xs.isEmpty || !xs.all nms.contains then some "Stranger" else if xs.any fun x => decide (1 < xs.count x) then some "Twice" else none
inductive IC_need_all (H : Hp) (Q : V → Hp → Prop) (X : XL) : List V → Prop where
  | mk (k : Bk) (n : Nat) (ps : List Prs) (hs : List Mtg) (xs : List Str) : BkAt H k ps hs → listAt H n = some (xs.map V.str) → (needR (ps.map Prs.nm) xs = none → Q .none H) → (∀ c, needR (ps.map Prs.nm) xs = some c → X (xc c) H) → IC_need_all H Q X [.ref k.b, .ref n]
noncomputable def C_need_all : Ctr := fun vs H Q X => IC_need_all H Q X vs
theorem na1_loop {XF : XS} {k : Bk} {n : Nat} {ps : List Prs} {hs : List Mtg} {t3 t4 t5 : Option V} {H : Hp} {Q : QS} {st : Hp → Prop} (hst : st H) (B : BkAt H k ps hs) : ∀ (xs : List Str) (t2 : Option V),
    (xs.all (ps.map Prs.nm).contains = true → ∀ t2', Q .next [some (.ref k.b), some (.ref n), t2', t3, t4, t5] H) → (xs.all (ps.map Prs.nm).contains = false → ∀ L', XF (xc "Stranger") L' H) →
    forGo (whBX Ψ3 [(.expr (.mcall (.loc 0) "need_somebody" [(.loc 2)]))] XF) st 2 (xs.map V.str) [some (.ref k.b), some (.ref n), t2, t3, t4, t5] H Q := by
  intro xs
  induction xs with
  | nil => intro t2 q _; exact q rfl _
  | cons x xs ih =>
    intro t2 q1 q2
    rw [List.map_cons, foX_cons]
    rw [List.all_cons] at q1 q2
    simp_arith only [B.ns, ↓P3_ns]
    refine ⟨k, ps, hs, .str x, B, rfl, fun e => ?_, fun e => ?_⟩
    · rw [show (ps.map Prs.nm).contains x = true from e, Bool.true_and] at q1 q2
      exact ⟨hst, ih _ q1 q2⟩
    · rw [show (ps.map Prs.nm).contains x = false from e] at q2
      exact q2 rfl _
theorem na2_loop {XF : XS} {b n : Nat} {ys : List Str} {t3 t4 t5 : Option V} {H : Hp} {Q : QS} {st : Hp → Prop} (hst : st H) (hl : listAt H n = some (ys.map V.str)) : ∀ (xs : List Str) (t2 : Option V), ((xs.any fun x => decide (1 < ys.count x)) = false → ∀ L', Q .next L' H) → ((xs.any fun x => decide (1 < ys.count x)) = true → ∀ L', XF (xc "Twice") L' H) →
    forGo (whBX Ψ3 [(.ite (.cmp (.meth (.loc 1) .count [(.loc 2)]) .Gt (.lit (.int 1))) [(.raise "Twice" ["Twice", "HourError", "ValueError"])] [])] XF) st 2 (xs.map V.str) [some (.ref b), some (.ref n), t2, t3, t4, t5] H Q := by
  intro xs
  induction xs with
  | nil => intro t2 q _; exact q rfl _
  | cons x xs ih =>
    intro t2 q1 q2
    rw [List.map_cons, foX_cons]
    rw [List.any_cons] at q1 q2
    simp_arith only [↓sV_str, ↓q_lenstr, ↓q_sstr, ↓q_ins, ↓q_nins, ↓u_str, ↓q_adds, hl, strsOf_strs]
    refine ⟨⟨_, hl⟩, fun h => ?_, fun h => ?_⟩
    · exact q2 (by rw [decide_eq_true (by lia)]; rfl) _
    · rw [decide_eq_false (by lia), Bool.false_or] at q1 q2
      exact ⟨hst, ih _ q1 q2⟩
theorem w_need_all : ∀ vs H Q X, C_need_all vs H Q X → wpFn Ψ3 f_B_need_all vs H Q X := by
  rintro vs H Q X ⟨k, n, ps, hs, xs, B, hl, q1, q2⟩
  refine fn_of rfl ?_
  change wpSs Ψ3 f_B_need_all.body [some (.ref k.b), some (.ref n), none, none, none, none] H _ _
  unfold needR at q1 q2
  refine zs_cons ?_
  generalize hK : sqX Ψ3 (_ :: _) = K
  simp_arith only [hl]
  rw [List.length_map]
  refine ⟨fun h => ?_, fun h => ?_⟩
  · have : xs = [] := List.length_eq_zero_iff.mp (by lia)
    subst this
    exact q2 _ rfl
  have hne : xs.isEmpty = false := by
    cases xs with
    | nil => exact absurd rfl h
    | cons _ _ => rfl
  rw [hne, Bool.false_or] at q1 q2
  subst hK
  refine zs_cons ?_
  generalize hK : sqX Ψ3 (_ :: _) = K
  simp_arith only [hl]
  subst hK
  refine na1_loop hl B xs _ (fun e t2' => ?_) (fun e L' => ?_)
  · rw [e] at q1 q2
    refine zs_cons ?_
    generalize hK : sqX Ψ3 [] = K
    simp_arith only [hl]
    subst hK
    refine na2_loop hl hl xs _ (fun e2 L' => ?_) (fun e2 L' => ?_)
    · rw [e2] at q1; exact q1 rfl
    · rw [e2] at q2; exact q2 _ rfl
  · rw [e] at q2; exact q2 _ rfl
noncomputable def Ψ4 : Orc := ext (Str.ofString "Book." ++ Str.ofString "need_all") C_need_all Ψ3
theorem P4_fa : Ψ4 (Str.ofString "Book." ++ Str.ofString "free_at") = C_free_at := rfl
theorem P4_ns : Ψ4 (Str.ofString "Book." ++ Str.ofString "need_somebody") = C_need_somebody := rfl
inductive IC_is_free (H : Hp) (Q : V → Hp → Prop) (X : XL) : List V → Prop where
  | mk (k : Bk) (ps : List Prs) (hs : List Mtg) (v : V) (x : Int) : BkAt H k ps hs → smp v = true → (∀ p ∈ ps, v = .str p.nm → p.fine ∧ Q (.bool (fre 0 hs p x)) H) → (inB v (ps.map Prs.nm) = false → X (xc "Stranger") H) → IC_is_free H Q X [.ref k.b, v, .int x]
noncomputable def C_is_free : Ctr := fun vs H Q X => IC_is_free H Q X vs
theorem w_is_free : ∀ vs H Q X, C_is_free vs H Q X → wpFn Ψ4 f_B_is_free vs H Q X := by
  rintro vs H Q X ⟨k, ps, hs, v, x, B, hv, q1, q2⟩
  refine fn_of rfl ?_
  change wpSs Ψ4 f_B_is_free.body [some (.ref k.b), some v, some (.int x), none, none, none] H _ _
  refine zs_cons ?_
  generalize hK : sqX Ψ4 (_ :: _) = K
  simp_arith only [B.ns, ↓P4_ns]
  refine ⟨k, ps, hs, v, B, hv, fun e => ?_, fun e => q2 e⟩
  subst hK
  refine zs_cons ?_
  simp_arith only [B.ns, ↓P4_fa]
  have he : ∃ p ∈ ps, v = .str p.nm := by
    cases v with
    | str y =>
      refine e1_2 (List.mem_map.mp (List.contains_iff_mem.mp (show (ps.map Prs.nm).contains y = true from e))) fun p hp e_322 => ?_
      obtain rfl := e_322
      exact ⟨p, hp, rfl⟩
    | _ => exact Bool.noConfusion e
  refine e1_2 he fun p hp e_323 => ?_
  obtain rfl := e_323
  exact ⟨k, ps, hs, p, x, 0, B, hp, (q1 p hp rfl).1, (q1 p hp rfl).2⟩
noncomputable def Ψ5 : Orc := ext (Str.ofString "Book." ++ Str.ofString "is_free") C_is_free Ψ4
noncomputable def C_people : Ctr := fun vs H Q _ => ∃ (k : Bk) (ps : List Prs) (hs : List Mtg), vs = [.ref k.b] ∧ BkAt H k ps hs ∧ Q (.ref H.length) (H ++ [.list ((ps.map Prs.nm).map V.str)])
theorem w_people : ∀ vs H Q X, C_people vs H Q X → wpFn Ψ5 f_B_people vs H Q X := by
  rintro vs H Q X ⟨k, ps, hs, rfl, B, q⟩
  refine fn_of rfl ?_
  change wpSs Ψ5 f_B_people.body [some (.ref k.b), none, none, none] H _ _
  have h3 := B.ln
  rw [nm_map] at h3
  refine zs_cons ?_
  simp_arith only [B.ns, B.fN, h3]
  exact q
noncomputable def Ψ6 : Orc := ext (Str.ofString "Book." ++ Str.ofString "people") C_people Ψ5
noncomputable def C_meetings : Ctr := fun vs H Q _ => ∃ (k : Bk) (ps : List Prs) (hs : List Mtg), vs = [.ref k.b] ∧ BkAt H k ps hs ∧ Q (.ref H.length) (H ++ [.list (hs.map mtv)])
theorem w_meetings : ∀ vs H Q X, C_meetings vs H Q X → wpFn Ψ6 f_B_meetings vs H Q X := by
  rintro vs H Q X ⟨k, ps, hs, rfl, B, q⟩
  refine fn_of rfl ?_
  change wpSs Ψ6 f_B_meetings.body [some (.ref k.b), none, none, none] H _ _
  have h3 := B.lh
  refine zs_cons ?_
  simp_arith only [B.ns, B.fH, h3]
  exact q
noncomputable def Ψ7 : Orc := ext (Str.ofString "Book." ++ Str.ofString "meetings") C_meetings Ψ6
end Mine
namespace Mine
open PySem
noncomputable abbrev nmL (qs : List Prs) : List V := qs.map fun p => .str p.nm
structure Fre (ps : List Prs) (hs : List Mtg) (qs : List Prs) (hours a b : Int) : Prop where
  sub : ∀ q ∈ qs, q ∈ ps ∧ q.fine
  hh : sizeOk1 hours
  fr : ∀ q ∈ qs, ∀ y, a ≤ y → y < a + hours → fre b hs q y = true
inductive IC_bar (H : Hp) (Q : V → Hp → Prop) : List V → Prop where
  | mk (k : Bk) (n : Nat) (ps : List Prs) (hs : List Mtg) (qs : List Prs) (hours a b : Int) : BkAt H k ps hs → listAt H n = some (nmL qs) → Fre ps hs qs hours a b → Q .none H → IC_bar H Q [.ref k.b, .ref n, .int hours, .int a, .int b]
noncomputable def C_bar : Ctr := fun vs H Q _ => IC_bar H Q vs
theorem P7_fa : Ψ7 (Str.ofString "Book." ++ Str.ofString "free_at") = C_free_at := rfl
noncomputable abbrev baB : List IS := [(.ite (.not (.mcall (.loc 0) "free_at" [(.loc 7), (.loc 6), (.loc 4)])) [(.ret (.tup [(.loc 7), (.loc 6)]))] [])]
theorem ba_in {XF : XS} {k : Bk} {ps : List Prs} {hs : List Mtg} {x b : Int} {v1 v2 v3 : V} {t5 t8 t9 t10 : Option V} {H : Hp} {Q : QS} {st : Hp → Prop} (hst : st H) (B : BkAt H k ps hs) : ∀ (qs : List Prs) (t7 : Option V), (∀ q ∈ qs, q ∈ ps ∧ q.fine ∧ fre b hs q x = true) →
    (∀ t7', Q .next [some (.ref k.b), some v1, some v2, some v3, some (.int b), t5, some (.int x), t7', t8, t9, t10] H) →
    forGo (whBX Ψ7 baB XF) st 7 (nmL qs) [some (.ref k.b), some v1, some v2, some v3, some (.int b), t5, some (.int x), t7, t8, t9, t10] H Q := by
  intro qs
  induction qs with
  | nil => intro t7 _ q; exact q _
  | cons p qs ih =>
    intro t7 hq q
    rw [nmL, List.map_cons, foX_cons]
    refine e0_3 (hq p List.mem_cons_self) fun h1 h2 h3 => ?_
    simp_arith only [B.ns, ↓P7_fa]
    refine ⟨k, ps, hs, p, x, b, B, h1, h2, ?_⟩
    rw [h3]
    exact ⟨hst, ih _ (fun q h => hq q (List.mem_cons_of_mem _ h)) q⟩
noncomputable abbrev boB : List IS := [(.assign 6 (.bin .Sub (.bin .Add (.loc 3) (.loc 2)) (.loc 5))), (.for 7 .val (.loc 1) baB)]
theorem ba_out {XF : XS} {k : Bk} {n : Nat} {ps qs : List Prs} {hs : List Mtg} {hours a b : Int} {t8 t9 t10 : Option V} {H : Hp} {Q : QS} (B : BkAt H k ps hs) (hl : listAt H n = some (nmL qs)) (F : Fre ps hs qs hours a b) : ∀ (ks : List Int) (t5 t6 t7 : Option V), (∀ j ∈ ks, 1 ≤ j ∧ j ≤ hours) → (∀ L', Q .next L' H) →
    forGo (whBX Ψ7 boB XF) (fun _ => True) 5 (ks.map V.int) [some (.ref k.b), some (.ref n), some (.int hours), some (.int a), some (.int b), t5, t6, t7, t8, t9, t10] H Q := by
  intro ks
  induction ks with
  | nil => intro t5 t6 t7 _ q; exact q _
  | cons j ks ih =>
    intro t5 t6 t7 hj q
    rw [List.map_cons, foX_cons]
    have hj0 := hj j List.mem_cons_self
    refine zs_cons ?_
    generalize hK : sqX Ψ7 (_ :: _) = K
    simp_arith only [X_lit]
    subst hK
    refine zs_cons ?_
    generalize hK : sqX Ψ7 [] = K
    simp_arith only [hl]
    subst hK
    exact ba_in hl B qs _ (fun q hq => ⟨(F.sub q hq).1, (F.sub q hq).2, F.fr q hq _ (by lia) (by lia)⟩) fun t7' => ⟨trivial, ih _ _ _ (fun i hi => hj i (List.mem_cons_of_mem _ hi)) q⟩
theorem w_bar : ∀ vs H Q X, C_bar vs H Q X → wpFn Ψ7 f_B_bar vs H Q X := by
  rintro vs H Q X ⟨k, n, ps, hs, qs, hours, a, b, B, hl, F, q⟩
  refine fn_of rfl ?_
  have e1 := F.hh.1
  have e2 := F.hh.2
  change wpSs Ψ7 f_B_bar.body [some (.ref k.b), some (.ref n), some (.int hours), some (.int a), some (.int b), none, none, none, none, none, none] H _ _
  refine zs_cons ?_
  generalize hK : sqX Ψ7 (_ :: _) = K
  simp_arith only [X_lit]
  refine ⟨⟨by lia, by lia⟩, ?_⟩
  rw [rangeL_J]
  subst hK
  exact ba_out B hl F _ _ _ _ (fun j hj => by have := mem_rangeJ.mp hj; lia) fun L' => q
noncomputable def Ψ8 : Orc := ext (Str.ofString "Book." ++ Str.ofString "bar") C_bar Ψ7
theorem P8_ba : Ψ8 (Str.ofString "Book." ++ Str.ofString "bar") = C_bar := rfl
inductive IC_look (H : Hp) (Q : V → Hp → Prop) : List V → Prop where
  | mk (k : Bk) (n : Nat) (ps : List Prs) (hs : List Mtg) (qs : List Prs) (hours lo last b : Int) : BkAt H k ps hs → listAt H n = some (nmL qs) → Fre ps hs qs hours lo b → lo ≤ last → Q (.tup [.int lo, .ref H.length]) (H ++ [.list []]) → IC_look H Q [.ref k.b, .ref n, .int hours, .int lo, .int last, .int b]
noncomputable def C_look : Ctr := fun vs H Q _ => IC_look H Q vs
noncomputable abbrev loT : IE := .cmp (.loc 3) .LtE (.loc 4)
noncomputable abbrev loB : List IS := bdy (f_B_look.body.getD 1 .fail)
theorem w_look : ∀ vs H Q X, C_look vs H Q X → wpFn Ψ8 f_B_look vs H Q X := by
  rintro vs H Q X ⟨k, n, ps, hs, qs, hours, lo, last, b, B, hl, F, h, q⟩
  refine fn_of rfl ?_
  change wpSs Ψ8 f_B_look.body [some (.ref k.b), some (.ref n), some (.int hours), some (.int lo), some (.int last), some (.int b), none, none, none, none, none] H _ _
  refine zs_cons ?_
  generalize hK : sqX Ψ8 (_ :: _) = K
  simp_arith only [X_lit]
  subst hK
  have B1 := B.pre (pre_new (o := .list []))
  have hl1 := listAt_pre (pre_new (o := .list [])) hl
  refine zs_cons ?_
  rw [Z_while]
  refine ⟨1, ?_⟩
  rw [whX_s]
  show ifP (decide (lo ≤ last)) _ _
  refine iX_p (fun _ => ?_) fun e => absurd h e
  refine zs_cons ?_
  generalize hK : sqX Ψ8 (_ :: _) = K
  simp_arith only [B1.ns, ↓P8_ba]
  refine ⟨k, n, ps, hs, qs, hours, lo, b, B1, hl1, F, ?_⟩
  subst hK
  refine zs_cons ?_
  generalize hK : sqX Ψ8 (_ :: _) = K
  simp_arith only [isNoneV]
  subst hK
  exact q
noncomputable def Ψ9 : Orc := ext (Str.ofString "Book." ++ Str.ofString "look") C_look Ψ8
theorem P9_na : Ψ9 (Str.ofString "Book." ++ Str.ofString "need_all") = C_need_all := rfl
theorem P9_ns : Ψ9 "need_stretch" = C_need_stretch := rfl
theorem P9_lo : Ψ9 (Str.ofString "Book." ++ Str.ofString "look") = C_look := rfl
noncomputable def firstR (nms xs : List Str) (h a b : V) : Option Str := match needR nms xs with
  | some c => some c
  | none => if strB h a b then none else some "NoTime"
structure Ok (ps : List Prs) (hs : List Mtg) (xs : List Str) (h a b : V) (qs : List Prs) (hours lo hi : Int) : Prop where
  eh : h = .int hours
  ea : a = .int lo
  eb : b = .int hi
  ex : xs = qs.map Prs.nm
  fre : Fre ps hs qs hours lo 0
  le : lo + hours ≤ hi
inductive IC_first (H : Hp) (Q : V → Hp → Prop) (X : XL) : List V → Prop where
  | mk (k : Bk) (n : Nat) (ps : List Prs) (hs : List Mtg) (xs : List Str) (h a b : V) : BkAt H k ps hs → listAt H n = some (xs.map V.str) → smp h = true → smp a = true → smp b = true → (∀ c, firstR (ps.map Prs.nm) xs h a b = some c → X (xc c) H) →
      (firstR (ps.map Prs.nm) xs h a b = none → ∃ qs hours lo hi, Ok ps hs xs h a b qs hours lo hi ∧ Q (.tup [.int lo, .ref H.length]) (H ++ [.list []])) → IC_first H Q X [.ref k.b, .ref n, h, a, b]
noncomputable def C_first : Ctr := fun vs H Q X => IC_first H Q X vs
theorem w_first : ∀ vs H Q X, C_first vs H Q X → wpFn Ψ9 f_B_first vs H Q X := by
  rintro vs H Q X ⟨k, n, ps, hs, xs, h, a, b, B, hl, sh, sa, sb, q1, q2⟩
  refine fn_of rfl ?_
  change wpSs Ψ9 f_B_first.body [some (.ref k.b), some (.ref n), some h, some a, some b, none, none, none] H _ _
  unfold firstR at q1 q2
  refine zs_cons ?_
  generalize hK : sqX Ψ9 (_ :: _) = K
  simp_arith only [B.ns, ↓P9_na]
  refine ⟨k, n, ps, hs, xs, B, hl, fun e => ?_, fun c e => q1 c (by rw [e])⟩
  rw [e] at q1 q2
  subst hK
  refine zs_cons ?_
  generalize hK : sqX Ψ9 (_ :: _) = K
  simp_arith only [↓P9_ns]
  refine ⟨h, a, b, sh, sa, sb, fun e => ?_, fun e => q1 _ (by rw [e]; rfl)⟩
  subst hK
  obtain ⟨qs, hours, lo, hi, O, q⟩ := q2 (by rw [e]; rfl)
  obtain ⟨rfl, rfl, rfl, rfl, F, le⟩ := O
  refine zs_cons ?_
  simp_arith only [B.ns, ↓P9_lo]
  exact ⟨k, n, ps, hs, qs, hours, lo, hi - hours, 0, B, by rw [hl, ← nm_map], F, by lia, q⟩
noncomputable def Ψa : Orc := ext (Str.ofString "Book." ++ Str.ofString "first") C_first Ψ9
theorem Pa_fi : Ψa (Str.ofString "Book." ++ Str.ofString "first") = C_first := rfl
structure BkNe (k : Bk) : Prop where
  bj : k.b ≠ k.j
  bn : k.b ≠ k.n
  bh : k.b ≠ k.h
  bd : k.b ≠ k.d
  be : k.b ≠ k.e
  jn : k.j ≠ k.n
  jh : k.j ≠ k.h
  jd : k.j ≠ k.d
  je : k.j ≠ k.e
  nh : k.n ≠ k.h
  nd : k.n ≠ k.d
  ne : k.n ≠ k.e
  hd : k.h ≠ k.d
  he : k.h ≠ k.e
  de : k.d ≠ k.e
  ls : ∀ i ∈ k.fl ++ k.ul, i ≠ k.b ∧ i ≠ k.j ∧ i ≠ k.n ∧ i ≠ k.h ∧ i ≠ k.d ∧ i ≠ k.e
  ll : (k.fl ++ k.ul).Nodup
theorem bkNe {k : Bk} (h : k.foot.Nodup) : BkNe k := by
  obtain ⟨h1, h⟩ := List.nodup_cons.mp h
  obtain ⟨h2, h⟩ := List.nodup_cons.mp h
  obtain ⟨h3, h⟩ := List.nodup_cons.mp h
  obtain ⟨h4, h⟩ := List.nodup_cons.mp h
  obtain ⟨h5, h⟩ := List.nodup_cons.mp h
  obtain ⟨h6, h⟩ := List.nodup_cons.mp h
  rw [List.mem_cons, List.mem_cons, List.mem_cons, List.mem_cons, List.mem_cons, not_or, not_or, not_or, not_or, not_or] at h1
  rw [List.mem_cons, List.mem_cons, List.mem_cons, List.mem_cons, not_or, not_or, not_or, not_or] at h2
  rw [List.mem_cons, List.mem_cons, List.mem_cons, not_or, not_or, not_or] at h3
  rw [List.mem_cons, List.mem_cons, not_or, not_or] at h4
  rw [List.mem_cons, not_or] at h5
  exact ⟨h1.1, h1.2.1, h1.2.2.1, h1.2.2.2.1, h1.2.2.2.2.1, h2.1, h2.2.1, h2.2.2.1, h2.2.2.2.1, h3.1, h3.2.1, h3.2.2.1, h4.1, h4.2.1, h5.1, fun i hi => ⟨fun q => h1.2.2.2.2.2 (q ▸ hi), fun q => h2.2.2.2.2 (q ▸ hi), fun q => h3.2.2.2 (q ▸ hi), fun q => h4.2.2 (q ▸ hi), fun q => h5.2 (q ▸ hi), fun q => h6 (q ▸ hi)⟩, h⟩
theorem nsAt_set {H : Hp} {b j : Nat} {fs gs : List (Str × V)} (h : nsAt H b = some (j, fs)) (hb : b ≠ j) : nsAt (H.set j (.ns gs)) b = some (j, gs) := by
  obtain ⟨h1, h2⟩ := nsAt_some h
  unfold nsAt
  rw [List.getElem?_set_ne (Ne.symm hb), h1]
  show (((H.set j (.ns gs))[j]?).bind nsO).map _ = _
  rw [List.getElem?_set_self (get_lt h2)]; rfl
theorem listAt_set {H : Hp} {n : Nat} {l m : List V} (h : listAt H n = some l) : listAt (H.set n (.list m)) n = some m := by
  refine e1_2 (Option.bind_eq_some_iff.mp h) fun o e _ => ?_
  unfold listAt
  rw [List.getElem?_set_self (get_lt e)]; rfl
theorem listAt_set_ne {H : Hp} {n m : Nat} {o : O} (h : n ≠ m) : listAt (H.set n o) m = listAt H m := by
  unfold listAt; rw [List.getElem?_set_ne h]
noncomputable def gN : Str := Str.ofString "given"
theorem lk_g {v : V} {fs : List (Str × V)} : List.lookup (Str.ofString "given") ((Str.ofString "given", v) :: fs) = some v := by rw [List.lookup_cons, beq_self_eq_true]
theorem lk_n {x : Str} {v : V} {fs : List (Str × V)} (h : (x == Str.ofString "given") = false) : List.lookup x ((Str.ofString "given", v) :: fs) = fs.lookup x := by rw [List.lookup_cons, h]
theorem g_n : (Str.ofString "names" == Str.ofString "given") = false := by decide
theorem g_h : (Str.ofString "held" == Str.ofString "given") = false := by decide
theorem g_f : (Str.ofString "free_rules" == Str.ofString "given") = false := by decide
theorem g_b : (Str.ofString "busy_rules" == Str.ofString "given") = false := by decide
inductive IC_meet (H : Hp) (Q : V → Hp → Prop) (X : XL) : List V → Prop where
  | mk (k : Bk) (n : Nat) (ps : List Prs) (hs : List Mtg) (xs : List Str) (h a b : V) : BkAt H k ps hs → listAt H n = some (xs.map V.str) → n ∉ k.foot → hs.length ≤ 1000 → k.c ≤ 1000 → smp h = true → smp a = true → smp b = true → (∀ c, firstR (ps.map Prs.nm) xs h a b = some c → X (xc c) H) →
      (firstR (ps.map Prs.nm) xs h a b = none → ∃ qs hours lo hi, Ok ps hs xs h a b qs hours lo hi ∧ ∀ (k' : Bk) (H' : Hp), Fr k.foot H H' → k'.foot = k.foot → k'.b = k.b → k'.g = k.g + 1 → k'.c = k.c + 1 → BkAt H' k' ps (hs ++ [⟨k.g + 1, lo, hours, xs⟩]) → Q (.tup [.int (k.g + 1), .int lo]) H') → IC_meet H Q X [.ref k.b, .ref n, h, a, b]
noncomputable def C_meet : Ctr := fun vs H Q X => IC_meet H Q X vs
theorem w_meet : ∀ vs H Q X, C_meet vs H Q X → wpFn Ψa f_B_meet vs H Q X := by
  rintro vs H Q X ⟨k, n, ps, hs, xs, h, a, b, B0, hl0, hn, hz, hc, sh, sa, sb, q1, q2⟩
  refine fn_of rfl ?_
  change wpSs Ψa f_B_meet.body [some (.ref k.b), some (.ref n), some h, some a, some b, none, none, none, none] H _ _
  refine zs_cons ?_
  generalize hK : sqX Ψa (_ :: _) = K
  simp_arith only [B0.ns, ↓Pa_fi]
  refine ⟨k, n, ps, hs, xs, h, a, b, B0, hl0, sh, sa, sb, fun c e => q1 c e, fun e => ?_⟩
  obtain ⟨qs, hours, a0, hi, O, q3⟩ := q2 e
  clear q2
  refine ⟨qs, hours, a0, hi, O, ?_⟩
  obtain ⟨rfl, rfl, rfl, rfl, F, le⟩ := O
  simp_arith only [X_lit]
  subst hK
  have B := B0.pre (pre_new (o := .list []))
  have hl := listAt_pre (pre_new (o := .list [])) hl0
  have fr1 : Fr k.foot H (H ++ [.list []]) := Fr.pre pre_new
  have p1 : H <+: H ++ [.list []] := pre_new
  generalize H ++ [O.list []] = H1 at *
  refine zs_cons ?_
  generalize hK : sqX Ψa (_ :: _) = K
  simp_arith only [isNoneV]
  subst hK
  have N := bkNe B.nd
  have hb := B.z
  refine zs_cons ?_
  generalize hK : sqX Ψa (_ :: _) = K
  simp_arith only [B.ns, B.fG]
  refine ⟨by lia, ?_⟩
  subst hK
  have ns2 := nsAt_set (gs := (Str.ofString "given", .int (k.g + 1)) :: k.fs) B.ns N.bj
  have f2 : Fr [k.j] H1 (H1.set k.j (.ns ((Str.ofString "given", .int (k.g + 1)) :: k.fs))) := Fr.set
  generalize hH2 : H1.set k.j (.ns ((Str.ofString "given", .int (k.g + 1)) :: k.fs)) = H2 at *
  have lh2 := f2.list (nin1 (Ne.symm N.jh)) B.lh
  have ln2 := f2.list (nin1 (fun q => hn (by rw [q]; exact ft_j))) hl
  refine zs_cons ?_
  generalize hK : sqX Ψa (_ :: _) = K
  simp_arith only [ns2, lk_n g_h, lk_g, B.fH, lh2, ln2]
  refine ⟨⟨_, lh2⟩, by rw [List.length_map]; lia, ?_⟩
  subst hK
  have f3 : Fr [k.h] H2 (H2.set k.h (.list (hs.map mtv ++ [.tup [.int (k.g + 1), .int a0, .int hours, .tup ((qs.map Prs.nm).map V.str)]]))) := Fr.set
  have ns3 := f3.ns (nin1 N.bh) (nin1 N.jh) ns2
  have lh3 : listAt (H2.set k.h (.list (hs.map mtv ++ [.tup [.int (k.g + 1), .int a0, .int hours, .tup ((qs.map Prs.nm).map V.str)]]))) k.h = some _ := listAt_set lh2
  generalize H2.set k.h (.list (hs.map mtv ++ [.tup [.int (k.g + 1), .int a0, .int hours, .tup ((qs.map Prs.nm).map V.str)]])) = H3 at *
  simp_arith only [ns3, lk_g]
  refine q3 { k with fs := (Str.ofString "given", .int (k.g + 1)) :: k.fs, g := k.g + 1, c := k.c + 1 } H3 ((fr1.trans f2 fun i hi => .inl (by rw [List.mem_singleton.mp hi]; exact ft_j)).trans f3 fun i hi => .inl (by rw [List.mem_singleton.mp hi]; exact ft_h)) rfl rfl rfl rfl ?_
  have tl : ∀ {i l}, i ≠ k.j → i ≠ k.h → listAt H1 i = some l → listAt H3 i = some l := fun h1 h2 h => f3.list (nin1 h2) (f2.list (nin1 h1) h)
  have td : ∀ {i l}, i ≠ k.j → i ≠ k.h → dictAt H1 i = some l → dictAt H3 i = some l := fun h1 h2 h => f3.dict (nin1 h2) (f2.dict (nin1 h1) h)
  have g0 := B.g0
  refine ⟨B.nd, ns3, (lk_n g_n).trans B.fN, (lk_n g_h).trans B.fH, (lk_n g_f).trans B.fF, (lk_n g_b).trans B.fB, lk_g, tl (Ne.symm N.jn) N.nh B.ln, ?_, td (Ne.symm N.jd) (Ne.symm N.hd) B.dd, td (Ne.symm N.je) (Ne.symm N.he) B.de, (B.rf.fr f2 fun i hi => nin1 (N.ls i (List.mem_append_left _ hi)).2.1).fr f3 fun i hi => nin1 (N.ls i (List.mem_append_left _ hi)).2.2.2.1,
    (B.ru.fr f2 fun i hi => nin1 (N.ls i (List.mem_append_right _ hi)).2.1).fr f3 fun i hi => nin1 (N.ls i (List.mem_append_right _ hi)).2.2.2.1, by show 0 ≤ k.g + 1; lia, fun m hm => ?_, ?_, Nat.succ_le_succ B.z, B.ze, B.zu⟩
  · rw [lh3, List.map_append]; rfl
  · rcases List.mem_append.mp hm with h | h
    · have := B.no m h; exact ⟨this.1, by show m.no ≤ k.g + 1; lia⟩
    · rw [List.mem_singleton.mp h]; show 0 < k.g + 1 ∧ k.g + 1 ≤ k.g + 1; lia
  · rw [List.map_append]
    refine List.nodup_append.mpr ⟨B.nu, List.nodup_cons.mpr ⟨List.not_mem_nil, List.nodup_nil⟩, fun x hx y hy => ?_⟩
    refine e1_2 (List.mem_map.mp hx) fun m hm e_332 => ?_
    obtain rfl := e_332
    rw [List.mem_singleton.mp hy]
    have := B.no m hm
    show m.no ≠ k.g + 1; lia
noncomputable def Ψb : Orc := ext (Str.ofString "Book." ++ Str.ofString "meet") C_meet Ψa
end Mine
namespace Mine
open PySem
theorem get_off {H X : Hp} {k : Nat} : (H ++ X)[H.length + k]? = X[k]? := by
  rw [List.getElem?_append_right (Nat.le_add_right _ _), Nat.add_sub_cancel_left]
theorem get_off0 {H X : Hp} : (H ++ X)[H.length]? = X[0]? := get_off (k := 0)
theorem set_off {H X : Hp} {k : Nat} {o : O} : (H ++ X).set (H.length + k) o = H ++ X.set k o := by
  rw [List.set_append_right _ _ (Nat.le_add_right _ _), Nat.add_sub_cancel_left]
theorem set_off0 {H X : Hp} {o : O} : (H ++ X).set H.length o = H ++ X.set 0 o := set_off (k := 0)
theorem list_off {H X : Hp} {k : Nat} : listAt (H ++ X) (H.length + k) = listAt X k := by unfold listAt; rw [get_off]
theorem dict_off {H X : Hp} {k : Nat} : dictAt (H ++ X) (H.length + k) = dictAt X k := by unfold dictAt; rw [get_off]
theorem ns_off {H X : Hp} {fs : List (Str × V)} : nsAt (H ++ (.ns fs :: .inst H.length :: X)) (H.length + 1) = some (H.length, fs) := by
  unfold nsAt
  rw [get_off]
  show (((H ++ _)[H.length]?).bind nsO).map _ = _
  rw [get_off0]; rfl
noncomputable def bkF (n : Nat) : List (Str × V) := [(Str.ofString "given", .int 0), (Str.ofString "held", .ref (n + 5)), (Str.ofString "busy_rules", .ref (n + 4)), (Str.ofString "free_rules", .ref (n + 3)), (Str.ofString "names", .ref (n + 2))]
noncomputable def bk0 (n : Nat) : Bk := ⟨n + 1, n, n + 2, n + 5, n + 3, n + 4, bkF n, [], [], [], [], 0, 5⟩
theorem foot0 (n : Nat) : (bk0 n).foot = [1, 0, 2, 5, 3, 4].map (n + ·) := rfl
theorem bk0_at {H : Hp} : BkAt (H ++ [.ns (bkF H.length), .inst H.length, .list [], .dict [], .dict [], .list []]) (bk0 H.length) [] [] := by
  refine ⟨?_, ns_off, by rfl, by rfl, by rfl, by rfl, by rfl, list_off, list_off, dict_off, dict_off, rfl, rfl, Int.le_refl _, fun _ h => (nomatch h), List.nodup_nil, Nat.le_refl _, rfl, rfl⟩
  rw [foot0]
  exact List.Pairwise.map (H.length + ·) (fun a b h q => h (Nat.add_left_cancel q)) (show [1, 0, 2, 5, 3, 4].Nodup by decide)
noncomputable def C_init : Ctr := fun vs H Q _ => ∃ H0 : Hp, vs = [.ref (H0.length + 1)] ∧ H = H0 ++ [.ns []] ++ [.inst H0.length] ∧ ∀ (H' : Hp) (k : Bk), H0 <+: H' → k.b = H0.length + 1 → k.g = 0 → k.c = 5 → (∀ i ∈ k.foot, H0.length ≤ i) → BkAt H' k [] [] → Q .none H'
theorem w_init : ∀ vs H Q X, C_init vs H Q X → wpFn Ψb f_B___init__ vs H Q X := by
  rintro vs H Q X ⟨H0, rfl, rfl, q⟩
  refine fn_of rfl ?_
  simp_arith only [f_B___init__, initL, List.map_cons, List.map_nil, List.replicate, List.cons_append, List.nil_append, List.append_assoc, List.length_append, ns_off, set_off0]
  exact q _ (bk0 H0.length) (List.prefix_append _ _) rfl rfl rfl (fun i hi => by rw [foot0] at hi; obtain ⟨j, _, rfl⟩ := List.mem_map.mp hi; exact Nat.le_add_right _ _) bk0_at
noncomputable def Ψc : Orc := ext "Book.__init__" C_init Ψb
theorem Pc_in : Ψc "is_name" = C_is_name := rfl
theorem Pc_ir : Ψc "is_rule" = C_is_rule := rfl
theorem dictAt_lt {H : Hp} {i : Nat} {l : List (Str × V)} (h : dictAt H i = some l) : i < H.length := by
  refine e1_2 (Option.bind_eq_some_iff.mp h) fun o e _ => ?_
  exact get_lt e
theorem dictAt_set {H : Hp} {n : Nat} {l m : List (Str × V)} (h : dictAt H n = some l) : dictAt (H.set n (.dict m)) n = some m := by
  unfold dictAt
  rw [List.getElem?_set_self (dictAt_lt h)]; rfl
theorem RlAt.lt {H : Hp} {es : List (Str × V)} {f : Prs → List Pl} : ∀ {ps : List Prs} {is : List Nat}, RlAt H es f ps is → ∀ i ∈ is, i < H.length
  | [], _, h, i, hi => by rw [show _ = [] from h] at hi; exact nomatch hi
  | _ :: _, _, ⟨i, js, e, h1, h2, r⟩, j, hj => by
    rw [e] at hj
    rcases List.mem_cons.mp hj with q | q
    · rw [q]; exact listAt_lt h2
    · exact r.lt j q
theorem BkAt.lt {H : Hp} {k : Bk} {ps : List Prs} {hs : List Mtg} (B : BkAt H k ps hs) : ∀ i ∈ k.foot, i < H.length := fun i hi => by
  obtain ⟨h1, h2⟩ := nsAt_some B.ns
  rcases List.mem_cons.mp hi with q | hi
  · rw [q]; exact get_lt h1
  rcases List.mem_cons.mp hi with q | hi
  · rw [q]; exact get_lt h2
  rcases List.mem_cons.mp hi with q | hi
  · rw [q]; exact listAt_lt B.ln
  rcases List.mem_cons.mp hi with q | hi
  · rw [q]; exact listAt_lt B.lh
  rcases List.mem_cons.mp hi with q | hi
  · rw [q]; exact dictAt_lt B.dd
  rcases List.mem_cons.mp hi with q | hi
  · rw [q]; exact dictAt_lt B.de
  rcases List.mem_append.mp hi with q | q
  · exact B.rf.lt i q
  · exact B.ru.lt i q
theorem RlAt.app {H : Hp} {es : List (Str × V)} {f : Prs → List Pl} {p : Prs} {i : Nat} (h1 : es.lookup p.nm = some (.ref i)) (h2 : listAt H i = some ((f p).map pv)) : ∀ {ps : List Prs} {is : List Nat}, RlAt H es f ps is → RlAt H es f (ps ++ [p]) (is ++ [i])
  | [], is, h => by obtain rfl := h; exact ⟨i, [], rfl, h1, h2, rfl⟩
  | _ :: _, _, ⟨j, js, e, k1, k2, r⟩ => ⟨j, js ++ [i], by rw [e]; rfl, k1, k2, r.app h1 h2⟩
theorem RlAt.new {H : Hp} {es : List (Str × V)} {f : Prs → List Pl} {x : Str} {v : V} : ∀ {ps : List Prs} {is : List Nat}, x ∉ ps.map Prs.nm → RlAt H es f ps is → RlAt H ((x, v) :: es) f ps is
  | [], _, _, h => h
  | a :: ps, _, hx, ⟨j, js, e, k1, k2, r⟩ => by
    rw [List.map_cons, List.mem_cons, not_or] at hx
    exact ⟨j, js, e, by rw [List.lookup_cons, beq_eq_false_iff_ne.mpr (Ne.symm hx.1)]; exact k1, k2, r.new hx.2⟩
noncomputable def comeR (nms : List Str) (v : V) (ts : List Tg) : Option Str := if nameB v = false then some "NoName" else if inB v nms then some "Taken" else if decide (20 < ts.length) || !ts.all Tg.good then some "NoRule" else none
inductive IC_come (H : Hp) (Q : V → Hp → Prop) (X : XL) : List V → Prop where
  | mk (k : Bk) (ps : List Prs) (hs : List Mtg) (v : V) (i : Nat) (ts : List Tg) : BkAt H k ps hs → listAt H i = some (ts.map tv) → ascV v → smp v = true → (∀ t ∈ ts, t.ok H) → (∀ c, comeR (ps.map Prs.nm) v ts = some c → X (xc c) H) →
      (comeR (ps.map Prs.nm) v ts = none → ∃ nm rs, v = .str nm ∧ ts = rs.map Tg.pl ∧ i ∉ k.foot ∧ nm ∉ ps.map Prs.nm ∧ rs.length ≤ 20 ∧ ps.length ≤ 1000 ∧ ∀ (H' : Hp) (k' : Bk), Fr k.foot H H' → k'.b = k.b → k'.g = k.g → k'.c = k.c → (∀ i ∈ k'.foot, i ∈ k.foot ∨ H.length ≤ i) → BkAt H' k' (ps ++ [⟨nm, rs, []⟩]) hs → Q .none H') → IC_come H Q X [.ref k.b, v, .ref i]
noncomputable def C_come : Ctr := fun vs H Q X => IC_come H Q X vs
theorem tv_pl (rs : List Pl) : (rs.map Tg.pl).map tv = rs.map pv := by rw [List.map_map]; rfl
theorem ru_loop {XF : XS} {v0 v1 v2 : V} {t4 t5 t6 : Option V} {H : Hp} {Q : QS} {st : Hp → Prop} (hst : st H) : ∀ (ts : List Tg) (t3 : Option V), (∀ t ∈ ts, t.ok H) → (ts.all Tg.good = true → ∀ t3', Q .next [some v0, some v1, some v2, t3', t4, t5, t6] H) → (ts.all Tg.good = false → ∀ L', XF (xc "NoRule") L' H) →
    forGo (whBX Ψc [(.ite (.not (.call (.fn "is_rule") [(.loc 3)])) [(.raise "NoRule" ["NoRule", "HourError", "ValueError"])] [])] XF) st 3 (ts.map tv) [some v0, some v1, some v2, t3, t4, t5, t6] H Q := by
  intro ts
  induction ts with
  | nil => intro t3 _ q _; exact q rfl _
  | cons t ts ih =>
    intro t3 hf q1 q2
    rw [List.map_cons, foX_cons]
    rw [List.all_cons] at q1 q2
    simp_arith only [↓Pc_ir]
    refine ⟨t, rfl, hf t List.mem_cons_self, ?_⟩
    cases e : t.good with
    | true =>
      rw [e, Bool.true_and] at q1 q2
      exact ⟨hst, ih _ (fun r h => hf r (List.mem_cons_of_mem _ h)) q1 q2⟩
    | false => rw [e] at q2; exact q2 rfl _
theorem nin3 {i x y z : Nat} (h1 : i ≠ x) (h2 : i ≠ y) (h3 : i ≠ z) : i ∉ [x, y, z] := fun q => by
  rcases List.mem_cons.mp q with q | q
  · exact h1 q
  rcases List.mem_cons.mp q with q | q
  · exact h2 q
  exact h3 (List.mem_singleton.mp q)
theorem nodup_mid {A B C : List Nat} {m x : Nat} (hx : x = m) (h : (A ++ (B ++ C)).Nodup) (hl : ∀ i ∈ A ++ (B ++ C), i < m) : (A ++ ((B ++ [x]) ++ (C ++ [x + 1]))).Nodup := by
  have p : (A ++ ((B ++ [x]) ++ (C ++ [x + 1]))).Perm ((A ++ (B ++ C)) ++ [x, x + 1]) := by
    rw [List.append_assoc A]
    refine List.Perm.append_left A ?_
    rw [List.append_assoc, List.append_assoc]
    refine List.Perm.append_left B ?_
    rw [← List.append_assoc [x] C [x + 1], show [x, x + 1] = [x] ++ [x + 1] from rfl, ← List.append_assoc C [x] [x + 1]]
    exact List.Perm.append_right _ List.perm_append_comm
  refine p.symm.nodup ?_
  refine List.nodup_append.mpr ⟨h, ?_, fun a ha b hb q => ?_⟩
  · exact List.nodup_cons.mpr ⟨fun q => by have := List.mem_singleton.mp q; lia, List.nodup_cons.mpr ⟨List.not_mem_nil, List.nodup_nil⟩⟩
  · have := hl a ha
    rcases List.mem_cons.mp hb with q' | q'
    · lia
    · have := List.mem_singleton.mp q'; lia
theorem w_come : ∀ vs H Q X, C_come vs H Q X → wpFn Ψc f_B_come vs H Q X := by
  rintro vs H Q X ⟨k, ps, hs, v, i, ts, B, hl, ha, sv, hok, q1, q2⟩
  refine fn_of rfl ?_
  have N := bkNe B.nd
  have h3 := B.ln
  rw [nm_map] at h3
  unfold comeR at q1 q2
  change wpSs Ψc f_B_come.body [some (.ref k.b), some v, some (.ref i), none, none, none, none] _ _ _
  refine zs_cons ?_
  generalize hK : sqX Ψc (_ :: _) = K
  simp_arith only [↓Pc_in]
  refine ⟨v, rfl, ha, ?_⟩
  cases e1 : nameB v with
  | false => rw [e1] at q1; subst hK; exact q1 _ rfl
  | true =>
  rw [e1] at q1 q2
  simp_arith only [X_lit]
  subst hK
  refine zs_cons ?_
  generalize hK : sqX Ψc (_ :: _) = K
  simp_arith only [B.ns, B.fN, h3, mem_smp sv]
  cases e2 : inB v (ps.map Prs.nm) with
  | true => rw [e2] at q1; subst hK; exact q1 _ rfl
  | false =>
  rw [e2] at q1 q2
  subst hK
  refine zs_cons ?_
  generalize hK : sqX Ψc (_ :: _) = K
  simp_arith only [hl, List.length_map]
  refine ⟨fun h => ?_, fun h => ?_⟩
  · rw [decide_eq_true (show 20 < ts.length by lia)] at q1; subst hK; exact q1 _ rfl
  rw [decide_eq_false (show ¬ 20 < ts.length by lia), Bool.false_or] at q1 q2
  subst hK
  refine zs_cons ?_
  generalize hK : sqX Ψc (_ :: _) = K
  simp_arith only [hl]
  subst hK
  refine ru_loop hl ts _ hok (fun e3 t3' => ?_) (fun e3 L' => by rw [e3] at q1; exact q1 _ rfl)
  rw [e3] at q2
  obtain ⟨nm, rs, rfl, rfl, hi, hni, hz, hps, q⟩ := q2 rfl
  clear q2 q1
  rw [tv_pl] at hl
  refine zs_cons ?_
  generalize hK : sqX Ψc (_ :: _) = K
  simp_arith only [B.ns, B.fN, B.ln]
  refine ⟨⟨_, B.ln⟩, by rw [List.length_map]; lia, ?_⟩
  subst hK
  have f1 : Fr [k.n] H (H.set k.n (.list ((ps.map fun p => V.str p.nm) ++ [.str nm]))) := Fr.set
  have ln1 : listAt (H.set k.n (.list ((ps.map fun p => V.str p.nm) ++ [.str nm]))) k.n = some ((ps.map fun p => V.str p.nm) ++ [.str nm]) := listAt_set B.ln
  have e1 : (H.set k.n (.list ((ps.map fun p => V.str p.nm) ++ [.str nm]))).length = H.length := List.length_set
  generalize H.set k.n (.list ((ps.map fun p => V.str p.nm) ++ [.str nm])) = H1 at *
  have hl1 := f1.list (nin1 (i := i) fun q => hi (by rw [q]; exact ft_n)) hl
  have f2 : Fr [k.n] H (H1 ++ [.list (rs.map pv)]) := f1.trans (Fr.pre (F := []) pre_new) fun _ h => nomatch h
  have ln2 := listAt_pre (pre_new (o := .list (rs.map pv))) ln1
  have lx2 := listAt_new (H := H1) (l := rs.map pv)
  have e2 : (H1 ++ [O.list (rs.map pv)]).length = H.length + 1 := by rw [List.length_append, e1]; rfl
  have ns2 := f2.ns (nin1 N.bn) (nin1 N.jn) B.ns
  have dd2 := f2.dict (nin1 (Ne.symm N.nd)) B.dd
  refine zs_cons ?_
  generalize hK : sqX Ψc (_ :: _) = K
  have ze := B.ze
  have zu := B.zu
  simp_arith only [hl1, ns2, B.fF, dd2]
  refine ⟨by lia, ?_⟩
  subst hK
  rw [e1] at lx2 ⊢
  generalize H1 ++ [O.list (rs.map pv)] = H2 at *
  have f3 : Fr [k.d] H2 (H2.set k.d (.dict ((nm, .ref H.length) :: k.es))) := Fr.set
  have dd3 : dictAt (H2.set k.d (.dict ((nm, .ref H.length) :: k.es))) k.d = some ((nm, .ref H.length) :: k.es) := dictAt_set dd2
  have e3 : (H2.set k.d (.dict ((nm, .ref H.length) :: k.es))).length = H.length + 1 := List.length_set.trans e2
  generalize H2.set k.d (.dict ((nm, .ref H.length) :: k.es)) = H3 at *
  have f4 : Fr [k.d] H2 (H3 ++ [.list []]) := f3.trans (Fr.pre (F := []) pre_new) fun _ h => nomatch h
  have dd4 : dictAt (H3 ++ [.list []]) k.d = some ((nm, .ref H.length) :: k.es) := (Fr.pre (F := []) pre_new).dict (fun h => nomatch h) dd3
  have ns4 := f4.ns (nin1 N.bd) (nin1 N.jd) ns2
  have de4 := f4.dict (nin1 (Ne.symm N.de)) (f2.dict (nin1 (Ne.symm N.ne)) B.de)
  have ly4 := listAt_new (H := H3) (l := [])
  have lt := B.lt
  have ld := lt _ ft_d
  have le := lt _ ft_e
  have lx4 := f4.list (nin1 (show H.length ≠ k.d by lia)) lx2
  have ln4 := f4.list (nin1 N.nd) ln2
  refine zs_cons ?_
  generalize hK : sqX Ψc [] = K
  simp_arith only [ns4, B.fB, de4]
  refine ⟨by lia, ?_⟩
  subst hK
  rw [e3] at ly4 ⊢
  have e4 : (H3 ++ [O.list []]).length = H.length + 2 := by rw [List.length_append, e3]; rfl
  generalize H3 ++ [O.list []] = H4 at *
  have f5 : Fr [k.e] H4 (H4.set k.e (.dict ((nm, .ref (H.length + 1)) :: k.us))) := Fr.set
  have de5 : dictAt (H4.set k.e (.dict ((nm, .ref (H.length + 1)) :: k.us))) k.e = some ((nm, .ref (H.length + 1)) :: k.us) := dictAt_set de4
  generalize H4.set k.e (.dict ((nm, .ref (H.length + 1)) :: k.us)) = H5 at *
  have FF : Fr [k.n, k.d, k.e] H H5 := ((f2.mono (G := [k.n, k.d, k.e]) fun i hi => .inl (by rw [List.mem_singleton.mp hi]; exact .head _)).trans f4 fun i hi => .inl (by rw [List.mem_singleton.mp hi]; exact .tail _ (.head _))).trans f5 fun i hi => .inl (by rw [List.mem_singleton.mp hi]; exact .tail _ (.tail _ (.head _)))
  have ls : ∀ j ∈ k.fl ++ k.ul, j ∉ [k.n, k.d, k.e] := fun j hj => let ⟨_, _, a, _, b, c⟩ := N.ls j hj; nin3 a b c
  refine q H5 { k with es := (nm, .ref H.length) :: k.es, us := (nm, .ref (H.length + 1)) :: k.us, fl := k.fl ++ [H.length], ul := k.ul ++ [H.length + 1] } (FF.mono fun j hj => .inl ?_) rfl rfl rfl (fun j hj => ?_) ?_
  · rcases List.mem_cons.mp hj with h | hj
    · rw [h]; exact ft_n
    rcases List.mem_cons.mp hj with h | hj
    · rw [h]; exact ft_d
    rw [List.mem_singleton.mp hj]; exact ft_e
  · have hj : j ∈ [k.b, k.j, k.n, k.h, k.d, k.e] ++ ((k.fl ++ [H.length]) ++ (k.ul ++ [H.length + 1])) := hj
    rcases List.mem_append.mp hj with h | h
    · exact .inl (show j ∈ [k.b, k.j, k.n, k.h, k.d, k.e] ++ (k.fl ++ k.ul) from List.mem_append_left _ h)
    rcases List.mem_append.mp h with h | h
    · rcases List.mem_append.mp h with h | h
      · exact .inl (ft_fl h)
      · rw [List.mem_singleton.mp h]; exact .inr (Nat.le_refl _)
    · rcases List.mem_append.mp h with h | h
      · exact .inl (ft_ul h)
      · rw [List.mem_singleton.mp h]; exact .inr (Nat.le_succ _)
  · refine ⟨nodup_mid (A := [k.b, k.j, k.n, k.h, k.d, k.e]) rfl B.nd lt, FF.ns (nin3 N.bn N.bd N.be) (nin3 N.jn N.jd N.je) B.ns, B.fN, B.fH, B.fF, B.fB, B.fG, ?_, FF.list (nin3 (Ne.symm N.nh) N.hd N.he) B.lh, f5.dict (nin1 N.de) dd4, de5, ?_, ?_, B.g0, B.no, B.nu, B.z, congrArg (· + 1) ze |>.trans ?_, congrArg (· + 1) zu |>.trans ?_⟩
    · rw [f5.list (nin1 N.ne) ln4, List.map_append]; rfl
    · exact ((B.rf.fr FF fun j hj => ls j (List.mem_append_left _ hj)).new hni).app (p := ⟨nm, rs, []⟩) (by rw [List.lookup_cons, beq_self_eq_true]) (f5.list (nin1 (by lia)) lx4)
    · exact ((B.ru.fr FF fun j hj => ls j (List.mem_append_right _ hj)).new hni).app (p := ⟨nm, rs, []⟩) (by rw [List.lookup_cons, beq_self_eq_true]) (f5.list (nin1 (by lia)) ly4)
    · rw [List.length_append]; rfl
    · rw [List.length_append]; rfl
noncomputable def Ψd : Orc := ext (Str.ofString "Book." ++ Str.ofString "come") C_come Ψc
theorem Pd_ns : Ψd (Str.ofString "Book." ++ Str.ofString "need_somebody") = C_need_somebody := rfl
theorem Pd_ir : Ψd "is_rule" = C_is_rule := rfl
theorem Pd_co : Ψd "covers" = C_covers := rfl
theorem RlAt.mid {H : Hp} {es : List (Str × V)} {f : Prs → List Pl} {p : Prs} {qs : List Prs} : ∀ {ps : List Prs} {is : List Nat}, RlAt H es f (ps ++ p :: qs) is → ∃ js i ks, is = js ++ i :: ks ∧ RlAt H es f ps js ∧ es.lookup p.nm = some (.ref i) ∧ listAt H i = some ((f p).map pv) ∧ RlAt H es f qs ks
  | [], _, ⟨j, js, e, k1, k2, r⟩ => ⟨[], j, js, e, rfl, k1, k2, r⟩
  | a :: ps, _, ⟨j, js, e, k1, k2, r⟩ => by
    obtain ⟨js', i, ks, e', r', h1, h2, h3⟩ := RlAt.mid (ps := ps) r
    exact ⟨j :: js', i, ks, by rw [e, e']; rfl, ⟨j, js', rfl, k1, k2, r'⟩, h1, h2, h3⟩
theorem RlAt.join {H : Hp} {es : List (Str × V)} {f : Prs → List Pl} {qs : List Prs} {ks : List Nat} (h : RlAt H es f qs ks) : ∀ {ps : List Prs} {is : List Nat}, RlAt H es f ps is → RlAt H es f (ps ++ qs) (is ++ ks)
  | [], is, h' => by obtain rfl := h'; exact h
  | _ :: _, _, ⟨j, js, e, k1, k2, r⟩ => ⟨j, js ++ ks, by rw [e]; rfl, k1, k2, RlAt.join h r⟩
noncomputable def clashB (hs : List Mtg) (nm : Str) (r : Pl) : Bool := hs.any fun m => m.who.contains nm && (rangeJ 0 m.sz).any fun j => cov r (m.hr + j)
noncomputable def mOk (m : Mtg) : Prop := 0 ≤ m.hr ∧ 0 ≤ m.sz ∧ m.sz ≤ 48
inductive IC_busy (H : Hp) (Q : V → Hp → Prop) (X : XL) : List V → Prop where
  | str (k : Bk) (ps : List Prs) (hs : List Mtg) (v w : V) : BkAt H k ps hs → smp v = true → inB v (ps.map Prs.nm) = false → X (xc "Stranger") H → IC_busy H Q X [.ref k.b, v, w]
  | bad (k : Bk) (ps qs : List Prs) (p : Prs) (hs : List Mtg) (t : Tg) : BkAt H k (ps ++ p :: qs) hs → t.ok H → t.good = false → X (xc "NoRule") H → IC_busy H Q X [.ref k.b, .str p.nm, tv t]
  | ok (k : Bk) (ps qs : List Prs) (p : Prs) (hs : List Mtg) (r : Pl) : BkAt H k (ps ++ p :: qs) hs → r.fine → (∀ m ∈ hs, mOk m) → (20 ≤ p.bu.length → X (xc "NoRule") H) → (p.bu.length < 20 → clashB hs p.nm r = true → X (xc "Clash") H) → (p.bu.length < 20 → clashB hs p.nm r = false → ∀ H', Fr k.ul H H' → BkAt H' k (ps ++ ⟨p.nm, p.fr, p.bu ++ [r]⟩ :: qs) hs → Q .none H') → IC_busy H Q X [.ref k.b, .str p.nm, pv r]
noncomputable def C_busy : Ctr := fun vs H Q X => IC_busy H Q X vs
noncomputable abbrev b2B : List IS := [(.ite (.call (.fn "covers") [(.loc 2), (.bin .Add (.sub (.loc 3) (.lit (.int 1))) (.loc 4))]) [(.raise "Clash" ["Clash", "HourError", "ValueError"])] [])]
noncomputable abbrev b1B : List IS := [(.ite (.cmp (.loc 1) .In (.sub (.loc 3) (.lit (.int 3)))) [(.for 4 .range (.sub (.loc 3) (.lit (.int 2))) b2B)] [])]
theorem b2_loop {XF : XS} {v0 v1 : V} {r : Pl} {m : Mtg} {t5 t6 t7 : Option V} {H : Hp} {Q : QS} (hf : r.fine) (h0 : 0 ≤ m.hr) : ∀ (ks : List Int) (t4 : Option V), (∀ j ∈ ks, 0 ≤ j) → ((ks.any fun j => cov r (m.hr + j)) = false → ∀ t4', Q .next [some v0, some v1, some (pv r), some (mtv m), t4', t5, t6, t7] H) → ((ks.any fun j => cov r (m.hr + j)) = true → ∀ L', XF (xc "Clash") L' H) →
    forGo (whBX Ψd b2B XF) (fun _ => True) 4 (ks.map V.int) [some v0, some v1, some (pv r), some (mtv m), t4, t5, t6, t7] H Q := by
  intro ks
  induction ks with
  | nil => intro t4 _ q _; exact q rfl _
  | cons j ks ih =>
    intro t4 hk q1 q2
    have j0 := hk j List.mem_cons_self
    rw [List.any_cons] at q1 q2
    rw [List.map_cons, foX_cons]
    rw [show mtv m = V.tup [.int m.no, .int m.hr, .int m.sz, .tup (m.who.map V.str)] from rfl] at q1 ⊢
    simp_arith only [↓Pd_co]
    refine ⟨r, m.hr + j, rfl, hf, by lia, ?_⟩
    cases e : cov r (m.hr + j) with
    | true => rw [e] at q2; exact q2 rfl _
    | false => rw [e, Bool.false_or] at q1 q2; exact ih _ (fun j h => hk j (List.mem_cons_of_mem _ h)) q1 q2
theorem b1_loop {XF : XS} {v0 : V} {nm : Str} {r : Pl} {t5 t6 t7 : Option V} {H : Hp} {Q : QS} {st : Hp → Prop} (hst : st H) (hf : r.fine) : ∀ (hs : List Mtg) (t3 t4 : Option V), (∀ m ∈ hs, mOk m) → (clashB hs nm r = false → ∀ t3' t4', Q .next [some v0, some (.str nm), some (pv r), t3', t4', t5, t6, t7] H) → (clashB hs nm r = true → ∀ L', XF (xc "Clash") L' H) →
    forGo (whBX Ψd b1B XF) st 3 (hs.map mtv) [some v0, some (.str nm), some (pv r), t3, t4, t5, t6, t7] H Q := by
  intro hs
  induction hs with
  | nil => intro t3 t4 _ q _; exact q rfl _ _
  | cons m hs ih =>
    intro t3 t4 hc q1 q2
    refine e0_3 (hc m List.mem_cons_self) fun h0 h1 h1' => ?_
    have e : clashB (m :: hs) nm r = ((m.who.contains nm && (rangeJ 0 m.sz).any fun j => cov r (m.hr + j)) || clashB hs nm r) := List.any_cons
    rw [e] at q1 q2
    have nx : (m.who.contains nm && (rangeJ 0 m.sz).any fun j => cov r (m.hr + j)) = false → ∀ t4', st H ∧ forGo (whBX Ψd b1B XF) st 3 (hs.map mtv) [some v0, some (.str nm), some (pv r), some (mtv m), t4', t5, t6, t7] H Q := fun h t4' => by
      rw [h, Bool.false_or] at q1 q2
      exact ⟨hst, ih _ _ (fun m h => hc m (List.mem_cons_of_mem _ h)) q1 q2⟩
    rw [List.map_cons, foX_cons]
    refine zs_cons ?_
    rw [show mtv m = V.tup [.int m.no, .int m.hr, .int m.sz, .tup (m.who.map V.str)] from rfl] at nx ⊢
    simp_arith only [mem_strs]
    refine iX_b (fun hw => ?_) (fun hw => nx (by rw [hw]; rfl) _)
    refine ⟨by lia, ?_⟩
    rw [rangeL_J]
    rw [hw, Bool.true_and] at nx q2
    exact b2_loop (m := m) hf h0 _ _ (fun j hj => (mem_rangeJ.mp hj).1) (fun e t4' => nx e _) fun e L' => q2 (by rw [e]; rfl) L'
theorem bu_in {k : Bk} {ps qs : List Prs} {p : Prs} : inB (.str p.nm) ((ps ++ p :: qs).map Prs.nm) = true := List.contains_iff_mem.mpr (by rw [List.map_append]; exact List.mem_append_right _ (.head _))
theorem w_busy : ∀ vs H Q X, C_busy vs H Q X → wpFn Ψd f_B_busy vs H Q X := by
  intro vs H Q X h
  refine fn_of (by cases h <;> rfl) ?_
  rcases h with ⟨k, ps, hs, v, w, B, sv, hin, q⟩ | ⟨k, ps, qs, p, hs, t, B, ht, hg, q⟩ | ⟨k, ps, qs, p, hs, r, B, hf, hm, q1, q2, q⟩
  · change wpSs Ψd f_B_busy.body [some (.ref k.b), some v, some w, none, none, none, none, none] _ _ _
    refine zs_cons ?_
    generalize hK : sqX Ψd (_ :: _) = K
    simp_arith only [B.ns, ↓Pd_ns]
    exact ⟨k, ps, hs, v, B, sv, fun e => by rw [hin] at e; exact Bool.noConfusion e, fun _ => q⟩
  · change wpSs Ψd f_B_busy.body [some (.ref k.b), some (.str p.nm), some (tv t), none, none, none, none, none] _ _ _
    refine zs_cons ?_
    generalize hK : sqX Ψd (_ :: _) = K
    simp_arith only [B.ns, ↓Pd_ns]
    refine ⟨k, _, hs, .str p.nm, B, rfl, fun _ => ?_, fun e => by rw [bu_in (k := k)] at e; exact Bool.noConfusion e⟩
    subst hK
    refine zs_cons ?_
    generalize hK : sqX Ψd (_ :: _) = K
    simp_arith only [↓Pd_ir]
    refine ⟨t, rfl, ht, ?_⟩
    rw [hg]
    exact q
  have N := bkNe B.nd
  obtain ⟨js, i, ks, e, r1, h1, h2, r2⟩ := B.ru.mid
  obtain ⟨js', i', ks', e', r1', h1', h2', r2'⟩ := B.rf.mid
  change wpSs Ψd f_B_busy.body [some (.ref k.b), some (.str p.nm), some (pv r), none, none, none, none, none] _ _ _
  refine zs_cons ?_
  generalize hK : sqX Ψd (_ :: _) = K
  simp_arith only [B.ns, ↓Pd_ns]
  refine ⟨k, _, hs, .str p.nm, B, rfl, fun _ => ?_, fun e => by rw [bu_in (k := k)] at e; exact Bool.noConfusion e⟩
  subst hK
  refine zs_cons ?_
  generalize hK : sqX Ψd (_ :: _) = K
  simp_arith only [↓Pd_ir]
  refine ⟨.pl r, rfl, hf, ?_⟩
  simp_arith only [Tg.good, B.ns, B.fB, B.de, h1, h2, List.length_map]
  refine ⟨fun h => ?_, fun h => ?_⟩
  · subst hK; exact q1 (by lia)
  have hz : p.bu.length < 20 := by lia
  subst hK
  refine zs_cons ?_
  generalize hK : sqX Ψd (_ :: _) = K
  simp_arith only [B.ns, B.fH, B.lh]
  subst hK
  refine b1_loop B.lh hf hs _ _ hm (fun hcl t3' t4' => ?_) fun hcl L' => q2 hz hcl
  have q := q hz hcl
  simp_arith only [B.ns, B.fB, B.de, h1, h2]
  refine ⟨⟨_, h2⟩, by rw [List.length_map]; lia, ?_⟩
  have f : Fr [i] H (H.set i (.list (p.bu.map pv ++ [pv r]))) := Fr.set
  have l3 : listAt (H.set i (.list (p.bu.map pv ++ [pv r]))) i = some (p.bu.map pv ++ [pv r]) := listAt_set h2
  generalize H.set i (.list (p.bu.map pv ++ [pv r])) = H1 at *
  have hu : i ∈ k.ul := by rw [e]; exact List.mem_append_right _ (.head _)
  obtain ⟨nb, nj, nn, nh, nd', ne⟩ := N.ls i (List.mem_append_right _ hu)
  have nl := N.ll
  refine e0_3 (List.nodup_append.mp nl) fun _ nu ndis => ?_
  rw [e] at nu
  refine e0_3 (List.nodup_append.mp nu) fun _ nu2 nlast => ?_
  have nu3 := (List.nodup_cons.mp nu2).1
  have hfr : ∀ j ∈ k.fl, j ∉ [i] := fun j hj => nin1 (ndis j hj i hu)
  refine q H1 (f.mono fun j hj => .inl (by rw [List.mem_singleton.mp hj]; exact hu)) ⟨B.nd, f.ns (nin1 (Ne.symm nb)) (nin1 (Ne.symm nj)) B.ns, B.fN, B.fH, B.fF, B.fB, B.fG, ?_, f.list (nin1 (Ne.symm nh)) B.lh, f.dict (nin1 (Ne.symm nd')) B.dd, f.dict (nin1 (Ne.symm ne)) B.de, ?_, ?_, B.g0, B.no, B.nu, B.z, ?_, ?_⟩
  · rw [f.list (nin1 (Ne.symm nn)) B.ln, List.map_append, List.map_append]; rfl
  · rw [e'] at hfr ⊢
    exact RlAt.join (qs := ⟨p.nm, p.fr, p.bu ++ [r]⟩ :: qs) ⟨i', ks', rfl, h1', f.list (hfr i' (List.mem_append_right _ (.head _))) h2', r2'.fr f fun j hj => hfr j (List.mem_append_right _ (.tail _ hj))⟩ (r1'.fr f fun j hj => hfr j (List.mem_append_left _ hj))
  · rw [e]
    exact RlAt.join (qs := ⟨p.nm, p.fr, p.bu ++ [r]⟩ :: qs) ⟨i, ks, rfl, h1, by rw [l3, List.map_append]; rfl, r2.fr f fun j hj => nin1 fun q => nu3 (q ▸ hj)⟩ (r1.fr f fun j hj => nin1 (nlast j hj i (.head _)))
  · rw [B.ze, List.length_append, List.length_append]; rfl
  · rw [B.zu, List.length_append, List.length_append]; rfl
noncomputable def Ψe : Orc := ext (Str.ofString "Book." ++ Str.ofString "busy") C_busy Ψd
end Mine
namespace Mine
open PySem
theorem Pe_iw : Ψe "is_whole" = C_is_whole := rfl
theorem cs_iw {v : V} {H : Hp} {Q : V → Hp → Prop} {X : XL} (h : smp v = true) : C_is_whole [v] H Q X = Q (.bool (numV v).isSome) H := sk_of (P := fun o => Q (.bool o.isSome) H) h
inductive IC_place_of (H : Hp) (Q : V → Hp → Prop) (X : XL) : List V → Prop where
  | mk (k : Bk) (ps : List Prs) (m : Mtg) (v : V) : BkAt H k ps [m] → smp v = true → (numV v = some m.no → Q (.int 0) H) → (numV v ≠ some m.no → X (xc "NoMeeting") H) → IC_place_of H Q X [.ref k.b, v]
noncomputable def C_place_of : Ctr := fun vs H Q X => IC_place_of H Q X vs
theorem w_place_of : ∀ vs H Q X, C_place_of vs H Q X → wpFn Ψe f_B_place_of vs H Q X := by
  rintro vs H Q X ⟨k, ps, m, v, B, sv, q1, q2⟩
  refine fn_of rfl ?_
  change wpSs Ψe f_B_place_of.body [some (.ref k.b), some v, none, none, none, none] H _ _
  refine zs_cons ?_
  generalize hK : sqX Ψe (_ :: _) = K
  simp_arith only [↓Pe_iw]
  rw [cs_iw sv]
  cases e : numV v with
  | none =>
    rw [e] at q2
    subst hK
    exact q2 no_some
  | some i =>
    obtain rfl := numV_some rfl e
    have hl : listAt H k.h = some [.tup [.int m.no, .int m.hr, .int m.sz, .tup (m.who.map V.str)]] := B.lh
    simp_arith only [Option.isSome, B.ns, B.fH, hl, List.length_cons, List.length_nil]
    refine ⟨by decide, ?_⟩
    rw [show rangeL 0 (((0 + 1 : Nat)) : Int) = [V.int 0] from rfl, foX_cons]
    have hi : idx [V.tup [.int m.no, .int m.hr, .int m.sz, .tup (m.who.map V.str)]] 0 = some (V.tup [.int m.no, .int m.hr, .int m.sz, .tup (m.who.map V.str)]) := rfl
    simp_arith only [B.ns, B.fH, hl, hi]
    subst hK
    refine ⟨fun h => q1 (by rw [h]; rfl), fun h => ?_⟩
    rw [foX_nil]
    exact q2 fun h' => h (Option.some.inj h').symm
noncomputable def Ψf : Orc := ext (Str.ofString "Book." ++ Str.ofString "place_of") C_place_of Ψe
theorem Pf_po : Ψf (Str.ofString "Book." ++ Str.ofString "place_of") = C_place_of := rfl
noncomputable def hN : Str := Str.ofString "held"
theorem hk_n {x : Str} {v : V} {fs : List (Str × V)} (h : (x == Str.ofString "held") = false) : List.lookup x ((Str.ofString "held", v) :: fs) = fs.lookup x := by rw [List.lookup_cons, h]
theorem h_n : (Str.ofString "names" == Str.ofString "held") = false := by decide
theorem h_g : (Str.ofString "given" == Str.ofString "held") = false := by decide
theorem h_f : (Str.ofString "free_rules" == Str.ofString "held") = false := by decide
theorem h_b : (Str.ofString "busy_rules" == Str.ofString "held") = false := by decide
inductive IC_drop (H : Hp) (Q : V → Hp → Prop) (X : XL) : List V → Prop where
  | mk (k : Bk) (ps : List Prs) (m : Mtg) (v : V) : BkAt H k ps [m] → smp v = true → k.c ≤ 1000 → (numV v ≠ some m.no → X (xc "NoMeeting") H) → (numV v = some m.no → ∀ (H' : Hp) (k' : Bk), Fr k.foot H H' → k'.b = k.b → k'.g = k.g → k'.c = k.c + 1 → (∀ i ∈ k'.foot, i ∈ k.foot ∨ H.length ≤ i) → BkAt H' k' ps [] → Q .none H') → IC_drop H Q X [.ref k.b, v]
noncomputable def C_drop : Ctr := fun vs H Q X => IC_drop H Q X vs
theorem w_drop : ∀ vs H Q X, C_drop vs H Q X → wpFn Ψf f_B_drop vs H Q X := by
  rintro vs H Q X ⟨k, ps, m, v, B, sv, hc, q2, q⟩
  refine fn_of rfl ?_
  change wpSs Ψf f_B_drop.body [some (.ref k.b), some v, none, none, none, none] H _ _
  refine zs_cons ?_
  generalize hK : sqX Ψf (_ :: _) = K
  simp_arith only [B.ns, ↓Pf_po]
  refine ⟨k, ps, m, v, B, sv, fun e => ?_, fun e => q2 e⟩
  have q := q e
  subst hK
  refine zs_cons ?_
  generalize hK : sqX Ψf [] = K
  have c1 : cutL .none (.int 0) ([m].map mtv) = some ([] : List V) := rfl
  have c2 : cutL (.int 1) .none ([m].map mtv) = some [] := rfl
  have p1 : H <+: H ++ [.list (([] : List V))] := pre_new
  have l1 := listAt_new (H := H) (l := ([] : List V))
  have e1 : (H ++ [O.list (([] : List V))]).length = H.length + 1 := List.length_append
  simp_arith only [B.ns, B.fH, B.lh, c1]
  generalize H ++ [O.list (([] : List V))] = H1 at *
  have B1 := B.pre p1
  simp_arith only [B1.ns, B1.fH, B1.lh, c2]
  have p2 : H1 <+: H1 ++ [.list []] := pre_new
  have l2 := listAt_new (H := H1) (l := [])
  have l1' := listAt_pre p2 l1
  have e2 : (H1 ++ [O.list []]).length = H.length + 2 := by rw [List.length_append, e1]; rfl
  rw [e1] at l2 ⊢
  generalize H1 ++ [O.list []] = H2 at *
  simp_arith only [l1', l2, List.append_nil, List.length_map, List.length_nil]
  have p3 : H2 <+: H2 ++ [.list (([] : List V))] := pre_new
  have l3 := listAt_new (H := H2) (l := ([] : List V))
  have e3 : (H2 ++ [O.list (([] : List V))]).length = H.length + 3 := by rw [List.length_append, e2]; rfl
  rw [e2] at l3 ⊢
  generalize H2 ++ [O.list (([] : List V))] = H3 at *
  have B3 := B.pre ((p1.trans p2).trans p3)
  have hb := B.z
  simp_arith only [B3.ns]
  refine ⟨by lia, ?_⟩
  subst hK
  have N := bkNe B.nd
  have lt := B.lt
  have f : Fr [k.j] H3 (H3.set k.j (.ns ((Str.ofString "held", .ref (H.length + 2)) :: k.fs))) := Fr.set
  have ns4 := nsAt_set (gs := (Str.ofString "held", .ref (H.length + 2)) :: k.fs) B3.ns N.bj
  generalize H3.set k.j (.ns ((Str.ofString "held", .ref (H.length + 2)) :: k.fs)) = H4 at *
  have lj := lt _ ft_j
  refine q H4 { k with fs := (Str.ofString "held", .ref (H.length + 2)) :: k.fs, h := H.length + 2, c := k.c + 1 } ((Fr.pre ((p1.trans p2).trans p3)).trans f fun i hi => .inl (by rw [List.mem_singleton.mp hi]; exact ft_j)) rfl rfl rfl (fun i hi => ?_) ?_
  · have hi : i ∈ [k.b, k.j, k.n] ++ ((H.length + 2) :: ([k.d, k.e] ++ (k.fl ++ k.ul))) := hi
    rcases List.mem_append.mp hi with h | h
    · exact .inl (show i ∈ [k.b, k.j, k.n] ++ (k.h :: ([k.d, k.e] ++ (k.fl ++ k.ul))) from List.mem_append_left _ h)
    rcases List.mem_cons.mp h with h | h
    · rw [h]; exact .inr (Nat.le_add_right _ _)
    · exact .inl (show i ∈ [k.b, k.j, k.n] ++ (k.h :: ([k.d, k.e] ++ (k.fl ++ k.ul))) from List.mem_append_right _ (List.mem_cons_of_mem _ h))
  · refine ⟨?_, ns4, (hk_n h_n).trans B.fN, by rw [List.lookup_cons, beq_self_eq_true], (hk_n h_f).trans B.fF, (hk_n h_b).trans B.fB, (hk_n h_g).trans B.fG, f.list (nin1 (Ne.symm N.jn)) B3.ln, f.list (nin1 (show H.length + 2 ≠ k.j by lia)) l3, f.dict (nin1 (Ne.symm N.jd)) B3.dd, f.dict (nin1 (Ne.symm N.je)) B3.de, B3.rf.fr f fun i hi => nin1 (N.ls i (List.mem_append_left _ hi)).2.1, B3.ru.fr f fun i hi => nin1 (N.ls i (List.mem_append_right _ hi)).2.1, B.g0, fun _ hx => (nomatch hx), List.nodup_nil, Nat.succ_le_succ hb, B.ze, B.zu⟩
    · have p : (k.h :: (k.b :: k.j :: k.n :: k.d :: k.e :: (k.fl ++ k.ul))).Perm k.foot := (List.perm_middle (a := k.h) (l₁ := [k.b, k.j, k.n]) (l₂ := k.d :: k.e :: (k.fl ++ k.ul))).symm
      have p' : ((H.length + 2) :: (k.b :: k.j :: k.n :: k.d :: k.e :: (k.fl ++ k.ul))).Perm (k.b :: k.j :: k.n :: (H.length + 2) :: k.d :: k.e :: (k.fl ++ k.ul)) := (List.perm_middle (a := H.length + 2) (l₁ := [k.b, k.j, k.n]) (l₂ := k.d :: k.e :: (k.fl ++ k.ul))).symm
      refine p'.nodup (List.nodup_cons.mpr ⟨fun h => ?_, (List.nodup_cons.mp (p.symm.nodup B.nd)).2⟩)
      have := lt _ (p.subset (List.mem_cons_of_mem _ h)); lia
noncomputable def Ψg : Orc := ext (Str.ofString "Book." ++ Str.ofString "drop") C_drop Ψf
theorem Pg_po : Ψg (Str.ofString "Book." ++ Str.ofString "place_of") = C_place_of := rfl
theorem Pg_ns : Ψg "need_stretch" = C_need_stretch := rfl
inductive IC_move (H : Hp) (Q : V → Hp → Prop) (X : XL) : List V → Prop where
  | mk (k : Bk) (ps : List Prs) (m : Mtg) (v a b : V) : BkAt H k ps [m] → smp v = true → smp a = true → smp b = true → strB (.int m.sz) a b = false → (numV v ≠ some m.no → X (xc "NoMeeting") H) → (numV v = some m.no → X (xc "NoTime") H) → IC_move H Q X [.ref k.b, v, a, b]
noncomputable def C_move : Ctr := fun vs H Q X => IC_move H Q X vs
theorem w_move : ∀ vs H Q X, C_move vs H Q X → wpFn Ψg f_B_move vs H Q X := by
  rintro vs H Q X ⟨k, ps, m, v, a, b, B, sv, sa, sb, hb, q1, q2⟩
  refine fn_of rfl ?_
  change wpSs Ψg f_B_move.body [some (.ref k.b), some v, some a, some b, none, none, none, none, none, none] H _ _
  refine zs_cons ?_
  generalize hK : sqX Ψg (_ :: _) = K
  simp_arith only [B.ns, ↓Pg_po]
  refine ⟨k, ps, m, v, B, sv, fun e => ?_, fun e => q1 e⟩
  subst hK
  have hl : listAt H k.h = some [.tup [.int m.no, .int m.hr, .int m.sz, .tup (m.who.map V.str)]] := B.lh
  refine zs_cons ?_
  generalize hK : sqX Ψg (_ :: _) = K
  have hi : idx [V.tup [.int m.no, .int m.hr, .int m.sz, .tup (m.who.map V.str)]] 0 = some (V.tup [.int m.no, .int m.hr, .int m.sz, .tup (m.who.map V.str)]) := rfl
  simp_arith only [B.ns, B.fH, hl, hi]
  subst hK
  refine zs_cons ?_
  generalize hK : sqX Ψg (_ :: _) = K
  simp_arith only [↓Pg_ns]
  exact ⟨.int m.sz, a, b, rfl, sa, sb, fun e' => by rw [hb] at e'; exact Bool.noConfusion e', fun _ => q2 e⟩
noncomputable def Ψh : Orc := ext (Str.ofString "Book." ++ Str.ofString "move") C_move Ψg
end Mine
namespace Mine
open PySem
inductive IC_rules_of (H : Hp) (Q : V → Hp → Prop) : List V → Prop where
  | mk (k : Bk) (n : Nat) (ps : List Prs) (hs : List Mtg) (p : Prs) : BkAt H k ps hs → listAt H n = some [.str p.nm] → p ∈ ps → p.fr.length + p.bu.length ≤ 100 → (∀ (H' : Hp) (i : Nat), H <+: H' → listAt H' i = some ((p.fr ++ p.bu).map pv) → Q (.ref i) H') → IC_rules_of H Q [.ref k.b, .ref n]
noncomputable def C_rules_of : Ctr := fun vs H Q _ => IC_rules_of H Q vs
theorem w_rules_of : ∀ vs H Q X, C_rules_of vs H Q X → wpFn Ψh f_B_rules_of vs H Q X := by
  rintro vs H Q X ⟨k, n, ps, hs, p, B, hl, hp, hz, q⟩
  refine fn_of rfl ?_
  change wpSs Ψh f_B_rules_of.body [some (.ref k.b), some (.ref n), none, none, none, none, none] H _ _
  refine zs_cons ?_
  generalize hK : sqX Ψh (_ :: _) = K
  simp_arith only [X_lit]
  subst hK
  have p1 : H <+: H ++ [.list []] := pre_new
  have l1 := listAt_new (H := H) (l := [])
  have e1 : (H ++ [O.list []]).length = H.length + 1 := List.length_append
  generalize H ++ [O.list []] = H1 at *
  have B1 := B.pre p1
  have hl1 := listAt_pre p1 hl
  refine e1_3 (B1.rf.get hp) fun i k1 k2 _ => ?_
  refine e1_3 (B1.ru.get hp) fun i' k1' k2' _ => ?_
  refine zs_cons ?_
  generalize hK : sqX Ψh (_ :: _) = K
  simp_arith only [hl1]
  rw [foX_cons]
  refine zs_cons ?_
  generalize hK' : sqX Ψh [] = K'
  simp_arith only [B1.ns, B1.fF, B1.dd, k1, l1, k2, List.length_map, List.nil_append, Nat.zero_add]
  refine ⟨by lia, ?_⟩
  have p2 : H1 <+: H1 ++ [.list (p.fr.map pv)] := pre_new
  have l2 := listAt_new (H := H1) (l := p.fr.map pv)
  have B2 := B1.pre p2
  have hl2 := listAt_pre p2 hl1
  have k2'' := listAt_pre p2 k2'
  generalize H1 ++ [O.list (p.fr.map pv)] = H2 at *
  simp_arith only [B2.ns, B2.fB, B2.de, k1', l2, k2'', List.length_map]
  refine ⟨by lia, ?_⟩
  have p3 : H2 <+: H2 ++ [.list (p.fr.map pv ++ p.bu.map pv)] := pre_new
  have l3 := listAt_new (H := H2) (l := p.fr.map pv ++ p.bu.map pv)
  have hl3 := listAt_pre p3 hl2
  rw [← List.map_append] at l3 p3 hl3 ⊢
  generalize H2 ++ [O.list ((p.fr ++ p.bu).map pv)] = H3 at *
  subst hK'
  refine ⟨hl3, ?_⟩
  rw [foX_nil]
  subst hK
  exact q H3 _ ((p1.trans p2).trans p3) l3
noncomputable def Ψi : Orc := ext (Str.ofString "Book." ++ Str.ofString "rules_of") C_rules_of Ψh
theorem Pi_ro : Ψi (Str.ofString "Book." ++ Str.ofString "rules_of") = C_rules_of := rfl
theorem Pi_se : Ψi "settled" = C_settled := rfl
noncomputable def stF (rs : List Pl) (x : Int) : Int := rs.foldl (fun x r => max x (max 0 r.stl)) x
noncomputable def mtF (nm : Str) (hs : List Mtg) (x : Int) : Int := hs.foldl (fun x m => if m.who.contains nm then max x (m.hr + m.sz) else x) x
noncomputable def qf (p : Prs) (hs : List Mtg) : Int := mtF p.nm hs (stF (p.fr ++ p.bu) 0)
inductive IC_quiet_from (H : Hp) (Q : V → Hp → Prop) : List V → Prop where
  | mk (k : Bk) (n : Nat) (ps : List Prs) (hs : List Mtg) (p : Prs) : BkAt H k ps hs → listAt H n = some [.str p.nm] → p ∈ ps → p.fr.length + p.bu.length ≤ 100 → (∀ H' : Hp, H <+: H' → Q (.int (qf p hs + 48)) H') → IC_quiet_from H Q [.ref k.b, .ref n]
noncomputable def C_quiet_from : Ctr := fun vs H Q _ => IC_quiet_from H Q vs
theorem q1_loop {XF : XS} {v0 v1 : V} {t4 t5 t6 t7 t8 : Option V} {H : Hp} {Q : QS} {st : Hp → Prop} (hst : st H) : ∀ (rs : List Pl) (x : Int) (t3 : Option V), (∀ t3', Q .next [some v0, some v1, some (.int (stF rs x)), t3', t4, t5, t6, t7, t8] H) →
    forGo (whBX Ψi [(.assign 2 (.call (.bi .max) [(.loc 2), (.call (.fn "settled") [(.loc 3)])]))] XF) st 3 (rs.map pv) [some v0, some v1, some (.int x), t3, t4, t5, t6, t7, t8] H Q := by
  intro rs
  induction rs with
  | nil => intro x t3 q; exact q _
  | cons r rs ih =>
    intro x t3 q
    rw [List.map_cons, foX_cons]
    simp_arith only [↓Pi_se]
    refine ⟨r, rfl, ?_⟩
    simp_arith only [X_lit]
    exact ⟨hst, ih _ _ q⟩
noncomputable abbrev q2B : List IS := [(.for 5 .val (.loc 1) [(.ite (.cmp (.loc 5) .In (.sub (.loc 4) (.lit (.int 3)))) [(.assign 2 (.call (.bi .max) [(.loc 2), (.bin .Add (.sub (.loc 4) (.lit (.int 1))) (.sub (.loc 4) (.lit (.int 2))))]))] [])])]
theorem q2_loop {XF : XS} {v0 : V} {n : Nat} {nm : Str} {t3 t6 t7 t8 : Option V} {H : Hp} {Q : QS} {st : Hp → Prop} (hst : st H) (hl : listAt H n = some [.str nm]) : ∀ (hs : List Mtg) (x : Int) (t4 t5 : Option V), (∀ t4' t5', Q .next [some v0, some (.ref n), some (.int (mtF nm hs x)), t3, t4', t5', t6, t7, t8] H) →
    forGo (whBX Ψi q2B XF) st 4 (hs.map mtv) [some v0, some (.ref n), some (.int x), t3, t4, t5, t6, t7, t8] H Q := by
  intro hs
  induction hs with
  | nil => intro x t4 t5 q; exact q _ _
  | cons m hs ih =>
    intro x t4 t5 q
    rw [List.map_cons, foX_cons]
    rw [show mtv m = V.tup [.int m.no, .int m.hr, .int m.sz, .tup (m.who.map V.str)] from rfl]
    simp_arith only [hl]
    rw [foX_cons]
    simp_arith only [mem_strs]
    have e : mtF nm (m :: hs) x = mtF nm hs (if m.who.contains nm then max x (m.hr + m.sz) else x) := rfl
    rw [e] at q
    refine iX_b (fun hw => ?_) (fun hw => ?_)
    · rw [hw] at q
      refine ⟨hl, ?_⟩
      rw [foX_nil]
      exact ⟨hst, ih _ _ _ q⟩
    · rw [hw] at q
      refine ⟨hl, ?_⟩
      rw [foX_nil]
      exact ⟨hst, ih _ _ _ q⟩
theorem w_quiet_from : ∀ vs H Q X, C_quiet_from vs H Q X → wpFn Ψi f_B_quiet_from vs H Q X := by
  rintro vs H Q X ⟨k, n, ps, hs, p, B, hl, hp, hz, q⟩
  refine fn_of rfl ?_
  change wpSs Ψi f_B_quiet_from.body [some (.ref k.b), some (.ref n), none, none, none, none, none, none, none] H _ _
  refine zs_cons ?_
  generalize hK : sqX Ψi (_ :: _) = K
  simp_arith only [X_lit]
  subst hK
  refine zs_cons ?_
  generalize hK : sqX Ψi (_ :: _) = K
  simp_arith only [B.ns, ↓Pi_ro]
  refine ⟨k, n, ps, hs, p, B, hl, hp, hz, fun H' i p1 li => ?_⟩
  simp_arith only [li]
  subst hK
  have B1 := B.pre p1
  have hl1 := listAt_pre p1 hl
  refine q1_loop li _ _ _ fun t3' => ?_
  refine zs_cons ?_
  generalize hK : sqX Ψi (_ :: _) = K
  simp_arith only [B1.ns, B1.fH, B1.lh]
  subst hK
  refine q2_loop B1.lh hl1 hs _ _ _ fun t4' t5' => ?_
  simp_arith only [X_lit]
  exact q H' p1
noncomputable def Ψj : Orc := ext (Str.ofString "Book." ++ Str.ofString "quiet_from") C_quiet_from Ψi
theorem Pj_na : Ψj (Str.ofString "Book." ++ Str.ofString "need_all") = C_need_all := rfl
theorem Pj_ib : Ψj "is_between" = C_is_between := rfl
theorem Pj_it : Ψj "is_time" = C_is_time := rfl
theorem Pj_ro : Ψj (Str.ofString "Book." ++ Str.ofString "rules_of") = C_rules_of := rfl
theorem Pj_rd : Ψj "round_of" = C_round_of := rfl
theorem Pj_lc : Ψj "least_common" = C_least_common := rfl
theorem Pj_qf : Ψj (Str.ofString "Book." ++ Str.ofString "quiet_from") = C_quiet_from := rfl
theorem Pj_lo : Ψj (Str.ofString "Book." ++ Str.ofString "look") = C_look := rfl
noncomputable def everR (nms xs : List Str) (h a : V) : Option Str := match needR nms xs with
  | some c => some c
  | none => if btw 1 48 (numV h) && timeB (numV a) then none else some "NoTime"
noncomputable def rndOf (p : Prs) (w : Int) : Prop := (p.fr ++ p.bu).map Pl.rnd = [1] ∧ w = 1 ∨ (p.fr ++ p.bu).map Pl.rnd = [1, w] ∧ 1 ≤ w ∧ w ≤ 1000000
structure Ev (ps : List Prs) (xs : List Str) (h a : V) (p : Prs) (hours lo w : Int) : Prop where
  ex : xs = [p.nm]
  eh : h = .int hours
  ea : a = .int lo
  hp : p ∈ ps
  rn : rndOf p w
inductive IC_ever (H : Hp) (Q : V → Hp → Prop) (X : XL) : List V → Prop where
  | mk (k : Bk) (n : Nat) (ps : List Prs) (hs : List Mtg) (xs : List Str) (h a : V) : BkAt H k ps hs → listAt H n = some (xs.map V.str) → smp h = true → smp a = true → (∀ c, everR (ps.map Prs.nm) xs h a = some c → X (xc c) H) →
      (everR (ps.map Prs.nm) xs h a = none → ∃ p hours lo w, Ev ps xs h a p hours lo w ∧ (5000 < w + max 0 (qf p hs + 48 - lo) → ∀ H', H <+: H' → X (xc "TooLong") H') ∧ (¬ 5000 < w + max 0 (qf p hs + 48 - lo) → Fre ps hs [p] hours lo 0 ∧ ∀ H', H <+: H' → Q (.int lo) H')) → IC_ever H Q X [.ref k.b, .ref n, h, a]
noncomputable def C_ever : Ctr := fun vs H Q X => IC_ever H Q X vs
theorem rd_go {X : XL} {t0 t1 t2 t3 t4 t5 t6 t7 : Option V} {H : Hp} {QL : List V → Hp → Prop} {st : Hp → Prop} (hst : st H) : ∀ (rs : List Pl) (acc : List V), QL (acc ++ rs.map fun r => .int r.rnd) H →
    compGo (coEX Ψj (.call (.fn "round_of") [(.loc 5)]) X) st 5 [t0, t1, t2, t3, t4, t5, t6, t7] (rs.map pv) acc H QL := by
  intro rs
  induction rs with
  | nil => intro acc q; rw [List.map_nil, List.append_nil] at q; exact q
  | cons r rs ih =>
    intro acc q
    rw [List.map_cons, coX_cons]
    simp_arith only [↓Pj_rd]
    refine ⟨r, rfl, hst, ih _ ?_⟩
    rw [List.append_assoc]; exact q
theorem rn_list {p : Prs} {w : Int} (h : rndOf p w) : (p.fr ++ p.bu).length ≤ 2 := by
  rcases h with ⟨h, _⟩ | ⟨h, _⟩
  · have := congrArg List.length h; rw [List.length_map] at this; rw [this]; decide
  · have := congrArg List.length h; rw [List.length_map] at this; rw [this]; exact Nat.le_refl _
theorem rn_lc {p : Prs} {w : Int} {H : Hp} {i : Nat} {Q : V → Hp → Prop} {X : XL} (h : rndOf p w) (hl : listAt H i = some ((p.fr ++ p.bu).map fun r => .int r.rnd)) (q : Q (.int w) H) : C_least_common [.ref i] H Q X := by
  have e : ((p.fr ++ p.bu).map fun r => V.int r.rnd) = ((p.fr ++ p.bu).map Pl.rnd).map V.int := by rw [List.map_map]; rfl
  rw [e] at hl
  rcases h with ⟨h, rfl⟩ | ⟨h, h1, h2⟩
  · rw [h] at hl; exact .one i hl q
  · rw [h] at hl; exact .two i w hl h1 h2 q
theorem w_ever : ∀ vs H Q X, C_ever vs H Q X → wpFn Ψj f_B_ever vs H Q X := by
  rintro vs H Q X ⟨k, n, ps, hs, xs, h, a, B, hl, sh, sa, q1, q2⟩
  refine fn_of rfl ?_
  change wpSs Ψj f_B_ever.body [some (.ref k.b), some (.ref n), some h, some a, none, none, none, none] H _ _
  unfold everR at q1 q2
  refine zs_cons ?_
  generalize hK : sqX Ψj (_ :: _) = K
  simp_arith only [B.ns, ↓Pj_na]
  refine ⟨k, n, ps, hs, xs, B, hl, fun e => ?_, fun c e => q1 c (by rw [e])⟩
  rw [e] at q1 q2
  subst hK
  refine zs_cons ?_
  generalize hK : sqX Ψj (_ :: _) = K
  simp_arith only [↓Pj_ib, ↓Pj_it]
  rw [cs_ib sh]
  simp_arith only [X_lit]
  cases e1 : btw 1 48 (numV h) with
  | false => rw [e1] at q1; subst hK; exact q1 _ rfl
  | true =>
  rw [e1] at q1 q2
  simp_arith only [X_lit]
  rw [cs_it sa]
  simp_arith only [X_lit]
  cases e2 : timeB (numV a) with
  | false => rw [e2] at q1; subst hK; exact q1 _ rfl
  | true =>
  rw [e2] at q1 q2
  obtain ⟨p, hours, lo, w, E, x1, x2⟩ := q2 rfl
  clear q1 q2
  obtain ⟨rfl, rfl, rfl, hp, rn⟩ := E
  have hz := rn_list rn
  rw [List.length_append] at hz
  simp_arith only [X_lit]
  subst hK
  refine zs_cons ?_
  generalize hK : sqX Ψj (_ :: _) = K
  simp_arith only [B.ns, ↓Pj_ro]
  refine ⟨k, n, ps, hs, p, B, hl, hp, by lia, fun H1 i p1 l1 => ?_⟩
  simp_arith only [l1]
  refine rd_go l1 _ _ ?_
  refine ⟨by rw [List.nil_append, List.length_map, List.length_append]; lia, ?_⟩
  rw [List.nil_append]
  have p2 : H1 <+: H1 ++ [.list ((p.fr ++ p.bu).map fun r => .int r.rnd)] := pre_new
  have l2 := listAt_new (H := H1) (l := (p.fr ++ p.bu).map fun r => .int r.rnd)
  generalize H1 ++ [O.list ((p.fr ++ p.bu).map fun r => .int r.rnd)] = H2 at *
  simp_arith only [↓Pj_lc]
  refine rn_lc rn l2 ?_
  subst hK
  have B2 := B.pre (p1.trans p2)
  have hl2 := listAt_pre (p1.trans p2) hl
  refine zs_cons ?_
  generalize hK : sqX Ψj (_ :: _) = K
  simp_arith only [B2.ns, ↓Pj_qf]
  refine ⟨k, n, ps, hs, p, B2, hl2, hp, by lia, fun H3 p3 => ?_⟩
  simp_arith only [X_lit]
  subst hK
  have p4 := (p1.trans p2).trans p3
  have B3 := B.pre p4
  have hl3 := listAt_pre p4 hl
  refine zs_cons ?_
  generalize hK : sqX Ψj (_ :: _) = K
  simp_arith only [X_lit]
  refine ⟨fun g => ?_, fun g => ?_⟩
  · subst hK; exact x1 g H3 p4
  · obtain ⟨F, q⟩ := x2 g
    subst hK
    have m0 := Int.le_max_left 0 (qf p hs + 48 - lo)
    have w1 : 1 ≤ w := by rcases rn with ⟨_, h⟩ | ⟨_, h, _⟩ <;> lia
    refine zs_cons ?_
    simp_arith only [B3.ns, ↓Pj_lo]
    refine ⟨k, n, ps, hs, [p], hours, lo, _, 0, B3, hl3, F, ?_, ?_⟩
    · lia
    simp_arith only [X_lit]
    exact q _ (p4.trans pre_new)
noncomputable def Ψk : Orc := ext (Str.ofString "Book." ++ Str.ofString "ever") C_ever Ψj
end Mine
namespace Mine
open PySem
noncomputable def cell (ns : List Int) (k : Int) : Int := if ns.length = 0 then 0 else ns.getD (k % (ns.length : Int)).toNat 0 + k / (ns.length : Int) * 31
noncomputable def C_cell_at : Ctr := fun vs H Q _ => ∃ ns k, vs = [.scr ns, .int k] ∧ ns.length ≤ 1000 ∧ Q (.int (cell ns k)) H
theorem cc_cell {ns : List Int} {k : Int} {H : Hp} {Q : V → Hp → Prop} {X : XL} : C_cell_at [.scr ns, .int k] H Q X = (ns.length ≤ 1000 ∧ Q (.int (cell ns k)) H) := by
  refine propext ⟨?_, fun ⟨a, b⟩ => ⟨ns, k, rfl, a, b⟩⟩
  rintro ⟨ns', k', e, a, b⟩
  cases e
  exact ⟨a, b⟩
theorem w_cell_at : ∀ vs H Q X, C_cell_at vs H Q X → wpFn Ψk f_l_cell_at vs H Q X := by
  rintro vs H Q X ⟨ns, k, rfl, hz, q⟩
  refine fn_of rfl ?_
  simp_arith only [f_l_cell_at, initL, List.map_cons, List.map_nil, List.replicate, List.cons_append, List.nil_append]
  unfold cell at q
  refine ⟨fun h => ?_, fun h => ?_⟩
  · rw [if_pos (by lia)] at q; exact q
  · have hp : 0 < (ns.length : Int) := by lia
    have h1 := Int.emod_nonneg k (show (ns.length : Int) ≠ 0 by lia)
    have h2 := Int.emod_lt_of_pos k hp
    have h3 : (k % (ns.length : Int)).toNat < ns.length := by lia
    rw [if_neg (by lia)] at q
    have e : idxP ns (k % (ns.length : Int)) = some (ns.getD (k % (ns.length : Int)).toNat 0) := by
      unfold idxP
      rw [if_pos h1, List.getElem?_eq_getElem h3]
      simp [h3]
    rw [e]
    refine ⟨⟨hp, by lia⟩, ?_⟩
    simp_arith only [X_lit]
    exact ⟨⟨hp, by lia⟩, q⟩
noncomputable def Θ1 : Orc := ext "_law_cell_at" C_cell_at Ψk
noncomputable def farOk (f : Int) : Prop := 0 ≤ f ∧ f ≤ 999999999800
noncomputable def lowS (x : Str) : Prop := ∀ c ∈ x.cps.toList, 97 ≤ c ∧ c ≤ 122
noncomputable def nameOk (x : Str) : Prop := 1 ≤ x.length ∧ x.length ≤ 12 ∧ lowS x
theorem rangeJ_len (a b : Int) : (rangeJ a b).length = (b - a).toNat := by unfold rangeJ; rw [List.length_map, List.length_range]
noncomputable def C_far : Ctr := fun vs H Q _ => ∃ c : Int, vs = [.int c] ∧ ∀ (f : Int) (H' : Hp), H <+: H' → farOk f → Q (.int f) H'
theorem w_far : ∀ vs H Q X, C_far vs H Q X → wpFn Θ1 f_l_far vs H Q X := by
  rintro vs H Q X ⟨c, rfl, q⟩
  refine fn_of rfl ?_
  have hw : c % 4 = 0 ∨ c % 4 = 1 ∨ c % 4 = 2 ∨ c % 4 = 3 := by lia
  simp_arith only [f_l_far, initL, List.map_cons, List.map_nil, List.replicate, List.cons_append, List.nil_append, listAt_new]
  rcases hw with e | e | e | e
  · rw [e]; exact q _ _ pre_new ⟨by decide, by decide⟩
  · rw [e]; exact q _ _ pre_new ⟨by lia, by lia⟩
  · rw [e]; exact q _ _ pre_new ⟨by lia, by lia⟩
  · rw [e]; exact q _ _ pre_new ⟨by decide, by decide⟩
noncomputable def Θ2 : Orc := ext "_law_far" C_far Θ1
noncomputable abbrev ABC : Str := "abcdefghijklmnopqrstuvwxyz"
theorem abc_all : ∀ k : Fin 26, idxP ABC.cps.toList (k.val : Int) = some (97 + k.val) := by decide +kernel
theorem abc_at {i : Int} (h1 : 0 ≤ i) (h2 : i < 26) : idxP ABC.cps.toList i = some (97 + i.toNat) := by
  have := abc_all ⟨i.toNat, by lia⟩
  simp only [Int.toNat_of_nonneg h1] at this
  exact this
theorem app_list {x : Str} {c : Nat} : (x ++ (⟨#[c]⟩ : Str)).cps.toList = x.cps.toList ++ [c] := Array.toList_append
theorem app_len {x : Str} {c : Nat} : (x ++ (⟨#[c]⟩ : Str)).length = x.length + 1 := by
  show (x ++ (⟨#[c]⟩ : Str)).cps.size = x.cps.size + 1
  rw [← Array.length_toList, app_list, List.length_append, Array.length_toList]; rfl
theorem app_low {x : Str} {c : Nat} (h : lowS x) (hc : 97 ≤ c ∧ c ≤ 122) : lowS (x ++ (⟨#[c]⟩ : Str)) := by
  intro d hd
  rw [app_list] at hd
  rcases List.mem_append.mp hd with q | q
  · exact h d q
  · rw [List.mem_singleton.mp q]; exact hc
noncomputable def plc (sh : Int) : Nat := (sh / 2 % 12).toNat
noncomputable def tagc (sh k : Int) : Nat := 97 + (sh / 24 % 2 * 13 + k).toNat
noncomputable def lowY (x : Str) : Prop := ∀ c ∈ x.cps.toList, 97 ≤ c ∧ c ≤ 121
theorem lowY.s {x : Str} (h : lowY x) : lowS x := fun c hc => ⟨(h c hc).1, Nat.le_succ_of_le (h c hc).2⟩
theorem app_lowY {x : Str} {c : Nat} (h : lowY x) (hc : 97 ≤ c ∧ c ≤ 121) : lowY (x ++ (⟨#[c]⟩ : Str)) := by
  intro d hd
  rw [app_list] at hd
  rcases List.mem_append.mp hd with q | q
  · exact h d q
  · rw [List.mem_singleton.mp q]; exact hc
noncomputable def Tag (sh k : Int) (x : Str) : Prop := if sh % 6 = 4 then x.length = k.toNat + 1 ∧ lowY x else x.cps.toList[plc sh]? = some (tagc sh k)
theorem Tag.ne {sh k k' : Int} {x y : Str} (h0 : 0 ≤ k) (h1 : k < k') (h : Tag sh k x) (h' : Tag sh k' y) : x ≠ y := by
  intro e
  subst e
  unfold Tag at h h'
  by_cases c : sh % 6 = 4
  · rw [if_pos c] at h h'; have := h.1; have := h'.1; lia
  · rw [if_neg c] at h h'
    rw [h] at h'
    have := Option.some.inj h'
    unfold tagc at this
    lia
noncomputable def zN (c : Nat) : Str := ⟨#[122, c]⟩
theorem Tag.nz {sh k : Int} {x : Str} {c : Nat} (h0 : 0 ≤ k) (h1 : k ≤ 2) (hc : 117 ≤ c) (h : Tag sh k x) : x ≠ zN c := by
  intro e
  subst e
  unfold Tag at h
  by_cases d : sh % 6 = 4
  · rw [if_pos d] at h
    have := (h.2 122 (show 122 ∈ [122, c] from .head _)).2
    lia
  · rw [if_neg d] at h
    have hm : 117 ≤ tagc sh k := by
      rcases List.mem_cons.mp (show tagc sh k ∈ [122, c] from List.mem_of_getElem? h) with q | q
      · lia
      · rw [List.mem_singleton.mp q]; exact hc
    unfold tagc at hm
    lia
theorem low_nil : lowS "" := fun c h => by cases h
theorem lowY_nil : lowY "" := fun c h => by cases h
inductive IC_name_by (H : Hp) (Q : V → Hp → Prop) : List V → Prop where
  | mk (sh : Int) (ce : Int) (k : Int) : (0 ≤ k) → (k ≤ 11) → (∀ x, nameOk x → Tag sh k x → Q (.str x) H) → IC_name_by H Q ([.int sh, .int ce, .int k])
noncomputable def C_name_by : Ctr := fun vs H Q _ => IC_name_by H Q vs
theorem n1_loop {XF : XS} {sh ce k : Int} {v4 : V} {t7 t8 t9 : Option V} {H : Hp} {Q : QS} : ∀ (js : List Int) (x : Str) (t6 : Option V), lowY x → x.length + js.length ≤ 12 →
    (∀ x' t6', lowY x' → x'.length = x.length + js.length → Q .next [some (.int sh), some (.int ce), some (.int k), some (.str ABC), some v4, some (.str x'), t6', t7, t8, t9] H) →
    forGo (whBX Θ2 [(.assign 5 (.bin .Add (.loc 5) (.sub (.loc 3) (.bin .Mod (.bin .Add (.bin .FloorDiv (.loc 0) (.lit (.int 6))) (.bin .Mult (.loc 6) (.bin .Add (.lit (.int 1)) (.bin .Mod (.bin .FloorDiv (.loc 0) (.lit (.int 150))) (.lit (.int 5)))))) (.lit (.int 25))))))] XF) (fun _ => True) 6 (js.map V.int)
      [some (.int sh), some (.int ce), some (.int k), some (.str ABC), some v4, some (.str x), t6, t7, t8, t9] H Q := by
  intro js
  induction js with
  | nil => intro x t6 hl hz q; exact q x t6 hl rfl
  | cons j js ih =>
    intro x t6 hl hz q
    rw [List.map_cons, foX_cons]
    rw [List.length_cons] at hz q
    have hi := abc_at (i := (sh / 6 + j * (1 + sh / 150 % 5)) % 25) (Int.emod_nonneg _ (by decide)) (by have := Int.emod_lt_of_pos (sh / 6 + j * (1 + sh / 150 % 5)) (show (0 : Int) < 25 by decide); lia)
    have hc : 97 ≤ 97 + ((sh / 6 + j * (1 + sh / 150 % 5)) % 25).toNat ∧ 97 + ((sh / 6 + j * (1 + sh / 150 % 5)) % 25).toNat ≤ 121 := by
      have := Int.emod_lt_of_pos (sh / 6 + j * (1 + sh / 150 % 5)) (show (0 : Int) < 25 by decide)
      lia
    simp_arith only [↓sV_str, ↓q_lenstr, ↓q_sstr, ↓q_ins, ↓q_nins, ↓u_str, ↓q_adds, hi]
    refine ⟨.inr ⟨by lia, by lia⟩, by show x.length + 1 ≤ _; lia, ih _ _ (app_lowY hl hc) (by rw [app_len]; lia) fun x' t6' h1 h2 => q x' t6' h1 (by rw [h2, app_len]; lia)⟩
theorem n2_loop {XF : XS} {sh ce k : Int} {t7 t8 t9 : Option V} {H : Hp} {Q : QS} (hk : 0 ≤ k ∧ k ≤ 11) : ∀ (n : Nat) (j : Nat) (x : Str) (t6 : Option V), lowS x → x.length = j → j + n ≤ 12 → (plc sh < j → x.cps.toList[plc sh]? = some (tagc sh k)) →
    (∀ x' t6', lowS x' → x'.length = j + n → (plc sh < j + n → x'.cps.toList[plc sh]? = some (tagc sh k)) → Q .next [some (.int sh), some (.int ce), some (.int k), some (.str ABC), some (.int (sh / 2 % 12)), some (.str x'), t6', t7, t8, t9] H) →
    forGo (whBX Θ2 [(.ite (.cmp (.loc 6) .Eq (.loc 4)) [(.assign 5 (.bin .Add (.loc 5) (.sub (.loc 3) (.bin .Add (.bin .Mult (.bin .Mod (.bin .FloorDiv (.loc 0) (.lit (.int 24))) (.lit (.int 2))) (.lit (.int 13))) (.loc 2)))))] [(.assign 5 (.bin .Add (.loc 5) (.sub (.loc 3) (.bin .Mod (.bin .Add (.bin .FloorDiv (.loc 1) (.lit (.int 288))) (.bin .Mult (.loc 6) (.bin .Add (.lit (.int 1)) (.bin .Mod (.loc 1) (.lit (.int 5)))))) (.lit (.int 26))))))])] XF) (fun _ => True) 6
      ((List.range' j n).map fun (m : Nat) => V.int (m : Int)) [some (.int sh), some (.int ce), some (.int k), some (.str ABC), some (.int (sh / 2 % 12)), some (.str x), t6, t7, t8, t9] H Q := by
  intro n
  induction n with
  | zero => intro j x t6 hl hx _ ht q; exact q x t6 hl hx ht
  | succ n ih =>
    intro j x t6 hl hx hz ht q
    show forGo _ _ _ (V.int (j : Int) :: ((List.range' (j + 1) n).map fun (m : Nat) => V.int (m : Int))) _ _ _
    rw [foX_cons]
    have hi1 := abc_at (i := sh / 24 % 2 * 13 + k) (by lia) (by lia)
    have hi2 := abc_at (i := (ce / 288 + (j : Int) * (1 + ce % 5)) % 26) (Int.emod_nonneg _ (by decide)) (Int.emod_lt_of_pos _ (by decide))
    have hpl : 0 ≤ sh / 2 % 12 := by lia
    have nxt : ∀ c, 97 ≤ c ∧ c ≤ 122 → (plc sh = j → c = tagc sh k) → forGo (whBX Θ2 _ XF) (fun _ => True) 6 ((List.range' (j + 1) n).map fun (m : Nat) => V.int (m : Int)) [some (.int sh), some (.int ce), some (.int k), some (.str ABC), some (.int (sh / 2 % 12)), some (.str (x ++ (⟨#[c]⟩ : Str))), some (.int (j : Int)), t7, t8, t9] H Q := fun c hc hp => by
      refine ih (j + 1) _ _ (app_low hl hc) (by rw [app_len, hx]) (by lia) (fun h => ?_) fun x' t6' h1 h2 h3 => q x' t6' h1 (by lia) fun h => h3 (by lia)
      rw [app_list]
      have hxl : x.cps.toList.length = j := by rw [Array.length_toList]; exact hx
      by_cases hj : plc sh = j
      · rw [List.getElem?_append_right (by lia), hxl, hj, Nat.sub_self, ← hp hj]; rfl
      · rw [List.getElem?_append_left (by lia)]; exact ht (by lia)
    simp_arith only [↓sV_str, ↓q_lenstr, ↓q_sstr, ↓q_ins, ↓q_nins, ↓u_str, ↓q_adds, hi1, hi2]
    refine ⟨fun h => ⟨by show x.length + 1 ≤ _; lia, ?_⟩, fun h => ⟨.inr ⟨by lia, by lia⟩, by show x.length + 1 ≤ _; lia, ?_⟩⟩
    · exact nxt _ (by lia) fun _ => rfl
    · refine nxt _ ?_ fun hp => absurd ?_ h
      · have := Int.emod_lt_of_pos (ce / 288 + (j : Int) * (1 + ce % 5)) (show (0 : Int) < 26 by decide)
        lia
      · unfold plc at hp; lia
theorem rangeL_N {b : Int} : rangeL 0 b = (List.range' 0 b.toNat).map fun (m : Nat) => V.int (m : Int) := by
  unfold rangeL
  rw [← List.range_eq_range', show b - 0 = b by lia]
  exact List.map_congr_left fun k _ => by rw [Int.zero_add]
theorem w_name_by : ∀ vs H Q X, C_name_by vs H Q X → wpFn Θ2 f_l_name_by vs H Q X := by
  rintro vs H Q X ⟨sh, ce, k, h0, h1, q⟩
  refine fn_of rfl ?_
  change wpSs Θ2 f_l_name_by.body [some (.int sh), some (.int ce), some (.int k), none, none, none, none, none, none, none] H _ _
  have two : ∀ ce : Int, ¬ sh % 6 = 4 → wpSs Θ2 (f_l_name_by.body.drop 5) [some (.int sh), some (.int ce), some (.int k), some (.str ABC), some (.int (sh / 2 % 12)), some (.str ""), none, none, none, none] H (fun fl _ H1 => Q (retV fl) H1) (fun x _ H1 => X x H1) := fun ce h6 => by
    refine zs_cons ?_
    generalize hK : sqX Θ2 (_ :: _) = K
    have hp1 : 0 ≤ sh / 2 % 12 := by lia
    have hp2 : sh / 2 % 12 < 12 := by lia
    have he1 := Int.emod_nonneg (ce / 24) (show 12 - sh / 2 % 12 ≠ 0 by lia)
    have he2 := Int.emod_lt_of_pos (ce / 24) (show 0 < 12 - sh / 2 % 12 by lia)
    simp_arith only [↓sV_str, ↓q_lenstr, ↓q_sstr, ↓q_ins, ↓q_nins, ↓u_str, ↓q_adds]
    refine ⟨⟨by lia, by lia⟩, ⟨by lia, by lia⟩, ?_⟩
    rw [rangeL_N]
    subst hK
    refine n2_loop ⟨h0, h1⟩ _ 0 _ _ low_nil rfl (by lia) (fun h => by lia) fun x' t6' k1 k2 k3 => ?_
    simp_arith only [↓sV_str, ↓q_lenstr, ↓q_sstr, ↓q_ins, ↓q_nins, ↓u_str, ↓q_adds]
    refine q x' ⟨by lia, by lia, k1⟩ ?_
    unfold Tag
    rw [if_neg h6]
    exact k3 (by unfold plc; lia)
  have main : ∀ ce : Int, wpSs Θ2 (f_l_name_by.body.drop 3) [some (.int sh), some (.int ce), some (.int k), some (.str ABC), some (.int (sh / 2 % 12)), none, none, none, none, none] H (fun fl _ H1 => Q (retV fl) H1) (fun x _ H1 => X x H1) := fun ce => by
    refine zs_cons ?_
    generalize hK : sqX Θ2 (_ :: _) = K
    simp_arith only [↓sV_str, ↓q_lenstr, ↓q_sstr, ↓q_ins, ↓q_nins, ↓u_str, ↓q_adds]
    subst hK
    refine zs_cons ?_
    generalize hK : sqX Θ2 (_ :: _) = K
    simp_arith only [↓sV_str, ↓q_lenstr, ↓q_sstr, ↓q_ins, ↓q_nins, ↓u_str, ↓q_adds]
    refine ⟨fun h6 => ⟨⟨by lia, by lia⟩, ?_⟩, fun h6 => by subst hK; exact two ce h6⟩
    rw [rangeL_J]
    have hlen := rangeJ_len 0 (k + 1)
    refine n1_loop _ _ _ lowY_nil (by show 0 + _ ≤ _; lia) fun x' t6' k1 k2 => ?_
    have k2 : x'.length = 0 + (rangeJ 0 (k + 1)).length := k2
    simp_arith only [↓sV_str, ↓q_lenstr, ↓q_sstr, ↓q_ins, ↓q_nins, ↓u_str, ↓q_adds]
    subst hK
    refine q x' ⟨by lia, by lia, k1.s⟩ ?_
    unfold Tag
    rw [if_pos h6]; exact ⟨by lia, k1⟩
  refine zs_cons ?_
  generalize hK : sqX Θ2 (_ :: _) = K
  simp_arith only [↓sV_str, ↓q_lenstr, ↓q_sstr, ↓q_ins, ↓q_nins, ↓u_str, ↓q_adds]
  subst hK
  refine zs_cons ?_
  generalize hK : sqX Θ2 (_ :: _) = K
  simp_arith only [↓sV_str, ↓q_lenstr, ↓q_sstr, ↓q_ins, ↓q_nins, ↓u_str, ↓q_adds]
  subst hK
  refine zs_cons ?_
  generalize hK : sqX Θ2 (_ :: _) = K
  simp_arith only [↓sV_str, ↓q_lenstr, ↓q_sstr, ↓q_ins, ↓q_nins, ↓u_str, ↓q_adds]
  subst hK
  exact ⟨fun _ => main _, fun _ => main _⟩
noncomputable def Θ3 : Orc := ext "_law_name_by" C_name_by Θ2
end Mine
namespace Mine
open PySem
noncomputable def wds : List (Str × Nat) := [("come", 2), ("busy", 2), ("is_free", 2), ("first", 4), ("meet", 4), ("ever", 3), ("drop", 1), ("move", 3)]
noncomputable def clw (u : Str × Nat) : IS := .ite (.cmp (.loc 1) .Eq (.lit (.str u.1))) [.expr (.mcall (.loc 0) u.1 ([.sub (.loc 2) (.lit (.int 0)), .sub (.loc 2) (.lit (.int 1)), .sub (.loc 2) (.lit (.int 2)), .sub (.loc 2) (.lit (.int 3))].take u.2))] []
theorem cl_body : f_l_called.body = wds.map clw := rfl
structure Cl (H : Hp) (b n : Nat) (w : Str) (l : List V) (Q : V → Hp → Prop) (X : XL) : Prop where
  hj : ∃ j, nsAt H b = some j
  hl : listAt H n = some l
  hw : (w, l.length) ∈ wds
  q : Ψk (Str.ofString "Book." ++ w) (.ref b :: l) H Q X
inductive IC_called (H : Hp) (Q : V → Hp → Prop) (X : XL) : List V → Prop where
  | mk (b n : Nat) (w : Str) (l : List V) : Cl H b n w l (fun _ H' => Q .none H') X → IC_called H Q X [.ref b, .str w, .ref n]
noncomputable def C_called : Ctr := fun vs H Q X => IC_called H Q X vs
theorem cl_skip {b n : Nat} {w : Str} {H : Hp} {Q : QS} {X : XS} : ∀ ws : List (Str × Nat), (∀ u ∈ ws, w ≠ u.1) → wpSs Θ3 (ws.map clw) [some (.ref b), some (.str w), some (.ref n), none, none, none] H Q X = Q .next [some (.ref b), some (.str w), some (.ref n), none, none, none] H := by
  intro ws
  induction ws with
  | nil => intro _; rfl
  | cons u ws ih =>
    intro h
    rw [List.map_cons, ← ih fun u' hu => h u' (List.mem_cons_of_mem _ hu)]
    rw [Zs_cons]
    generalize hK : sqX Θ3 (ws.map clw) = K
    unfold clw
    simp_arith only [beq_eq_false_iff_ne.mpr (h u List.mem_cons_self)]
    subst hK
    rfl
theorem cl_hit {b n : Nat} {w : Str} {l : List V} {H : Hp} {Q : QS} {X : XS} {j : Nat × List (Str × V)} {ws : List (Str × Nat)} (hj : nsAt H b = some j) (hl : listAt H n = some l) (h1 : 1 ≤ l.length) (h4 : l.length ≤ 4) (hw : ∀ u ∈ ws, w ≠ u.1)
    (q : Θ3 (Str.ofString "Book." ++ w) (.ref b :: l) H (fun _ H' => Q .next [some (.ref b), some (.str w), some (.ref n), none, none, none] H') (fun x H' => X x [some (.ref b), some (.str w), some (.ref n), none, none, none] H')) : wpSs Θ3 (clw (w, l.length) :: ws.map clw) [some (.ref b), some (.str w), some (.ref n), none, none, none] H Q X := by
  rw [← funext fun (_ : V) => funext fun H' => cl_skip (b := b) (n := n) (H := H') (Q := Q) (X := X) ws hw] at q
  refine zs_cons ?_
  have e : (fun (_ : V) (H' : Hp) => wpSs Θ3 (ws.map clw) [some (.ref b), some (.str w), some (.ref n), none, none, none] H' Q X) = fun _ H' => sqX Θ3 (ws.map clw) Q X .next [some (.ref b), some (.str w), some (.ref n), none, none, none] H' := rfl
  rw [e] at q
  generalize sqX Θ3 (ws.map clw) = K at q ⊢
  unfold clw
  rcases l with _ | ⟨a1, _ | ⟨a2, _ | ⟨a3, _ | ⟨a4, _ | ⟨a5, l⟩⟩⟩⟩⟩
  · exact absurd h1 (by decide)
  · simp_arith only [beq_self_eq_true, List.take, List.length_cons, List.length_nil, hj, hl]; exact q
  · simp_arith only [beq_self_eq_true, List.take, List.length_cons, List.length_nil, hj, hl]; exact q
  · simp_arith only [beq_self_eq_true, List.take, List.length_cons, List.length_nil, hj, hl]; exact q
  · simp_arith only [beq_self_eq_true, List.take, List.length_cons, List.length_nil, hj, hl]; exact q
  · simp only [List.length_cons] at h4; lia
theorem cl_at {b n : Nat} {w : Str} {l : List V} {H : Hp} {Q : QS} {X : XS} {j : Nat × List (Str × V)} (hj : nsAt H b = some j) (hl : listAt H n = some l) (h1 : 1 ≤ l.length) (h4 : l.length ≤ 4)
    (q : Θ3 (Str.ofString "Book." ++ w) (.ref b :: l) H (fun _ H' => Q .next [some (.ref b), some (.str w), some (.ref n), none, none, none] H') (fun x H' => X x [some (.ref b), some (.str w), some (.ref n), none, none, none] H')) : ∀ ws : List (Str × Nat), (ws.map Prod.fst).Nodup → (w, l.length) ∈ ws → wpSs Θ3 (ws.map clw) [some (.ref b), some (.str w), some (.ref n), none, none, none] H Q X := by
  intro ws
  induction ws with
  | nil => intro _ h; exact nomatch h
  | cons u ws ih =>
    intro nd h
    rw [List.map_cons] at nd
    obtain ⟨n1, n2⟩ := List.nodup_cons.mp nd
    rcases List.mem_cons.mp h with e | h
    · subst e
      exact cl_hit hj hl h1 h4 (fun u' hu e => n1 (show w ∈ _ by rw [e]; exact List.mem_map_of_mem hu)) q
    · rw [List.map_cons]
      refine zs_cons ?_
      have hne : w ≠ u.1 := fun e => n1 (e ▸ List.mem_map_of_mem (f := Prod.fst) h)
      have := ih n2 h
      generalize hK : sqX Θ3 (ws.map clw) = K
      unfold clw
      simp_arith only [beq_eq_false_iff_ne.mpr hne]
      subst hK
      exact this
theorem w_len : ∀ u ∈ wds, 1 ≤ u.2 ∧ u.2 ≤ 4 := by decide
theorem w_nd : (wds.map Prod.fst).Nodup := by decide
theorem w_bk : ∀ u ∈ wds, Θ3 (Str.ofString "Book." ++ u.1) = Ψk (Str.ofString "Book." ++ u.1) := by
  intro u hu
  have e : ∀ x ∈ wds, (Str.ofString "Book." ++ x.1 == Str.ofString "_law_name_by") = false ∧ (Str.ofString "Book." ++ x.1 == Str.ofString "_law_far") = false ∧ (Str.ofString "Book." ++ x.1 == Str.ofString "_law_cell_at") = false := by decide
  refine e0_3 (e u hu) fun e1 e2 e3 => ?_
  have ex : ∀ {n : Str} {C : Ctr} {Φ : Orc} {x : Str}, (x == n) = false → ext n C Φ x = Φ x := fun h => by
    funext vs H Q X
    unfold ext
    rw [h]; rfl
  unfold Θ3 Θ2 Θ1
  rw [ex e1, ex e2, ex e3]
theorem w_called : ∀ vs H Q X, C_called vs H Q X → wpFn Θ3 f_l_called vs H Q X := by
  rintro vs H Q X ⟨b, n, w, l, ⟨⟨j, hj⟩, hl, hw, q⟩⟩
  refine fn_of rfl ?_
  have hz := w_len _ hw
  rw [← w_bk _ hw] at q
  change wpSs Θ3 f_l_called.body [some (.ref b), some (.str w), some (.ref n), none, none, none] H _ _
  rw [cl_body]
  exact cl_at hj hl hz.1 hz.2 q wds w_nd hw
noncomputable def Θ4 : Orc := ext "_law_called" C_called Θ3
theorem T4_ca : Θ4 "_law_called" = C_called := rfl
noncomputable def cls9 : List Str := ["NoName", "Taken", "Stranger", "NoRule", "Clash", "Twice", "NoTime", "NoMeeting", "TooLong"]
noncomputable abbrev hs9 : List (Str × Option Nat × HB) := cls9.map fun c => (c, none, .ret (.lit (.str c)))
noncomputable abbrev hsA : List (Str × Option Nat × HB) := [("HourError", some 3, .any 4 ["NoName", "Taken", "Stranger", "NoRule", "Clash", "Twice", "NoTime", "NoMeeting", "TooLong", "NoDate"])]
noncomputable def XCl (Q : V → Hp → Prop) (b n : Nat) (w : Str) : XL := fun x H' => hnX hs9 (fun fl _ H1 => Q (retV fl) H1) x [some (.ref b), some (.str w), some (.ref n), none, none, none] H'
noncomputable def XAl (Q : V → Hp → Prop) (b n : Nat) (w : Str) : XL := fun x H' => hnX hsA (fun fl _ H1 => Q (retV fl) H1) x [some (.ref b), some (.str w), some (.ref n), none, none, none, none, none] H'
inductive IC_class_one (H : Hp) (Q : V → Hp → Prop) : List V → Prop where
  | mk (b n : Nat) (w : Str) (l : List V) : Cl H b n w l (fun _ H' => Q (.str "none") H') (XCl Q b n w) → IC_class_one H Q [.ref b, .str w, .ref n]
noncomputable def C_class_one : Ctr := fun vs H Q _ => IC_class_one H Q vs
theorem h9_go {L : Lc} {H : Hp} {Q : QS} {c : Str} (q : Q (.ret (.str c)) L H) : ∀ cs : List Str, c ∈ cs → (∀ d ∈ cs, d ≠ "HourError" ∧ d ≠ "ValueError") → hndl (xc c) L H Q (cs.map fun c => (c, none, .ret (.lit (.str c)))) := by
  intro cs
  induction cs with
  | nil => intro h; exact nomatch h
  | cons d cs ih =>
    intro h hd
    show ifP ((xc c).ups.contains d) (Q (.ret (.str d)) L H) (hndl (xc c) L H Q (cs.map fun c => (c, none, .ret (.lit (.str c)))))
    by_cases e : d = c
    · subst e
      rw [show (xc d).ups.contains d = true from List.contains_iff_mem.mpr (.head _)]
      exact q
    · have : (xc c).ups.contains d = false := by
        rw [Bool.eq_false_iff]
        intro h'
        rcases List.mem_cons.mp (List.contains_iff_mem.mp h') with q | q
        · exact e q
        rcases List.mem_cons.mp q with q | q
        · exact (hd d List.mem_cons_self).1 q
        exact (hd d List.mem_cons_self).2 (List.mem_singleton.mp q)
      rw [this]
      rcases List.mem_cons.mp h with h | h
      · exact absurd h.symm e
      exact ih h fun d' hd' => hd d' (List.mem_cons_of_mem _ hd')
theorem h9_ne : ∀ d ∈ cls9, d ≠ (Str.ofString "HourError") ∧ d ≠ (Str.ofString "ValueError") := by decide
theorem xc9 {Q : V → Hp → Prop} {b n : Nat} {w : Str} {c : Str} {H : Hp} (hc : c ∈ cls9) (q : Q (.str c) H) : XCl Q b n w (xc c) H := h9_go (Q := fun fl _ H1 => Q (retV fl) H1) q cls9 hc h9_ne
theorem any9 : ∀ c ∈ cls9, anyV (xc c) ["NoName", "Taken", "Stranger", "NoRule", "Clash", "Twice", "NoTime", "NoMeeting", "TooLong", "NoDate"] = true := by decide
theorem xa9 {Q : V → Hp → Prop} {b n : Nat} {w : Str} {c : Str} {H : Hp} (hc : c ∈ cls9) (q : Q (.bool true) H) : XAl Q b n w (xc c) H := by
  show ifP ((xc c).ups.contains _) (Q (.bool (anyV (xc c) _)) H) _
  rw [show (xc c).ups.contains (Str.ofString "HourError") = true from List.contains_iff_mem.mpr (.tail _ (.head _)), any9 c hc]
  exact q
theorem w_class_one : ∀ vs H Q X, C_class_one vs H Q X → wpFn Θ4 f_l_class_one vs H Q X := by
  rintro vs H Q X ⟨b, n, w, l, C⟩
  refine fn_of rfl ?_
  change wpSs Θ4 f_l_class_one.body [some (.ref b), some (.str w), some (.ref n), none, none, none] H _ _
  refine zs_cons ?_
  generalize hK : sqX Θ4 (_ :: _) = K
  simp_arith only [↓T4_ca]
  subst hK
  exact ⟨b, n, w, l, C⟩
noncomputable def Θ5 : Orc := ext "_law_class_one" C_class_one Θ4
theorem T5_ca : Θ5 "_law_called" = C_called := rfl
inductive IC_by_any (H : Hp) (Q : V → Hp → Prop) : List V → Prop where
  | mk (b n : Nat) (w : Str) (l : List V) : Cl H b n w l (fun _ H' => Q (.bool false) H') (XAl Q b n w) → IC_by_any H Q [.ref b, .str w, .ref n]
noncomputable def C_by_any : Ctr := fun vs H Q _ => IC_by_any H Q vs
theorem w_by_any : ∀ vs H Q X, C_by_any vs H Q X → wpFn Θ5 f_l_by_any vs H Q X := by
  rintro vs H Q X ⟨b, n, w, l, C⟩
  refine fn_of rfl ?_
  change wpSs Θ5 f_l_by_any.body [some (.ref b), some (.str w), some (.ref n), none, none, none, none, none] H _ _
  refine zs_cons ?_
  generalize hK : sqX Θ5 (_ :: _) = K
  simp_arith only [↓T5_ca]
  subst hK
  exact ⟨b, n, w, l, C⟩
noncomputable def Θ6 : Orc := ext "_law_by_any" C_by_any Θ5
end Mine
namespace Mine
open PySem
theorem K_come : Ψk (Str.ofString "Book." ++ Str.ofString "come") = C_come := rfl
theorem K_busy : Ψk (Str.ofString "Book." ++ Str.ofString "busy") = C_busy := rfl
theorem K_free : Ψk (Str.ofString "Book." ++ Str.ofString "is_free") = C_is_free := rfl
theorem K_first : Ψk (Str.ofString "Book." ++ Str.ofString "first") = C_first := rfl
theorem K_meet : Ψk (Str.ofString "Book." ++ Str.ofString "meet") = C_meet := rfl
theorem K_ever : Ψk (Str.ofString "Book." ++ Str.ofString "ever") = C_ever := rfl
theorem K_drop : Ψk (Str.ofString "Book." ++ Str.ofString "drop") = C_drop := rfl
theorem K_move : Ψk (Str.ofString "Book." ++ Str.ofString "move") = C_move := rfl
structure Bad (ps : List Prs) (m : Mtg) (h0 : Nat) (H : Hp) (w : Str) (l : List V) (c : Str) : Prop where
  hw : (w, l.length) ∈ wds
  hc : c ∈ cls9
  go : ∀ (H' : Hp) (k : Bk) (Q : V → Hp → Prop) (X : XL), H <+: H' → BkAt H' k ps [m] → (∀ i ∈ k.foot, i < h0) → k.c ≤ 100 → (∀ H'', H' <+: H'' → X (xc c) H'') → Ψk (Str.ofString "Book." ++ w) (.ref k.b :: l) H' Q X
structure Cs (ps : List Prs) (m : Mtg) (h0 : Nat) (H : Hp) (v : V) : Prop where
  ex : ∃ w n l c, v = .tup [.str w, .ref n, .str c] ∧ listAt H n = some l ∧ Bad ps m h0 H w l c
theorem Bad.pre {ps : List Prs} {m : Mtg} {h0 : Nat} {H H' : Hp} {w : Str} {l : List V} {c : Str} (b : Bad ps m h0 H w l c) (p : H <+: H') : Bad ps m h0 H' w l c := ⟨b.hw, b.hc, fun H1 k Q X p1 => b.go H1 k Q X (p.trans p1)⟩
theorem Tg.okP {t : Tg} {H H' : Hp} (p : H <+: H') (h : t.ok H) : t.ok H' := by
  cases t with
  | w4 i => obtain ⟨l, h⟩ := h; exact ⟨l, listAt_pre p h⟩
  | _ => exact h
theorem i_come : (Str.ofString "come", 2) ∈ wds := .head _
theorem i_busy : (Str.ofString "busy", 2) ∈ wds := .tail _ (.head _)
theorem i_is_free : (Str.ofString "is_free", 2) ∈ wds := .tail _ (.tail _ (.head _))
theorem i_first : (Str.ofString "first", 4) ∈ wds := .tail _ (.tail _ (.tail _ (.head _)))
theorem i_meet : (Str.ofString "meet", 4) ∈ wds := .tail _ (.tail _ (.tail _ (.tail _ (.head _))))
theorem i_ever : (Str.ofString "ever", 3) ∈ wds := .tail _ (.tail _ (.tail _ (.tail _ (.tail _ (.head _)))))
theorem i_drop : (Str.ofString "drop", 1) ∈ wds := .tail _ (.tail _ (.tail _ (.tail _ (.tail _ (.tail _ (.head _))))))
theorem i_move : (Str.ofString "move", 3) ∈ wds := .tail _ (.tail _ (.tail _ (.tail _ (.tail _ (.tail _ (.tail _ (.head _)))))))
theorem so_ne {c d : Str} (h : some c = some d) : d = c := (Option.some.inj h).symm
section
variable {ps : List Prs} {m : Mtg} {h0 : Nat} {H : Hp}
theorem bad_come {v : V} {i : Nat} {ts : List Tg} {c : Str} (hl : listAt H i = some (ts.map tv)) (ha : ascV v) (sv : smp v = true) (hok : ∀ t ∈ ts, t.ok H) (hc : c ∈ cls9) (hr : comeR (ps.map Prs.nm) v ts = some c) : Bad ps m h0 H "come" [v, .ref i] c :=
  ⟨i_come, hc, fun H' k Q X p B _ _ x => by
    rw [K_come]
    exact .mk k ps [m] v i ts B (listAt_pre p hl) ha sv (fun t ht => Tg.okP p (hok t ht)) (fun d hd => by rw [hr] at hd; rw [so_ne hd]; exact x H' (List.prefix_refl _)) fun hn => by rw [hr] at hn; exact no_some hn.symm⟩
theorem bad_busyS {v w : V} (sv : smp v = true) (hi : inB v (ps.map Prs.nm) = false) : Bad ps m h0 H "busy" [v, w] "Stranger" :=
  ⟨i_busy, by decide, fun H' k Q X p B _ _ x => by
    rw [K_busy]
    exact .str k ps [m] v w B sv hi (x H' (List.prefix_refl _))⟩
theorem bad_free {v : V} {x : Int} (sv : smp v = true) (hi : inB v (ps.map Prs.nm) = false) : Bad ps m h0 H "is_free" [v, .int x] "Stranger" :=
  ⟨i_is_free, by decide, fun H' k Q X p B _ _ q => by
    rw [K_free]
    refine .mk k ps [m] v x B sv (fun p hp e => ?_) fun _ => q H' (List.prefix_refl _)
    subst e
    have : inB (.str p.nm) (ps.map Prs.nm) = true := List.contains_iff_mem.mpr (List.mem_map_of_mem hp)
    rw [hi] at this; exact Bool.noConfusion this⟩
theorem bad_first {n : Nat} {xs : List Str} {h a b : V} {c : Str} (hl : listAt H n = some (xs.map V.str)) (sh : smp h = true) (sa : smp a = true) (sb : smp b = true) (hc : c ∈ cls9) (hr : firstR (ps.map Prs.nm) xs h a b = some c) : Bad ps m h0 H "first" [.ref n, h, a, b] c :=
  ⟨i_first, hc, fun H' k Q X p B _ _ x => by
    rw [K_first]
    exact .mk k n ps [m] xs h a b B (listAt_pre p hl) sh sa sb (fun d hd => by rw [hr] at hd; rw [so_ne hd]; exact x H' (List.prefix_refl _)) fun hn => by rw [hr] at hn; exact no_some hn.symm⟩
theorem bad_meet {n : Nat} {xs : List Str} {h a b : V} {c : Str} (hn : h0 ≤ n) (hl : listAt H n = some (xs.map V.str)) (sh : smp h = true) (sa : smp a = true) (sb : smp b = true) (hc : c ∈ cls9) (hr : firstR (ps.map Prs.nm) xs h a b = some c) : Bad ps m h0 H "meet" [.ref n, h, a, b] c :=
  ⟨i_meet, hc, fun H' k Q X p B hf hk x => by
    rw [K_meet]
    exact .mk k n ps [m] xs h a b B (listAt_pre p hl) (fun hi => by have := hf n hi; lia) (by show 1 ≤ 1000; decide) (by lia) sh sa sb (fun d hd => by rw [hr] at hd; rw [so_ne hd]; exact x H' (List.prefix_refl _)) fun hn => by rw [hr] at hn; exact no_some hn.symm⟩
theorem bad_ever {n : Nat} {xs : List Str} {h a : V} {c : Str} (hl : listAt H n = some (xs.map V.str)) (sh : smp h = true) (sa : smp a = true) (hc : c ∈ cls9) (hr : everR (ps.map Prs.nm) xs h a = some c) : Bad ps m h0 H "ever" [.ref n, h, a] c :=
  ⟨i_ever, hc, fun H' k Q X p B _ _ x => by
    rw [K_ever]
    exact .mk k n ps [m] xs h a B (listAt_pre p hl) sh sa (fun d hd => by rw [hr] at hd; rw [so_ne hd]; exact x H' (List.prefix_refl _)) fun hn => by rw [hr] at hn; exact no_some hn.symm⟩
theorem bad_long {n : Nat} {p : Prs} {hours lo w : Int} (hl : listAt H n = some [.str p.nm]) (hr : everR (ps.map Prs.nm) [p.nm] (.int hours) (.int lo) = none) (hp : p ∈ ps) (rn : rndOf p w) (hw : 5000 < w) : Bad ps m h0 H "ever" [.ref n, .int hours, .int lo] "TooLong" :=
  ⟨i_ever, by decide, fun H' k Q X p' B _ _ x => by
    rw [K_ever]
    refine .mk k n ps [m] [p.nm] _ _ B (listAt_pre p' hl) rfl rfl (fun d hd => by rw [hr] at hd; exact no_some hd) fun hn => ⟨p, hours, lo, w, ⟨rfl, rfl, rfl, hp, rn⟩, fun _ H1 p1 => x H1 p1, fun h => absurd ?_ h⟩
    have := Int.le_max_left 0 (qf p [m] + 48 - lo)
    lia⟩
theorem bad_drop {v : V} (sv : smp v = true) (hv : numV v ≠ some m.no) : Bad ps m h0 H "drop" [v] "NoMeeting" :=
  ⟨i_drop, by decide, fun H' k Q X p B _ hk x => by
    rw [K_drop]
    exact .mk k ps m v B sv (by lia) (fun _ => x H' (List.prefix_refl _)) fun h => absurd h hv⟩
theorem bad_moveM {v a b : V} (sv : smp v = true) (sa : smp a = true) (sb : smp b = true) (hs : strB (.int m.sz) a b = false) (hv : numV v ≠ some m.no) : Bad ps m h0 H "move" [v, a, b] "NoMeeting" :=
  ⟨i_move, by decide, fun H' k Q X p B _ _ x => by
    rw [K_move]
    exact .mk k ps m v a b B sv sa sb hs (fun _ => x H' (List.prefix_refl _)) fun h => absurd h hv⟩
theorem bad_moveT {v a b : V} (sv : smp v = true) (sa : smp a = true) (sb : smp b = true) (hs : strB (.int m.sz) a b = false) (hv : numV v = some m.no) : Bad ps m h0 H "move" [v, a, b] "NoTime" :=
  ⟨i_move, by decide, fun H' k Q X p B _ _ x => by
    rw [K_move]
    exact .mk k ps m v a b B sv sa sb hs (fun h => absurd hv h) fun _ => x H' (List.prefix_refl _)⟩
end
section
variable {as bs : List Prs} {p : Prs} {m : Mtg} {h0 : Nat} {H : Hp}
theorem bad_busyR {t : Tg} (ht : t.ok H) (hg : t.good = false) : Bad (as ++ p :: bs) m h0 H "busy" [.str p.nm, tv t] "NoRule" :=
  ⟨i_busy, by decide, fun H' k Q X p' B _ _ x => by
    rw [K_busy]
    exact .bad k as bs p [m] t B (Tg.okP p' ht) hg (x H' (List.prefix_refl _))⟩
theorem bad_busyN {r : Pl} (hf : r.fine) (hm : mOk m) (hz : p.bu.length = 20) : Bad (as ++ p :: bs) m h0 H "busy" [.str p.nm, pv r] "NoRule" :=
  ⟨i_busy, by decide, fun H' k Q X p' B _ _ x => by
    rw [K_busy]
    exact .ok k as bs p [m] r B hf (fun m' h => by rw [List.mem_singleton.mp h]; exact hm) (fun _ => x H' (List.prefix_refl _)) (fun h => by lia) fun h => by lia⟩
theorem bad_busyC {r : Pl} (hf : r.fine) (hm : mOk m) (hz : p.bu.length < 20) (hc : clashB [m] p.nm r = true) : Bad (as ++ p :: bs) m h0 H "busy" [.str p.nm, pv r] "Clash" :=
  ⟨i_busy, by decide, fun H' k Q X p' B _ _ x => by
    rw [K_busy]
    exact .ok k as bs p [m] r B hf (fun m' h => by rw [List.mem_singleton.mp h]; exact hm) (fun h => by lia) (fun _ _ => x H' (List.prefix_refl _)) fun _ h => by rw [hc] at h; exact Bool.noConfusion h⟩
end
end Mine
namespace Mine
open PySem
noncomputable abbrev PV := V → Hp → Prop
noncomputable def EvP (Φ : Orc) (e : IE) (L : Lc) (H : Hp) (P : PV) : Prop := ∀ Q X, (∀ v H', H <+: H' → P v H' → Q v H') → (wp2 Φ e).E L H Q X
noncomputable def EvS (Φ : Orc) (es : List IE) (L : Lc) (H : Hp) (R : List V → Hp → Prop) : Prop := ∀ Q X, (∀ vs H', H <+: H' → R vs H' → Q vs H') → wpEs Φ es L H Q X
noncomputable def Mono (P : PV) : Prop := ∀ v H H', H <+: H' → P v H → P v H'
noncomputable def LP (P : PV) (n : Nat) : PV := fun v H => ∃ (i : Nat) (l : List V), v = .ref i ∧ listAt H i = some l ∧ l.length = n ∧ ∀ x ∈ l, P x H
noncomputable def AtL (h0 : Nat) (xs : List V) : PV := fun v H => ∃ i : Nat, v = .ref i ∧ h0 ≤ i ∧ listAt H i = some xs
noncomputable def IdxE (Φ : Orc) (e : IE) (L : Lc) (n : Nat) : Prop := ∀ H Q X, (∀ k : Int, 0 ≤ k → k < (n : Int) → Q (.int k) H) → (wp2 Φ e).E L H Q X
section
variable {Φ : Orc} {e a b : IE} {es : List IE} {L : Lc} {H : Hp} {P P1 : PV} {R R1 : List V → Hp → Prop} {v : V} {i : Nat} {m n : Nat}
theorem lz {n : Nat} (h : Nat.ble n 1000000 = true) : n ≤ 1000000 := Nat.le_of_ble_eq_true h
theorem pr (H : Hp) : H <+: H := List.prefix_refl H
theorem evp_lit (h : P v H) : EvP Φ (.lit v) L H P := fun _ _ q => q v H (pr H) h
theorem evp_loc (hL : L[i]? = some (some v)) (h : P v H) : EvP Φ (.loc i) L H P := fun Q X q => by
  rw [X_loc, hL]; exact q v H (pr H) h
theorem evs_nil (h : R [] H) : EvS Φ [] L H R := fun _ _ q => q [] H (pr H) h
theorem evs_cons (h1 : EvP Φ e L H P) (h2 : ∀ v H1, H <+: H1 → P v H1 → EvS Φ es L H1 fun vs H2 => R (v :: vs) H2) : EvS Φ (e :: es) L H R := fun Q X q =>
  h1 _ X fun v H1 p1 hv => h2 v H1 p1 hv _ X fun vs H2 p2 hs => q _ H2 (p1.trans p2) hs
theorem evs_lit (h : EvS Φ es L H fun vs H2 => R (v :: vs) H2) : EvS Φ (.lit v :: es) L H R := fun Q X q => h _ X fun vs H2 p2 hs => q _ H2 p2 hs
theorem evs_loc (hL : L[i]? = some (some v)) (h : EvS Φ es L H fun vs H2 => R (v :: vs) H2) : EvS Φ (.loc i :: es) L H R := evs_cons (P := fun w H' => w = v ∧ H' = H) (evp_loc hL ⟨rfl, rfl⟩) fun w H1 _ e => by obtain ⟨rfl, rfl⟩ := e; exact h
theorem evp_mono (h : EvP Φ e L H P) (k : ∀ v H', H <+: H' → P v H' → P1 v H') : EvP Φ e L H P1 := fun Q X q => h Q X fun v H' p hv => q v H' p (k v H' p hv)
theorem evp_lstx {h0 : Nat} {xs : List V} (h : EvS Φ es L H fun vs H' => vs = xs) (h1 : h0 ≤ H.length) (hz : xs.length ≤ 1000000) : EvP Φ (.lst es) L H (AtL h0 xs) := fun Q X q =>
  h _ X fun vs H1 p1 e => by
    subst e
    exact ⟨hz, q _ _ (p1.trans pre_new) ⟨_, rfl, Nat.le_trans h1 p1.length_le, listAt_new⟩⟩
theorem evp_lstR (h : EvS Φ es L H R) (k : ∀ vs H1, H <+: H1 → R vs H1 → vs.length ≤ 1000000 ∧ P (.ref H1.length) (H1 ++ [.list vs])) : EvP Φ (.lst es) L H P := fun Q X q => h _ X fun vs H1 p1 hr => ⟨(k vs H1 p1 hr).1, q _ _ (p1.trans pre_new) (k vs H1 p1 hr).2⟩
noncomputable def AllE (Φ : Orc) (L : Lc) (H : Hp) (P : PV) : List IE → Prop
  | [] => True
  | e :: r => (∀ H', H <+: H' → EvP Φ e L H' P) ∧ AllE Φ L H P r
theorem evs_all (mo : Mono P) : ∀ (es : List IE) (H0 : Hp), H <+: H0 → AllE Φ L H P es → EvS Φ es L H0 fun vs H' => vs.length = es.length ∧ ∀ v ∈ vs, P v H'
  | [], H0, _, _ => evs_nil ⟨rfl, fun _ h => nomatch h⟩
  | e :: es, H0, p, ⟨h1, h2⟩ => evs_cons (h1 H0 p) fun v H1 p1 hv Q X q => evs_all mo es H1 (p.trans p1) h2 _ X fun vs H2 p2 hs => q vs H2 p2 ⟨congrArg Nat.succ hs.1, fun w hw => by
      rcases List.mem_cons.mp hw with e | hw
      · rw [e]; exact mo _ _ _ p2 hv
      · exact hs.2 w hw⟩
theorem evp_lstP (mo : Mono P) (h : AllE Φ L H P es) (hn : es.length = n) (hz : n ≤ 1000000) : EvP Φ (.lst es) L H (LP P n) := fun Q X q =>
  evs_all mo es H (pr H) h _ X fun vs H1 p1 hs => by
    refine ⟨by rw [hs.1, hn]; exact hz, q _ _ (p1.trans pre_new) ⟨_, vs, rfl, listAt_new, hs.1.trans hn, fun x hx => mo _ _ _ pre_new (hs.2 x hx)⟩⟩
theorem LP.mono (mo : Mono P) : Mono (LP P n) := fun v H H' p ⟨i, l, e, h1, h2, h3⟩ => ⟨i, l, e, listAt_pre p h1, h2, fun x hx => mo _ _ _ p (h3 x hx)⟩
theorem AtL.mono {h0 : Nat} {xs : List V} : Mono (AtL h0 xs) := fun v H H' p ⟨i, e, h1, h2⟩ => ⟨i, e, h1, listAt_pre p h2⟩
theorem evp_addP (mo : Mono P) (h1 : EvP Φ a L H (LP P m)) (h2 : ∀ H', H <+: H' → EvP Φ b L H' (LP P n)) {z : Nat} (hz : m + n = z ∧ z ≤ 1000000) : EvP Φ (.bin .Add a b) L H (LP P z) := fun Q X q =>
  h1 _ X fun v H1 p1 hv => h2 H1 p1 _ X fun w H2 p2 hw => by
    refine e2_4 (LP.mono mo _ _ _ p2 hv) fun i l e_338 k1 k2 k3 => ?_
    obtain rfl := e_338
    refine e2_4 hw fun j l' e_339 g1 g2 g3 => ?_
    obtain rfl := e_339
    rw [q_list, k1]
    show oK (listAt H2 j) _
    rw [g1]
    refine ⟨by rw [k2, g2, hz.1]; exact hz.2, q _ _ ((p1.trans p2).trans pre_new) ⟨_, l ++ l', rfl, listAt_new, by rw [List.length_append, k2, g2, hz.1], fun x hx => ?_⟩⟩
    rcases List.mem_append.mp hx with h | h
    · exact mo _ _ _ pre_new (k3 x h)
    · exact mo _ _ _ pre_new (g3 x h)
theorem evp_addx {h0 : Nat} {xs ys : List V} (h0' : h0 ≤ H.length) (h1 : EvP Φ a L H (AtL 0 xs)) (h2 : ∀ H', H <+: H' → EvP Φ b L H' (AtL 0 ys)) (hz : xs.length + ys.length ≤ 1000000) : EvP Φ (.bin .Add a b) L H (AtL h0 (xs ++ ys)) := fun Q X q =>
  h1 _ X fun v H1 p1 hv => h2 H1 p1 _ X fun w H2 p2 hw => by
    refine e1_3 (AtL.mono _ _ _ p2 hv) fun i e_340 _ k1 => ?_
    obtain rfl := e_340
    refine e1_3 hw fun j e_341 _ g1 => ?_
    obtain rfl := e_341
    rw [q_list, k1]
    show oK (listAt H2 j) _
    rw [g1]
    exact ⟨hz, q _ _ ((p1.trans p2).trans pre_new) ⟨_, rfl, Nat.le_trans h0' (p1.trans p2).length_le, listAt_new⟩⟩
theorem evp_mulx {h0 : Nat} {x : V} {k : Int} (h0' : h0 ≤ H.length) (h1 : EvP Φ a L H (AtL 0 [x])) (hk : 0 ≤ k ∧ k ≤ 1000000) : EvP Φ (.bin .Mult a (.lit (.int k))) L H (AtL h0 (List.replicate k.toNat x)) := fun Q X q =>
  h1 _ X fun v H1 p1 hv => by
    refine e1_3 hv fun i e_342 _ k1 => ?_
    obtain rfl := e_342
    rw [X_lit, q_mull, k1]
    exact ⟨hk, q _ _ (p1.trans pre_new) ⟨_, rfl, Nat.le_trans h0' p1.length_le, listAt_new⟩⟩
theorem idx_ex {P : V → Prop} {l : List V} {k : Int} (h0 : 0 ≤ k) (h1 : k < (l.length : Int)) (h : ∀ v ∈ l, P v) : ∃ v, idx l k = some v ∧ P v := by
  unfold idx
  rw [if_pos h0]
  have hk : k.toNat < l.length := by lia
  exact ⟨l[k.toNat], List.getElem?_eq_getElem hk, h _ (List.getElem_mem hk)⟩
theorem evp_pick (mo : Mono P) (h1 : EvP Φ a L H (LP P n)) (h2 : IdxE Φ b L n) : EvP Φ (.sub a b) L H P := fun Q X q =>
  h1 _ X fun v H1 p1 hv => h2 H1 _ X fun k k0 k1 => by
    refine e2_4 hv fun i l e_343 g1 g2 g3 => ?_
    obtain rfl := e_343
    obtain ⟨x, e, hx⟩ := idx_ex (l := l) k0 (by rw [g2]; exact k1) g3
    rw [q_sref, g1]
    show oK (idx l k) _
    rw [e]
    exact q x H1 p1 hx
theorem ix0 {c k : Int} (hL : L[0]? = some (some (.int c))) (hk : k = (n : Int)) (h : 0 < k ∧ k < 2 ^ 128) : IdxE Φ (.bin .Mod (.loc 0) (.lit (.int k))) L n := fun H Q X q => by
  rw [X_bin, X_loc, hL]
  exact ⟨h, q _ (Int.emod_nonneg _ (by lia)) (by rw [← hk]; exact Int.emod_lt_of_pos _ h.1)⟩
theorem ix1 {c d k : Int} (hL : L[0]? = some (some (.int c))) (hk : k = (n : Int)) (hd : 0 < d ∧ d < 2 ^ 128) (h : 0 < k ∧ k < 2 ^ 128) : IdxE Φ (.bin .Mod (.bin .FloorDiv (.loc 0) (.lit (.int d))) (.lit (.int k))) L n := fun H Q X q => by
  rw [X_bin, X_bin, X_loc, hL]
  exact ⟨hd, h, q _ (Int.emod_nonneg _ (by lia)) (by rw [← hk]; exact Int.emod_lt_of_pos _ h.1)⟩
theorem z_asg {r : List IS} {QF : QS} {XF : XS} {L' : V → Lc} (hL : ∀ v, L.set i (some v) = L' v) (h : EvP Φ e L H P) (k : ∀ v H', H <+: H' → P v H' → wpSs Φ r (L' v) H' QF XF) : wpSs Φ (.assign i e :: r) L H QF XF :=
  h _ _ fun v H' p hv => (hL v ▸ k v H' p hv : wpSs Φ r (L.set i (some v)) H' QF XF)
theorem z_ret {QF : QS} {XF : XS} (h : EvP Φ e L H P) (k : ∀ v H', H <+: H' → P v H' → QF (.ret v) L H') : wpSs Φ [.ret e] L H QF XF := h _ _ k
variable {ps : List Prs} {mt : Mtg} {h0 : Nat}
noncomputable def CsP (ps : List Prs) (mt : Mtg) (h0 : Nat) : PV := fun v H => Cs ps mt h0 H v
theorem CsP.mono : Mono (CsP ps mt h0) := fun v H H' p ⟨w, n, l, c, e, hl, b⟩ => ⟨w, n, l, c, e, listAt_pre p hl, b.pre p⟩
theorem evp_cs {w c : Str} (h1 : EvP Φ e L H fun v _ => v = .str w) (h2 : ∀ H', H <+: H' → EvS Φ es L H' fun vs H2 => Bad ps mt h0 H2 w vs c) : EvP Φ (.tup [e, .lst es, .lit (.str c)]) L H (CsP ps mt h0) := fun Q X q =>
  h1 _ X fun v H1 p1 hv => h2 H1 p1 _ X fun vs H2 p2 hb => by
    subst hv
    have := (w_len _ hb.hw).2
    exact ⟨Nat.le_trans this (by decide), lz rfl, q _ _ ((p1.trans p2).trans pre_new) ⟨w, _, vs, c, rfl, listAt_new, hb.pre pre_new⟩⟩
end
noncomputable abbrev zz : Str := "zz"
structure Nm (n0 n1 : Str) : Prop where
  a0 : nmB n0 = true
  a1 : nmB n1 = true
  ne : n0 ≠ n1
  z0 : n0 ≠ zz
  z1 : n1 ≠ zz
noncomputable def ev1 : Pl := .every 0 1 1
noncomputable def ps0 (n0 n1 : Str) (b0 b1 : List Pl) : List Prs := [⟨n0, [ev1], b0⟩, ⟨n1, [ev1], b1⟩]
noncomputable def mt0 (n0 n1 : Str) (far : Int) : Mtg := ⟨1, far, 2, [n1, n0]⟩
noncomputable def odd (v : V) : Prop := nameB v = false ∧ smp v = true ∧ ascV v
theorem odd_in {n0 n1 : Str} {v : V} (N : Nm n0 n1) (h : odd v) : inB v [n0, n1] = false := by
  refine e0_3 h fun h1 h2 _ => ?_
  cases v with
  | str x =>
    rw [Bool.eq_false_iff]
    intro q
    rcases List.mem_cons.mp (List.contains_iff_mem.mp q) with q | q
    · subst q; rw [show nameB (.str x) = nmB x from rfl, N.a0] at h1; exact Bool.noConfusion h1
    · have := List.mem_singleton.mp q
      subst this; rw [show nameB (.str x) = nmB x from rfl, N.a1] at h1; exact Bool.noConfusion h1
  | _ => rfl
theorem zz_in {n0 n1 : Str} (N : Nm n0 n1) : inB (.str zz) [n0, n1] = false := by
  rw [Bool.eq_false_iff]
  intro q
  rcases List.mem_cons.mp (List.contains_iff_mem.mp q) with q | q
  · exact N.z0 q.symm
  · exact N.z1 (List.mem_singleton.mp q).symm
theorem strOdd {x : Str} (h : nmB x = false) (h2 : x.cps.toList.all (fun c => decide (c < 128)) = true) : odd (.str x) := ⟨h, rfl, fun c hc => of_decide_eq_true (List.all_eq_true.mp h2 c hc)⟩
noncomputable def oddP : PV := fun v _ => odd v
theorem odd_mo : Mono oddP := fun _ _ _ _ h => h
noncomputable def badT : PV := fun v H => ∃ t : Tg, v = tv t ∧ t.ok H ∧ t.good = false
theorem badT.mono : Mono badT := fun v H H' p ⟨t, e, h1, h2⟩ => ⟨t, e, Tg.okP p h1, h2⟩
noncomputable def mixT : PV := fun v H => ∃ (i : Nat) (ts : List Tg), v = .ref i ∧ listAt H i = some (ts.map tv) ∧ (∀ t ∈ ts, t.ok H) ∧ ts.all Tg.good = false
theorem mixT.mono : Mono mixT := fun v H H' p ⟨i, ts, e, h1, h2, h3⟩ => ⟨i, ts, e, listAt_pre p h1, fun t ht => Tg.okP p (h2 t ht), h3⟩
inductive IC_people_case (H : Hp) (Q : V → Hp → Prop) : List V → Prop where
  | mk (c far : Int) (n : Nat) (n0 n1 : Str) : listAt H n = some [.str n0, .str n1] → Nm n0 n1 → farOk far → (∀ v H', H <+: H' → Cs (ps0 n0 n1 [] []) (mt0 n0 n1 far) H.length H' v → Q v H') → IC_people_case H Q [.int c, .ref n, .int far]
noncomputable def C_people_case : Ctr := fun vs H Q _ => IC_people_case H Q vs
section
variable {L : Lc} {H : Hp} {far c : Int}
theorem pe_bad (hL : L[0]? = some (some (.int c))) : EvP Θ6 (.sub (.lst [(.lit (.str "")), (.bin .Mult (.lit (.str "a")) (.lit (.int 13))), (.lit (.str "Ann")), (.lit (.str "a b")), (.lit (.str "a1")), (.lit (.str "ann.")), (.lit (.int 5)), (.lit .none), (.lit (.bool true)), (.lit (.str "a-b"))]) (.bin .Mod (.bin .FloorDiv (.loc 0) (.lit (.int 16))) (.lit (.int 10)))) L H oddP := by
  have st : ∀ {x : Str} {H' : Hp}, nmB x = false → x.cps.toList.all (fun c => decide (c < 128)) = true → EvP Θ6 (.lit (.str x)) L H' oddP := fun h h2 => evp_lit (strOdd h h2)
  refine evp_pick odd_mo (evp_lstP (n := 10) odd_mo ⟨fun _ _ => st (by decide) (by decide), fun H' _ Q X q => ?_, fun _ _ => st (by decide) (by decide), fun _ _ => st (by decide) (by decide), fun _ _ => st (by decide) (by decide), fun _ _ => st (by decide) (by decide), fun _ _ => evp_lit ⟨rfl, rfl, trivial⟩, fun _ _ => evp_lit ⟨rfl, rfl, trivial⟩, fun _ _ => evp_lit ⟨rfl, rfl, trivial⟩, fun _ _ => st (by decide) (by decide), trivial⟩ rfl (by decide)) (ix1 hL rfl (by decide) (by decide))
  exact ⟨by decide +kernel, q _ _ (pr _) (strOdd (by decide +kernel) (by decide +kernel))⟩
theorem pe_wr (h0 : L[0]? = some (some (.int c))) (h2 : L[2]? = some (some (.int far))) (hf : farOk far) : EvP Θ6 (.sub (.lst [(.tup [(.lit (.str "once")), (.loc 2)]), (.lit .none), (.tup [(.lit (.str "every")), (.loc 2), (.lit (.int 1)), (.lit (.int 0))]), (.lst [(.lit (.str "once")), (.loc 2), (.lit (.int 1))]), (.tup [(.lit (.str "week")), (.tup []), (.lit (.int 5)), (.lit (.int 1))]), (.lit (.int 5))]) (.bin .Mod (.bin .FloorDiv (.loc 0) (.lit (.int 160))) (.lit (.int 6)))) L H badT := by
  have hf2 := hf.2
  refine evp_pick badT.mono (evp_lstP (n := 6) badT.mono ⟨fun H' _ Q X q => ?_, fun _ _ => evp_lit ⟨.w2, rfl, trivial, rfl⟩, fun H' _ Q X q => ?_, fun H' _ => ?_, fun H' _ Q X q => ?_, fun _ _ => evp_lit ⟨.w6, rfl, trivial, rfl⟩, trivial⟩ rfl (by decide)) (ix1 h0 rfl (by decide) (by decide))
  · simp_arith only [h2]; exact q _ _ (pr _) ⟨.w1 far, rfl, trivial, rfl⟩
  · simp_arith only [h2]; exact q _ _ (pr _) ⟨.w3 far, rfl, ⟨hf.1, by lia⟩, rfl⟩
  · refine evp_mono (evp_lstx (h0 := 0) (evs_lit (evs_loc h2 (evs_lit (evs_nil rfl)))) (Nat.zero_le _) (lz rfl)) fun v H1 p h => ?_
    refine e1_3 h fun i e_344 _ hl => ?_
    obtain rfl := e_344
    exact ⟨.w4 i, rfl, ⟨_, hl⟩, rfl⟩
  · simp_arith only [X_lit]; exact q _ _ (pr _) ⟨.w5, rfl, trivial, rfl⟩
end
end Mine
namespace Mine
open PySem
noncomputable def rlT (far : Int) : Tg := .pl (.once far 1)
theorem rlT_v {far : Int} : tv (rlT far) = .tup [.str "once", .int far, .int 1] := rfl
theorem cov_hit {s l x : Int} (h0 : 0 ≤ s) (h1 : s ≤ x) (h2 : x < s + l) : cov (.once s l) x = true := by
  unfold cov
  refine List.any_eq_true.mpr ⟨x - s, mem_rangeJ.mpr ⟨by lia, by show _ < l; lia⟩, ?_⟩
  unfold bg
  rw [if_neg (by lia)]
  exact decide_eq_true (by lia)
section
variable {L : Lc} {H : Hp} {far c : Int} {n : Nat} {n0 n1 : Str} {wr bad : V} {t : Tg} {h0 : Nat}
theorem pe_mix (l0 : L[0]? = some (some (.int c))) (l4 : L[4]? = some (some (tv (rlT far)))) (l5 : L[5]? = some (some (tv t))) (hf : (rlT far).ok H) (ht : t.ok H) (hg : t.good = false) : EvP Θ6 (.sub (.lst [(.lst [(.loc 4), (.loc 5)]), (.lst [(.loc 5), (.loc 4)]), (.lst [(.loc 4), (.loc 5), (.loc 4)]), (.bin .Add (.bin .Mult (.lst [(.loc 4)]) (.lit (.int 19))) (.lst [(.loc 5)]))]) (.bin .Mod (.bin .FloorDiv (.loc 0) (.lit (.int 960))) (.lit (.int 4)))) L H mixT := by
  have fin : ∀ {H' H1 : Hp} {v : V} {ts : List Tg}, H <+: H' → H' <+: H1 → AtL 0 (ts.map tv) v H1 → (∀ u ∈ ts, u = rlT far ∨ u = t) → ts.all Tg.good = false → mixT v H1 := fun p p1 ⟨i, e, _, hl⟩ hu hz => ⟨i, _, e, hl, fun u hu' => by
    rcases hu u hu' with rfl | rfl
    · exact Tg.okP (p.trans p1) hf
    · exact Tg.okP (p.trans p1) ht, hz⟩
  refine evp_pick mixT.mono (evp_lstP (n := 4) mixT.mono ⟨fun H' p => ?_, fun H' p => ?_, fun H' p => ?_, fun H' p => ?_, trivial⟩ rfl (by decide)) (ix1 l0 rfl (by decide) (by decide))
  · refine evp_mono (evp_lstx (h0 := 0) (evs_loc l4 (evs_loc l5 (evs_nil rfl))) (Nat.zero_le _) (lz rfl)) fun v H1 p1 h => fin (ts := [rlT far, t]) p p1 h (by simp) (by simp [hg])
  · refine evp_mono (evp_lstx (h0 := 0) (evs_loc l5 (evs_loc l4 (evs_nil rfl))) (Nat.zero_le _) (lz rfl)) fun v H1 p1 h => fin (ts := [t, rlT far]) p p1 h (by simp) (by simp [hg])
  · refine evp_mono (evp_lstx (h0 := 0) (evs_loc l4 (evs_loc l5 (evs_loc l4 (evs_nil rfl)))) (Nat.zero_le _) (lz rfl)) fun v H1 p1 h => fin (ts := [rlT far, t, rlT far]) p p1 h (by simp) (by simp [hg])
  · refine evp_mono (evp_addx (h0 := 0) (ys := [tv t]) (Nat.zero_le _) (evp_mulx (Nat.zero_le _) (evp_lstx (evs_loc l4 (evs_nil rfl)) (Nat.zero_le _) (lz rfl)) (by decide)) (fun H2 _ => evp_lstx (evs_loc l5 (evs_nil rfl)) (Nat.zero_le _) (lz rfl)) (lz rfl)) fun v H1 p1 h => fin (ts := List.replicate 19 (rlT far) ++ [t]) p p1 h (fun u hu => by
      rcases List.mem_append.mp hu with h | h
      · exact .inl (List.eq_of_mem_replicate h)
      · exact .inr (List.mem_singleton.mp h)) (by rw [List.all_append, show [t].all Tg.good = (t.good && true) from rfl, hg, Bool.false_and, Bool.and_false])
theorem pe_nm {k : IE} (l1 : L[1]? = some (some (.ref n))) (hl : listAt H n = some [.str n0, .str n1]) (hk : IdxE Θ6 k L 2) : EvP Θ6 (.sub (.loc 1) k) L H fun v _ => v = .str n0 ∨ v = .str n1 :=
  evp_pick (P := fun v _ => v = .str n0 ∨ v = .str n1) (fun _ _ _ _ h => h) (evp_loc l1 ⟨n, _, rfl, hl, rfl, fun x hx => by
    rcases List.mem_cons.mp hx with h | h
    · exact .inl h
    · exact .inr (List.mem_singleton.mp h)⟩) hk
theorem pe_0 {w : Str} (l1 : L[1]? = some (some (.ref n))) (hl : listAt H n = some [.str n0, .str n1]) : EvP Θ6 (.sub (.loc 1) (.lit (.int 0))) L H fun v H' => v = .str n0 ∧ H' = H := fun Q X q => by
  rw [X_sub, X_loc, l1]
  show pSub (.ref n) (.int 0) H Q
  rw [q_sref, hl]
  exact q _ _ (pr _) ⟨rfl, rfl⟩
theorem pe_1 {w : Str} (l1 : L[1]? = some (some (.ref n))) (hl : listAt H n = some [.str n0, .str n1]) : EvP Θ6 (.sub (.loc 1) (.lit (.int 1))) L H fun v H' => v = .str n1 ∧ H' = H := fun Q X q => by
  rw [X_sub, X_loc, l1]
  show pSub (.ref n) (.int 1) H Q
  rw [q_sref, hl]
  exact q _ _ (pr _) ⟨rfl, rfl⟩
end
theorem nm_ps (n0 n1 : Str) (b0 b1 : List Pl) : (ps0 n0 n1 b0 b1).map Prs.nm = [n0, n1] := rfl
theorem asc_nm {x : Str} (h : nmB x = true) : ascV (.str x) := fun c hc => by
  unfold nmB at h
  rw [Bool.and_eq_true] at h
  have := List.all_eq_true.mp h.2 c hc
  unfold lowB at this
  rw [Bool.and_eq_true, decide_eq_true_eq, decide_eq_true_eq] at this
  lia
theorem zz_nm : nmB zz = true := by decide +kernel
theorem come_no {nms : List Str} {v : V} {ts : List Tg} (h : nameB v = false) : comeR nms v ts = some (Str.ofString "NoName") := by unfold comeR; rw [if_pos h]
theorem come_tk {nms : List Str} {v : V} {ts : List Tg} (h : nameB v = true) (h2 : inB v nms = true) : comeR nms v ts = some (Str.ofString "Taken") := by unfold comeR; rw [if_neg (by rw [h]; decide), if_pos h2]
theorem come_nr {nms : List Str} {v : V} {ts : List Tg} (h : nameB v = true) (h2 : inB v nms = false) (h3 : (decide (20 < ts.length) || !ts.all Tg.good) = true) : comeR nms v ts = some (Str.ofString "NoRule") := by unfold comeR; rw [if_neg (by rw [h]; decide), if_neg (by rw [h2]; decide), if_pos h3]
theorem w_people_case : ∀ vs H Q X, C_people_case vs H Q X → wpFn Θ6 f_l_people_case vs H Q X := by
  rintro vs H Q X ⟨c, far, n, n0, n1, hl, N, hf, q⟩
  have hf2 := hf.2
  have hf1 := hf.1
  refine fn_of rfl ?_
  change wpSs Θ6 f_l_people_case.body [some (.int c), some (.ref n), some (.int far), none, none, none, none, none, none, none, none] H _ _
  refine z_asg (P := oddP) (L' := fun v => [some (.int c), some (.ref n), some (.int far), some v, none, none, none, none, none, none, none]) (fun _ => rfl) (pe_bad rfl) fun bad H1 p1 ob => ?_
  refine z_asg (P := fun v _ => v = tv (rlT far)) (L' := fun v => [some (.int c), some (.ref n), some (.int far), some bad, some v, none, none, none, none, none, none]) (fun _ => rfl) (fun Q X q => by simp_arith only [X_lit]; exact q _ _ (pr _) rfl) fun v H2 p2 e => ?_
  subst e
  refine z_asg (P := badT) (L' := fun v => [some (.int c), some (.ref n), some (.int far), some bad, some (tv (rlT far)), some v, none, none, none, none, none]) (fun _ => rfl) (pe_wr rfl rfl hf) fun v H3 p3 ⟨t, e, ht, hg⟩ => ?_
  subst e
  have p03 : H <+: H3 := (p1.trans p2).trans p3
  have hl3 := listAt_pre p03 hl
  have fr1 : ∀ {H' : Hp}, (rlT far).ok H' := fun {_} => ⟨⟨hf1, by lia⟩, by decide, by decide⟩
  have tok : ∀ {H' : Hp}, H3 <+: H' → ∀ u ∈ [t], u.ok H' := fun p u hu => by rw [List.mem_singleton.mp hu]; exact Tg.okP p ht
  have lh0 := p03.length_le
  refine z_asg (P := LP (CsP (ps0 n0 n1 [] []) (mt0 n0 n1 far) H.length) 2) (L' := fun v => [some (.int c), some (.ref n), some (.int far), some bad, some (tv (rlT far)), some (tv t), some v, none, none, none, none]) (fun _ => rfl) (evp_lstP CsP.mono ⟨fun H' p => evp_cs (w := "come") (evp_lit rfl) fun H4 p4 => ?_, fun H' p => evp_cs (w := "come") (evp_lit rfl) fun H4 p4 => ?_, trivial⟩ rfl (by decide)) fun c6 H6 p6 s6 => ?_
  · refine evs_loc (v := bad) rfl (evs_cons (evp_lstx (h0 := 0) (xs := [tv t]) (evs_loc (v := tv t) rfl (evs_nil rfl)) (Nat.zero_le _) (lz rfl)) fun v H5 p5 ⟨i, e, _, hi⟩ => evs_nil ?_)
    subst e
    exact bad_come (ts := [t]) hi ob.2.2 ob.2.1 (tok ((p.trans p4).trans p5)) (by decide) (come_no ob.1)
  · refine evs_cons (pe_nm (n0 := n0) (n1 := n1) rfl (listAt_pre (p.trans p4) hl3) (ix1 rfl rfl (by decide) (by decide))) fun v H5 p5 hv => evs_cons (evp_lstx (h0 := 0) (xs := [tv t]) (evs_loc (v := tv t) rfl (evs_nil rfl)) (Nat.zero_le _) (lz rfl)) fun v' H6 p6 ⟨i, e, _, hi⟩ => evs_nil ?_
    subst e
    have tk := tok (((p.trans p4).trans p5).trans p6)
    rcases hv with rfl | rfl
    · exact bad_come (ts := [t]) hi (asc_nm N.a0) rfl tk (by decide) (come_tk N.a0 (List.contains_iff_mem.mpr (.head _)))
    · exact bad_come (ts := [t]) hi (asc_nm N.a1) rfl tk (by decide) (come_tk N.a1 (List.contains_iff_mem.mpr (.tail _ (.head _))))
  refine z_asg (P := mixT) (L' := fun v => [some (.int c), some (.ref n), some (.int far), some bad, some (tv (rlT far)), some (tv t), some c6, some v, none, none, none]) (fun _ => rfl) (pe_mix rfl rfl rfl fr1 (Tg.okP p6 ht) hg) fun mx H7 p7 hm => ?_
  have s7 := LP.mono CsP.mono _ _ _ p7 s6
  refine z_asg (P := LP (CsP (ps0 n0 n1 [] []) (mt0 n0 n1 far) H.length) 4) (L' := fun v => [some (.int c), some (.ref n), some (.int far), some bad, some (tv (rlT far)), some (tv t), some v, some mx, none, none, none]) (fun _ => rfl) ?_ fun c8 H8 p8 s8 => ?_
  · refine evp_addP (n := 2) CsP.mono (evp_loc rfl s7) (fun H8 p8 => ?_) (by decide)
    refine evp_lstP CsP.mono ⟨fun H' p => evp_cs (w := "come") (evp_lit rfl) fun H4 p4 => ?_, fun H' p => evp_cs (w := "come") (evp_lit rfl) fun H4 p4 => ?_, trivial⟩ rfl (by decide)
    · refine evs_lit (evs_loc (v := mx) rfl (evs_nil ?_))
      refine e2_4 (mixT.mono _ _ _ ((p8.trans p).trans p4) hm) fun i ts e_345 k1 k2 k3 => ?_
      obtain rfl := e_345
      exact bad_come k1 (asc_nm zz_nm) rfl k2 (by decide) (come_nr zz_nm (zz_in N) (by rw [k3]; exact Bool.or_true _))
    · refine evs_lit (evs_cons (evp_mulx (h0 := 0) (x := tv (rlT far)) (Nat.zero_le _) (evp_lstx (evs_loc (v := tv (rlT far)) rfl (evs_nil rfl)) (Nat.zero_le _) (lz rfl)) (by decide)) fun v H5 p5 ⟨i, e, _, hi⟩ => evs_nil ?_)
      subst e
      exact bad_come (ts := List.replicate 21 (rlT far)) hi (asc_nm zz_nm) rfl (fun u hu => by rw [List.eq_of_mem_replicate hu]; exact fr1) (by decide) (come_nr zz_nm (zz_in N) rfl)
  refine z_asg (P := LP (CsP (ps0 n0 n1 [] []) (mt0 n0 n1 far) H.length) 6) (L' := fun v => [some (.int c), some (.ref n), some (.int far), some bad, some (tv (rlT far)), some (tv t), some v, some mx, none, none, none]) (fun _ => rfl) ?_ fun c9 H9 p9 s9 => ?_
  · refine evp_addP (n := 2) CsP.mono (evp_loc rfl s8) (fun H9 p9 => ?_) (by decide)
    refine evp_lstP CsP.mono ⟨fun H' p => evp_cs (w := "busy") (evp_lit rfl) fun H4 p4 => ?_, fun H' p => evp_cs (w := "busy") (evp_lit rfl) fun H4 p4 => ?_, trivial⟩ rfl (by decide)
    · exact evs_lit (evs_loc (v := tv t) rfl (evs_nil (bad_busyS rfl (zz_in N))))
    · refine evs_cons (pe_0 (w := n0) rfl (listAt_pre ((((p6.trans p7).trans p8).trans (p9.trans p)).trans p4) hl3)) fun v H5 p5 ⟨e, _⟩ => evs_loc (v := tv t) rfl (evs_nil ?_)
      subst e
      exact bad_busyR (as := []) (p := ⟨n0, [ev1], []⟩) (bs := [⟨n1, [ev1], []⟩]) (Tg.okP ((((p6.trans p7).trans p8).trans (p9.trans p)).trans (p4.trans p5)) ht) hg
  refine z_asg (P := LP (CsP (ps0 n0 n1 [] []) (mt0 n0 n1 far) H.length) 7) (L' := fun v => [some (.int c), some (.ref n), some (.int far), some bad, some (tv (rlT far)), some (tv t), some v, some mx, none, none, none]) (fun _ => rfl) ?_ fun c10 H10 p10 s10 => ?_
  · refine evp_addP (n := 1) CsP.mono (evp_loc rfl s9) (fun H10 p10 => ?_) (by decide)
    refine evp_lstP CsP.mono ⟨fun H' p => evp_cs (w := "busy") (evp_lit rfl) fun H4 p4 => ?_, trivial⟩ rfl (by decide)
    · refine evs_cons (pe_1 (w := n0) rfl (listAt_pre ((((p6.trans p7).trans p8).trans ((p9.trans p10).trans p)).trans p4) hl3)) fun v H5 p5 ⟨e, _⟩ => evs_cons (P := fun v _ => v = pv (.once (far + c / 16 % 2) (1 + c / 32 % 48))) (fun Q X q => by simp_arith only [X_lit]; exact q _ _ (pr _) rfl) fun v H6 p6 e' => evs_nil ?_
      subst e e'
      refine bad_busyC (as := [⟨n0, [ev1], []⟩]) (p := ⟨n1, [ev1], []⟩) (bs := []) ⟨⟨by lia, by lia⟩, by lia, by lia⟩ ⟨hf1, by show (0 : Int) ≤ 2; decide, by show (2 : Int) ≤ 48; decide⟩ (by show 0 < 20; decide) ?_
      unfold clashB
      rw [List.any_cons]
      refine (Bool.or_eq_true _ _).mpr (.inl ((Bool.and_eq_true _ _).mpr ⟨List.contains_iff_mem.mpr (.head _), List.any_eq_true.mpr ⟨c / 16 % 2, mem_rangeJ.mpr ⟨by lia, by show _ < (2 : Int); lia⟩, ?_⟩⟩))
      exact cov_hit (x := far + c / 16 % 2) (by lia) (by lia) (by lia)
  have hoB : ∀ v, v = V.str zz ∨ v = bad → smp v = true ∧ inB v [n0, n1] = false := fun v h => by
    rcases h with rfl | rfl
    · exact ⟨rfl, zz_in N⟩
    · exact ⟨ob.2.1, odd_in N ob⟩
  refine z_ret (P := CsP (ps0 n0 n1 [] []) (mt0 n0 n1 far) H.length) ?_ fun v H11 p11 hv => q v H11 (((((p03.trans p6).trans p7).trans (p8.trans p9)).trans p10).trans p11) hv
  · refine evp_pick (n := 8) CsP.mono (evp_addP (n := 1) CsP.mono (evp_loc rfl s10) (fun H11 p11 => ?_) (by decide)) (ix0 rfl rfl (by decide))
    refine evp_lstP CsP.mono ⟨fun H' p => evp_cs (w := "is_free") (evp_lit rfl) fun H4 p4 => ?_, trivial⟩ rfl (by decide)
    refine evs_cons (P := fun v _ => v = .str zz ∨ v = bad) (evp_pick (n := 2) (fun _ _ _ _ h => h) (evp_lstP (fun _ _ _ _ h => h) ⟨fun _ _ => evp_lit (.inl rfl), fun _ _ => evp_loc (v := bad) rfl (.inr rfl), trivial⟩ rfl (by decide)) fun H5 Q X q => ?_) fun v H5 p5 hv => evs_loc (v := .int far) rfl (evs_nil ?_)
    · simp_arith only [X_lit]
      by_cases h : c / 16 % 10 = 0
      · rw [decide_eq_false (fun g => g h)]; exact q 0 (by decide) (by decide)
      · rw [decide_eq_true h]; exact q 1 (by decide) (by decide)
    · obtain ⟨k1, k2⟩ := hoB v hv
      exact bad_free k1 k2
noncomputable def Θ7 : Orc := ext "_law_people_case" C_people_case Θ6
end Mine
namespace Mine
open PySem
section
variable {nms xs : List Str} {h a b : V} {c x : Str} {n0 n1 : Str}
theorem need_st (hx : x ∈ xs) (hn : x ∉ nms) : needR nms xs = some (Str.ofString "Stranger") := by
  unfold needR
  have : xs.all nms.contains = false := by
    rw [Bool.eq_false_iff]
    intro g
    exact hn (List.contains_iff_mem.mp (List.all_eq_true.mp g x hx))
  rw [this, if_pos (by rw [Bool.not_false, Bool.or_true])]
theorem need_all' (h0 : xs.isEmpty = false) (hn : ∀ x ∈ xs, x ∈ nms) : needR nms xs = if xs.any fun x => decide (1 < xs.count x) then some (Str.ofString "Twice") else none := by
  unfold needR
  have : xs.all nms.contains = true := List.all_eq_true.mpr fun y hy => List.contains_iff_mem.mpr (hn y hy)
  rw [this, h0, if_neg (by decide)]
theorem cnt2 (h : x ∈ xs) : 1 < (x :: xs).count x := by rw [List.count_cons_self]; exact Nat.succ_lt_succ (List.count_pos_iff.mpr h)
theorem need_tw (h0 : xs.isEmpty = false) (hn : ∀ x ∈ xs, x ∈ nms) (hx : x ∈ xs) (h2 : 1 < xs.count x) : needR nms xs = some (Str.ofString "Twice") := by
  rw [need_all' h0 hn, if_pos (List.any_eq_true.mpr ⟨x, hx, decide_eq_true h2⟩)]
theorem need_no (h0 : xs.isEmpty = false) (hn : ∀ x ∈ xs, x ∈ nms) (h2 : xs.Nodup) : needR nms xs = none := by
  rw [need_all' h0 hn, if_neg]
  intro g
  refine e1_2 (List.any_eq_true.mp g) fun x _ g => ?_
  have := List.nodup_iff_count.mp h2 x
  have := of_decide_eq_true g
  lia
theorem first_c (h1 : needR nms xs = some c) : firstR nms xs h a b = some c := by unfold firstR; rw [h1]
theorem first_t (h1 : needR nms xs = none) (h2 : strB h a b = false) : firstR nms xs h a b = some (Str.ofString "NoTime") := by
  unfold firstR
  rw [h1]
  show (if strB h a b = true then none else some _) = _
  rw [h2]; rfl
theorem ever_c (h1 : needR nms xs = some c) : everR nms xs h a = some c := by unfold everR; rw [h1]
theorem ever_t (h1 : needR nms xs = none) (h2 : (btw 1 48 (numV h) && timeB (numV a)) = false) : everR nms xs h a = some (Str.ofString "NoTime") := by
  unfold everR
  rw [h1]
  show (if _ = true then none else some _) = _
  rw [h2]; rfl
theorem in2 (h : ∀ x ∈ xs, x = n0 ∨ x = n1) : ∀ x ∈ xs, x ∈ [n0, n1] := fun x hx => by
  rcases h x hx with rfl | rfl
  · exact .head _
  · exact .tail _ (.head _)
theorem zz_no (N : Nm n0 n1) : zz ∉ [n0, n1] := fun q => by
  rcases List.mem_cons.mp q with q | q
  · exact N.z0 q.symm
  · exact N.z1 (List.mem_singleton.mp q).symm
end
noncomputable def badH : PV := fun v _ => smp v = true ∧ btw 1 48 (numV v) = false
theorem badH.mono : Mono badH := fun _ _ _ _ h => h
noncomputable def badN : PV := fun v _ => smp v = true ∧ numV v ≠ some 1
theorem badN.mono : Mono badN := fun _ _ _ _ h => h
noncomputable def NdP (h0 z : Nat) (nms : List Str) (c : Str) : PV := fun v H => ∃ (i : Nat) (xs : List Str), v = .ref i ∧ h0 ≤ i ∧ listAt H i = some (xs.map V.str) ∧ needR nms xs = some c ∧ xs.length ≤ z
theorem NdP.mono {h0 z : Nat} {nms : List Str} {c : Str} : Mono (NdP h0 z nms c) := fun v H H' p ⟨i, xs, e, h1, h2, h3⟩ => ⟨i, xs, e, h1, listAt_pre p h2, h3⟩
theorem strB_h {h a b : V} (q : btw 1 48 (numV h) = false) : strB h a b = false := by unfold strB; rw [q]; rfl
noncomputable def badAB (a b : V) : Prop := smp a = true ∧ smp b = true ∧ (timeB (numV a) && timeB (numV b) && len2 (numV a) (numV b)) = false
theorem strB_ab {h a b : V} (q : badAB a b) : strB h a b = false := by
  unfold strB
  rw [Bool.and_assoc, Bool.and_assoc, ← Bool.and_assoc (timeB _), q.2.2, Bool.and_false]
noncomputable abbrev lows (far : Int) : List V := [.int far, .int far, .int (-1), .int 1000000000000, .none, .bool true, .int far]
noncomputable abbrev highs (far : Int) : List V := [.int (far - 1), .int (far + 10001), .int far, .int 1000000000001, .int far, .int far, .none]
theorem idx_N {l : List V} {k : Nat} {v : V} (h : idx l (k : Int) = some v) : l[k]? = some v := by rw [idx_nat] at h; exact h
theorem low_high {far k : Int} {a b : V} (h0 : 0 ≤ k) (h7 : k < 7) (ha : idx (lows far) k = some a) (hb : idx (highs far) k = some b) : badAB a b := by
  obtain ⟨m, rfl⟩ := Int.eq_ofNat_of_zero_le h0
  have hm : m < 7 := by lia
  have ha := idx_N ha
  have hb := idx_N hb
  have le : (timeB (some far) && timeB (some (far - 1)) && len2 (some far) (some (far - 1))) = false := by
    show (_ && (decide (far ≤ far - 1) && _)) = false
    rw [decide_eq_false (by lia), Bool.false_and, Bool.and_false]
  have le2 : (timeB (some far) && timeB (some (far + 10001)) && len2 (some far) (some (far + 10001))) = false := by
    show (_ && (_ && decide (far + 10001 ≤ far + 10000))) = false
    rw [decide_eq_false (p := far + 10001 ≤ far + 10000) (by lia), Bool.and_false, Bool.and_false]
  match m, hm, ha, hb with
  | 0, _, ha, hb => cases ha; cases hb; exact ⟨rfl, rfl, le⟩
  | 1, _, ha, hb => cases ha; cases hb; exact ⟨rfl, rfl, le2⟩
  | 2, _, ha, hb => cases ha; cases hb; exact ⟨rfl, rfl, rfl⟩
  | 3, _, ha, hb => cases ha; cases hb; exact ⟨rfl, rfl, rfl⟩
  | 4, _, ha, hb => cases ha; cases hb; exact ⟨rfl, rfl, rfl⟩
  | 5, _, ha, hb => cases ha; cases hb; exact ⟨rfl, rfl, rfl⟩
  | 6, _, ha, hb => cases ha; cases hb; exact ⟨rfl, rfl, by show (timeB (some far) && timeB none && _) = false; rw [show timeB none = false from rfl, Bool.and_false]; rfl⟩
  | m + 7, hm, _, _ => exact absurd hm (by lia)
section
variable {ps : List Prs} {m : Mtg} {h0 : Nat} {H : Hp}
theorem bad_fm {w : Str} {n : Nat} {xs : List Str} {h a b : V} {c : Str} (hw : w = "first" ∨ w = "meet") (hn : h0 ≤ n) (hl : listAt H n = some (xs.map V.str)) (sh : smp h = true) (sa : smp a = true) (sb : smp b = true) (hc : c ∈ cls9) (hr : firstR (ps.map Prs.nm) xs h a b = some c) : Bad ps m h0 H w [.ref n, h, a, b] c := by
  rcases hw with rfl | rfl
  · exact bad_first hl sh sa sb hc hr
  · exact bad_meet hn hl sh sa sb hc hr
end
section
variable {Φ : Orc} {es : List IE} {L : Lc} {H : Hp} {R : List V → Hp → Prop} {n : Nat} {n0 n1 : Str} {c far : Int}
theorem evs_0 (l1 : L[1]? = some (some (.ref n))) (hl : listAt H n = some [.str n0, .str n1]) (h : EvS Φ es L H fun vs H2 => R (.str n0 :: vs) H2) : EvS Φ (.sub (.loc 1) (.lit (.int 0)) :: es) L H R := fun Q X q => by
  rw [XEs_cons, X_sub, X_loc, l1]
  show oK (listAt H n) fun l => oK (idx l 0) fun v => wpEs Φ es L H (fun vs H2 => Q (v :: vs) H2) X
  rw [hl]
  exact h _ X fun vs H2 p hs => q _ H2 p hs
theorem evs_1 (l1 : L[1]? = some (some (.ref n))) (hl : listAt H n = some [.str n0, .str n1]) (h : EvS Φ es L H fun vs H2 => R (.str n1 :: vs) H2) : EvS Φ (.sub (.loc 1) (.lit (.int 1)) :: es) L H R := fun Q X q => by
  rw [XEs_cons, X_sub, X_loc, l1]
  show oK (listAt H n) fun l => oK (idx l 1) fun v => wpEs Φ es L H (fun vs H2 => Q (v :: vs) H2) X
  rw [hl]
  exact h _ X fun vs H2 p hs => q _ H2 p hs
theorem ev_hours (l0 : L[0]? = some (some (.int c))) : EvP Φ (.sub (.lst [(.lit (.int 0)), (.lit (.int 49)), (.lit (.bool true)), (.lit .none), (.lit (.str "1")), (.neg (.lit (.int 1))), (.bin .Pow (.lit (.int 10)) (.lit (.int 30)))]) (.bin .Mod (.bin .FloorDiv (.loc 0) (.lit (.int 32))) (.lit (.int 7)))) L H badH :=
  evp_pick badH.mono (evp_lstP (n := 7) badH.mono ⟨fun _ _ => evp_lit ⟨rfl, rfl⟩, fun _ _ => evp_lit ⟨rfl, rfl⟩, fun _ _ => evp_lit ⟨rfl, rfl⟩, fun _ _ => evp_lit ⟨rfl, rfl⟩, fun _ _ => evp_lit ⟨rfl, rfl⟩, fun _ _ Q X q => q _ _ (pr _) ⟨rfl, rfl⟩, fun _ _ Q X q => ⟨by decide, q _ _ (pr _) ⟨rfl, rfl⟩⟩, trivial⟩ rfl (by decide)) (ix1 l0 rfl (by decide) (by decide))
theorem ev_numb (l0 : L[0]? = some (some (.int c))) : EvP Φ (.sub (.lst [(.lit (.int 0)), (.lit (.int 2)), (.neg (.lit (.int 1))), (.lit (.bool true)), (.lit .none), (.lit (.str "1")), (.bin .Pow (.lit (.int 10)) (.lit (.int 30)))]) (.bin .Mod (.bin .FloorDiv (.loc 0) (.lit (.int 32))) (.lit (.int 7)))) L H badN :=
  evp_pick badN.mono (evp_lstP (n := 7) badN.mono ⟨fun _ _ => evp_lit ⟨rfl, by decide⟩, fun _ _ => evp_lit ⟨rfl, by decide⟩, fun _ _ Q X q => q _ _ (pr _) ⟨rfl, by decide⟩, fun _ _ => evp_lit ⟨rfl, by decide⟩, fun _ _ => evp_lit ⟨rfl, by decide⟩, fun _ _ => evp_lit ⟨rfl, by decide⟩, fun _ _ Q X q => ⟨by decide, q _ _ (pr _) ⟨rfl, by decide⟩⟩, trivial⟩ rfl (by decide)) (ix1 l0 rfl (by decide) (by decide))
theorem evp_ixx {xs : List V} {d k : Int} (l0 : L[0]? = some (some (.int c))) (h : EvS Φ es L H fun vs _ => vs = xs) (hz : xs.length ≤ 1000000) (hd : 0 < d ∧ d < 2 ^ 128) (hk : 0 < k ∧ k < 2 ^ 128) (he : k = (xs.length : Int)) : EvP Φ (.sub (.lst es) (.bin .Mod (.bin .FloorDiv (.loc 0) (.lit (.int d))) (.lit (.int k)))) L H fun v _ => idx xs (c / d % k) = some v := fun Q X q => by
  refine h _ X fun vs H1 p1 e => ?_
  subst e
  refine ⟨hz, ?_⟩
  show (wp2 Φ (.bin .Mod (.bin .FloorDiv (.loc 0) (.lit (.int d))) (.lit (.int k)))).E L (H1 ++ [.list vs]) (fun vi H2 => pSub (.ref H1.length) vi H2 Q) X
  rw [X_bin, X_bin, X_loc, l0]
  refine ⟨hd, hk, ?_⟩
  show pSub (.ref H1.length) (.int (c / d % k)) (H1 ++ [.list vs]) Q
  rw [q_sref, listAt_new]
  have e0 := Int.emod_nonneg (c / d) (show k ≠ 0 by lia)
  have e1 := Int.emod_lt_of_pos (c / d) hk.1
  refine e1_2 (idx_ex (P := fun _ => True) (l := vs) e0 (by lia) fun _ _ => trivial) fun x e _ => ?_
  show oK (idx vs _) _
  rw [e]
  exact q x _ (p1.trans pre_new) e
end
inductive IC_meeting_case (H : Hp) (Q : V → Hp → Prop) : List V → Prop where
  | mk (c far : Int) (n : Nat) (n0 n1 : Str) : listAt H n = some [.str n0, .str n1] → Nm n0 n1 → farOk far → (∀ v H', H <+: H' → Cs (ps0 n0 n1 [] []) (mt0 n0 n1 far) H.length H' v → Q v H') → IC_meeting_case H Q [.int c, .ref n, .int far]
noncomputable def C_meeting_case : Ctr := fun vs H Q _ => IC_meeting_case H Q vs
theorem w_meeting_case : ∀ vs H Q X, C_meeting_case vs H Q X → wpFn Θ7 f_l_meeting_case vs H Q X := by
  rintro vs H Q X ⟨c, far, n, n0, n1, hl, N, hf, q⟩
  have hf2 := hf.2
  have hf1 := hf.1
  refine fn_of rfl ?_
  change wpSs Θ7 f_l_meeting_case.body [some (.int c), some (.ref n), some (.int far), none, none, none, none, none, none, none, none, none, none, none, none] H _ _
  refine z_asg (P := fun v _ => v = .str "first" ∨ v = .str "meet") (L' := fun v => [some (.int c), some (.ref n), some (.int far), some v, none, none, none, none, none, none, none, none, none, none, none]) (fun _ => rfl)
    (evp_pick (n := 2) (fun _ _ _ _ h => h) (evp_lstP (fun _ _ _ _ h => h) ⟨fun _ _ => evp_lit (.inl rfl), fun _ _ => evp_lit (.inr rfl), trivial⟩ rfl (by decide)) (ix1 rfl rfl (by decide) (by decide))) fun wv H1 p1 hw0 => ?_
  obtain ⟨w, rfl, hw⟩ : ∃ w : Str, wv = .str w ∧ (w = "first" ∨ w = "meet") := by
    rcases hw0 with e | e
    · exact ⟨_, e, .inl rfl⟩
    · exact ⟨_, e, .inr rfl⟩
  refine z_asg (P := badH) (L' := fun v => [some (.int c), some (.ref n), some (.int far), some (.str w), some v, none, none, none, none, none, none, none, none, none, none]) (fun _ => rfl) (ev_hours rfl) fun hv H2 p2 hh => ?_
  refine z_asg (P := fun v _ => idx (lows far) (c / 224 % 7) = some v) (L' := fun v => [some (.int c), some (.ref n), some (.int far), some (.str w), some hv, some v, none, none, none, none, none, none, none, none, none]) (fun _ => rfl)
    (evp_ixx rfl (fun Q X q => ⟨by decide, q _ _ (pr _) rfl⟩) (by decide : (7 : Nat) ≤ 1000000) (by decide) (by decide) rfl) fun lo H3 p3 elo => ?_
  refine z_asg (P := fun v _ => idx (highs far) (c / 224 % 7) = some v) (L' := fun v => [some (.int c), some (.ref n), some (.int far), some (.str w), some hv, some lo, some v, none, none, none, none, none, none, none, none]) (fun _ => rfl)
    (evp_ixx rfl (fun Q X q => ⟨by decide, q _ _ (pr _) rfl⟩) (by decide : (7 : Nat) ≤ 1000000) (by decide) (by decide) rfl) fun hi H4 p4 ehi => ?_
  have ab : badAB lo hi := low_high (by lia) (by lia) elo ehi
  refine z_asg (P := badN) (L' := fun v => [some (.int c), some (.ref n), some (.int far), some (.str w), some hv, some lo, some hi, some v, none, none, none, none, none, none, none]) (fun _ => rfl) (ev_numb rfl) fun nu H5 p5 hn => ?_
  have p05 : H <+: H5 := (((p1.trans p2).trans p3).trans p4).trans p5
  have hl5 := listAt_pre p05 hl
  have z5 := p05.length_le
  refine z_asg (P := AtL H.length [.str n0, .str n1]) (L' := fun v => [some (.int c), some (.ref n), some (.int far), some (.str w), some hv, some lo, some hi, some nu, some v, none, none, none, none, none, none]) (fun _ => rfl) (evp_lstx (evs_0 rfl hl5 (evs_1 rfl hl5 (evs_nil rfl))) z5 (lz rfl)) fun bo H6 p6 hb => ?_
  have hl6 := listAt_pre p6 hl5
  have z6 := (p05.trans p6).length_le
  have tw : ∀ {xs : List Str} {x : Str} {v : V} {H' : Hp}, AtL H.length (xs.map V.str) v H' → xs.isEmpty = false → (∀ x ∈ xs, x = n0 ∨ x = n1) → x ∈ xs → 1 < xs.count x → xs.length ≤ 3 → NdP H.length 3 [n0, n1] "Twice" v H' := fun ⟨i, e, h1, h2⟩ k1 k2 k3 k4 k5 => ⟨i, _, e, h1, h2, need_tw k1 (in2 k2) k3 k4, k5⟩
  refine z_asg (P := NdP H.length 3 [n0, n1] "Twice") (L' := fun v => [some (.int c), some (.ref n), some (.int far), some (.str w), some hv, some lo, some hi, some nu, some bo, some v, none, none, none, none, none]) (fun _ => rfl) (evp_pick (n := 3) NdP.mono (evp_lstP NdP.mono ⟨fun H' p => ?_, fun H' p => ?_, fun H' p => ?_, trivial⟩ rfl (by decide)) (ix1 rfl rfl (by decide) (by decide))) fun tv' H7 p7 ht => ?_
  · exact evp_mono (evp_lstx (evs_0 rfl (listAt_pre p hl6) (evs_1 rfl (listAt_pre p hl6) (evs_0 rfl (listAt_pre p hl6) (evs_nil rfl)))) (Nat.le_trans z6 p.length_le) (lz rfl)) fun v H1 p1 h => tw (xs := [n0, n1, n0]) (x := n0) h rfl (by simp) (.head _) (cnt2 (.tail _ (.head _))) (by simp)
  · exact evp_mono (evp_lstx (evs_1 rfl (listAt_pre p hl6) (evs_1 rfl (listAt_pre p hl6) (evs_nil rfl))) (Nat.le_trans z6 p.length_le) (lz rfl)) fun v H1 p1 h => tw (xs := [n1, n1]) (x := n1) h rfl (by simp) (.head _) (cnt2 (.head _)) (by simp)
  · exact evp_mono (evp_lstx (evs_1 rfl (listAt_pre p hl6) (evs_0 rfl (listAt_pre p hl6) (evs_0 rfl (listAt_pre p hl6) (evs_nil rfl)))) (Nat.le_trans z6 p.length_le) (lz rfl)) fun v H1 p1 h => tw (xs := [n1, n0, n0]) (x := n0) h rfl (by simp) (.tail _ (.head _)) (Nat.lt_of_lt_of_le (cnt2 (.head _)) ((List.sublist_cons_self n1 [n0, n0]).count_le n0)) (by simp)
  have hl7 := listAt_pre p7 hl6
  have z7 := ((p05.trans p6).trans p7).length_le
  have st : ∀ {xs : List Str} {v : V} {H' : Hp}, AtL H.length (xs.map V.str) v H' → zz ∈ xs → xs.length ≤ 4 → NdP H.length 4 [n0, n1] "Stranger" v H' := fun ⟨i, e, h1, h2⟩ k k2 => ⟨i, _, e, h1, h2, need_st k (zz_no N), k2⟩
  obtain ⟨i9, xs9, rfl, g1, g2, g3, g4⟩ := ht
  have gz : (xs9.map V.str).length ≤ 3 := by rw [List.length_map]; exact g4
  refine z_asg (P := NdP H.length 4 [n0, n1] "Stranger") (L' := fun v => [some (.int c), some (.ref n), some (.int far), some (.str w), some hv, some lo, some hi, some nu, some bo, some (.ref i9), some v, none, none, none, none]) (fun _ => rfl) (evp_pick (n := 4) NdP.mono (evp_lstP NdP.mono ⟨fun H' p => ?_, fun H' p => ?_, fun H' p => ?_, fun H' p => ?_, trivial⟩ rfl (by decide)) (ix1 rfl rfl (by decide) (by decide))) fun sv H8 p8 hs => ?_
  · refine evp_mono (evp_addx (h0 := H.length) (xs := xs9.map V.str) (ys := [.str zz]) (Nat.le_trans z7 p.length_le) (evp_loc (v := .ref i9) rfl ⟨i9, rfl, Nat.zero_le _, listAt_pre p g2⟩) (fun H2 _ => evp_lstx (evs_lit (evs_nil rfl)) (Nat.zero_le _) (lz rfl)) (Nat.le_trans (Nat.add_le_add_right gz _) (by simp))) fun v H1 p1 h => ?_
    rw [show xs9.map V.str ++ [V.str zz] = (xs9 ++ [zz]).map V.str by rw [List.map_append]; rfl] at h
    exact st h (List.mem_append_right _ (.head _)) (by rw [List.length_append]; exact Nat.succ_le_succ g4)
  · exact evp_mono (evp_addx (h0 := H.length) (xs := [.str zz]) (ys := xs9.map V.str) (Nat.le_trans z7 p.length_le) (evp_lstx (evs_lit (evs_nil rfl)) (Nat.zero_le _) (lz rfl)) (fun H2 p2 => evp_loc (v := .ref i9) rfl ⟨i9, rfl, Nat.zero_le _, listAt_pre (p.trans p2) g2⟩) (Nat.le_trans (Nat.add_le_add_left gz _) (by simp))) fun v H1 p1 h => st (xs := zz :: xs9) h (.head _) (Nat.succ_le_succ g4)
  · exact evp_mono (evp_lstx (evs_0 rfl (listAt_pre p hl7) (evs_lit (evs_1 rfl (listAt_pre p hl7) (evs_nil rfl)))) (Nat.le_trans z7 p.length_le) (lz rfl)) fun v H1 p1 h => st (xs := [n0, zz, n1]) h (.tail _ (.head _)) (by simp)
  · exact evp_mono (evp_lstx (evs_lit (evs_nil rfl)) (Nat.le_trans z7 p.length_le) (lz rfl)) fun v H1 p1 h => st (xs := [zz]) h (.head _) (by simp)
  obtain ⟨i10, xs10, rfl, f1, f2, f3, _⟩ := hs
  refine e1_3 (AtL.mono _ _ _ (p7.trans p8) hb) fun i8 e_348 b1 b2 => ?_
  obtain rfl := e_348
  have g2 := listAt_pre p8 g2
  have nn : needR [n0, n1] [n0, n1] = none := need_no rfl (fun _ h => h) (by simp [N.ne])
  clear elo ehi hb hl tw st hl5 hl6 hl7
  refine z_asg (P := LP (CsP (ps0 n0 n1 [] []) (mt0 n0 n1 far) H.length) 2) (L' := fun v => [some (.int c), some (.ref n), some (.int far), some (.str w), some hv, some lo, some hi, some nu, some (.ref i8), some (.ref i9), some (.ref i10), some v, none, none, none]) (fun _ => rfl) (evp_lstP CsP.mono ⟨fun H' p => evp_cs (w := w) (evp_loc rfl rfl) fun H4 p4 => ?_, fun H' p => evp_cs (w := w) (evp_loc rfl rfl) fun H4 p4 => ?_, trivial⟩ rfl (by decide)) fun c1 K1 r1 s1 => ?_
  · refine evs_cons (evp_lstx (h0 := H.length) (xs := []) (evs_nil rfl) (Nat.le_trans (Nat.le_trans z7 p8.length_le) (p.trans p4).length_le) (lz rfl)) fun v H5 p5 ⟨i, e, k1, k2⟩ => evs_loc (v := hv) rfl (evs_loc (v := lo) rfl (evs_loc (v := hi) rfl (evs_nil ?_)))
    subst e
    exact bad_fm (xs := []) hw k1 k2 hh.1 ab.1 ab.2.1 (by decide) (first_c rfl)
  · exact evs_loc (v := .ref i10) rfl (evs_loc (v := hv) rfl (evs_loc (v := lo) rfl (evs_loc (v := hi) rfl (evs_nil (bad_fm hw f1 (listAt_pre (p.trans p4) f2) hh.1 ab.1 ab.2.1 (by decide) (first_c f3))))))
  refine z_asg (P := LP (CsP (ps0 n0 n1 [] []) (mt0 n0 n1 far) H.length) 4) (L' := fun v => [some (.int c), some (.ref n), some (.int far), some (.str w), some hv, some lo, some hi, some nu, some (.ref i8), some (.ref i9), some (.ref i10), some v, none, none, none]) (fun _ => rfl) ?_ fun c2 K2 r2 s2 => ?_
  · refine evp_addP (n := 2) CsP.mono (evp_loc rfl s1) (fun H9 p9 => ?_) (by decide)
    refine evp_lstP CsP.mono ⟨fun H' p => evp_cs (w := w) (evp_loc rfl rfl) fun H4 p4 => ?_, fun H' p => evp_cs (w := w) (evp_loc rfl rfl) fun H4 p4 => ?_, trivial⟩ rfl (by decide)
    · exact evs_loc (v := .ref i9) rfl (evs_loc (v := hv) rfl (evs_loc (v := lo) rfl (evs_loc (v := hi) rfl (evs_nil (bad_fm hw g1 (listAt_pre ((r1.trans p9).trans (p.trans p4)) g2) hh.1 ab.1 ab.2.1 (by decide) (first_c g3))))))
    · refine evs_loc (v := .ref i8) rfl (evs_loc (v := hv) rfl (evs_loc (v := .int far) rfl (evs_cons (P := fun v H' => v = .int (far + 5)) (fun Q X q => q _ _ (pr _) rfl) fun v H5 p5 e => evs_nil ?_)))
      subst e
      exact bad_fm (xs := [n0, n1]) hw b1 (listAt_pre (((r1.trans p9).trans (p.trans p4)).trans p5) b2) hh.1 rfl rfl (by decide) (first_t nn (strB_h hh.2))
  refine z_asg (P := LP (CsP (ps0 n0 n1 [] []) (mt0 n0 n1 far) H.length) 6) (L' := fun v => [some (.int c), some (.ref n), some (.int far), some (.str w), some hv, some lo, some hi, some nu, some (.ref i8), some (.ref i9), some (.ref i10), some v, none, none, none]) (fun _ => rfl) ?_ fun c3 K3 r3 s3 => ?_
  · refine evp_addP (n := 2) CsP.mono (evp_loc rfl s2) (fun H9 p9 => ?_) (by decide)
    refine evp_lstP CsP.mono ⟨fun H' p => evp_cs (w := w) (evp_loc rfl rfl) fun H4 p4 => ?_, fun H' p => evp_cs (w := "drop") (evp_lit rfl) fun H4 p4 => evs_loc (v := nu) rfl (evs_nil (bad_drop hn.1 hn.2)), trivial⟩ rfl (by decide)
    · refine evs_loc (v := .ref i8) rfl (evs_cons (P := fun v H' => v = .int (1 + c / 32 % 48)) (fun Q X q => ⟨by decide, by decide, q _ _ (pr _) rfl⟩) fun v H5 p5 e => evs_loc (v := lo) rfl (evs_loc (v := hi) rfl (evs_nil ?_)))
      subst e
      exact bad_fm (xs := [n0, n1]) hw b1 (listAt_pre ((((r1.trans r2).trans p9).trans (p.trans p4)).trans p5) b2) rfl ab.1 ab.2.1 (by decide) (first_t nn (strB_ab ab))
  refine z_asg (P := LP (CsP (ps0 n0 n1 [] []) (mt0 n0 n1 far) H.length) 8) (L' := fun v => [some (.int c), some (.ref n), some (.int far), some (.str w), some hv, some lo, some hi, some nu, some (.ref i8), some (.ref i9), some (.ref i10), some v, none, none, none]) (fun _ => rfl) ?_ fun c4 K4 r4 s4 => ?_
  · refine evp_addP (n := 2) CsP.mono (evp_loc rfl s3) (fun H9 p9 => ?_) (by decide)
    refine evp_lstP CsP.mono ⟨fun H' p => evp_cs (w := "move") (evp_lit rfl) fun H4 p4 => evs_loc (v := nu) rfl (evs_loc (v := lo) rfl (evs_loc (v := hi) rfl (evs_nil (bad_moveM hn.1 ab.1 ab.2.1 (strB_ab ab) hn.2)))), fun H' p => evp_cs (w := "move") (evp_lit rfl) fun H4 p4 => evs_lit (evs_loc (v := lo) rfl (evs_loc (v := hi) rfl (evs_nil (bad_moveT rfl ab.1 ab.2.1 (strB_ab ab) rfl)))), trivial⟩ rfl (by decide)
  exact z_ret (evp_pick (n := 8) CsP.mono (evp_loc rfl s4) (ix0 rfl rfl (by decide))) fun v H11 p11 hv => q v H11 (((((p05.trans p6).trans p7).trans p8).trans ((r1.trans r2).trans (r3.trans r4))).trans p11) hv
noncomputable def Θ8 : Orc := ext "_law_meeting_case" C_meeting_case Θ7
end Mine
namespace Mine
open PySem
noncomputable def badL : PV := fun v _ => smp v = true ∧ timeB (numV v) = false
theorem badL.mono : Mono badL := fun _ _ _ _ h => h
theorem and_r {a b : Bool} (h : b = false) : (a && b) = false := by rw [h, Bool.and_false]
theorem and_l {a b : Bool} (h : a = false) : (a && b) = false := by rw [h]; rfl
inductive IC_ever_case (H : Hp) (Q : V → Hp → Prop) : List V → Prop where
  | mk (c far : Int) (n : Nat) (n0 n1 : Str) : listAt H n = some [.str n0, .str n1] → Nm n0 n1 → farOk far → (∀ v H', H <+: H' → Cs (ps0 n0 n1 [] []) (mt0 n0 n1 far) H.length H' v → Q v H') → IC_ever_case H Q [.int c, .ref n, .int far]
noncomputable def C_ever_case : Ctr := fun vs H Q _ => IC_ever_case H Q vs
theorem w_ever_case : ∀ vs H Q X, C_ever_case vs H Q X → wpFn Θ8 f_l_ever_case vs H Q X := by
  rintro vs H Q X ⟨c, far, n, n0, n1, hl, N, hf, q⟩
  have hf2 := hf.2
  have hf1 := hf.1
  refine fn_of rfl ?_
  change wpSs Θ8 f_l_ever_case.body [some (.int c), some (.ref n), some (.int far), none, none, none, none, none, none, none] H _ _
  refine z_asg (P := badH) (L' := fun v => [some (.int c), some (.ref n), some (.int far), some v, none, none, none, none, none, none]) (fun _ => rfl) (ev_hours rfl) fun hv H1 p1 hh => ?_
  refine z_asg (P := badL) (L' := fun v => [some (.int c), some (.ref n), some (.int far), some hv, some v, none, none, none, none, none]) (fun _ => rfl) (evp_pick badL.mono (evp_lstP (n := 5) badL.mono ⟨fun _ _ Q X q => q _ _ (pr _) ⟨rfl, rfl⟩, fun _ _ Q X q => ⟨by decide, q _ _ (pr _) ⟨rfl, rfl⟩⟩, fun _ _ => evp_lit ⟨rfl, rfl⟩, fun _ _ => evp_lit ⟨rfl, rfl⟩, fun _ _ => evp_lit ⟨rfl, rfl⟩, trivial⟩ rfl (by decide)) (ix1 rfl rfl (by decide) (by decide))) fun lo H2 p2 hlo => ?_
  have p02 := p1.trans p2
  have hl2 := listAt_pre p02 hl
  refine z_asg (P := AtL 0 [.str n1, .str n0]) (L' := fun v => [some (.int c), some (.ref n), some (.int far), some hv, some lo, some v, none, none, none, none]) (fun _ => rfl) (evp_lstx (evs_1 rfl hl2 (evs_0 rfl hl2 (evs_nil rfl))) (Nat.zero_le _) (lz rfl)) fun bo H3 p3 hb => ?_
  refine e1_3 hb fun i5 e_349 _ b2 => ?_
  obtain rfl := e_349
  have nn : needR [n0, n1] [n1, n0] = none := need_no rfl (by simp) (by simp [Ne.symm N.ne])
  refine z_asg (P := LP (CsP (ps0 n0 n1 [] []) (mt0 n0 n1 far) H.length) 2) (L' := fun v => [some (.int c), some (.ref n), some (.int far), some hv, some lo, some (.ref i5), some v, none, none, none]) (fun _ => rfl) (evp_lstP CsP.mono ⟨fun H' p => evp_cs (w := "ever") (evp_lit rfl) fun H4 p4 => ?_, fun H' p => evp_cs (w := "ever") (evp_lit rfl) fun H4 p4 => ?_, trivial⟩ rfl (by decide)) fun c1 K1 r1 s1 => ?_
  · refine evs_cons (evp_lstx (h0 := 0) (xs := []) (evs_nil rfl) (Nat.zero_le _) (lz rfl)) fun v H5 p5 ⟨i, e, _, k2⟩ => evs_loc (v := hv) rfl (evs_loc (v := lo) rfl (evs_nil ?_))
    subst e
    exact bad_ever (xs := []) k2 hh.1 hlo.1 (by decide) (ever_c rfl)
  · refine evs_cons (evp_lstx (h0 := 0) (xs := [.str zz]) (evs_lit (evs_nil rfl)) (Nat.zero_le _) (lz rfl)) fun v H5 p5 ⟨i, e, _, k2⟩ => evs_lit (evs_loc (v := .int far) rfl (evs_nil ?_))
    subst e
    exact bad_ever (xs := [zz]) k2 rfl rfl (by decide) (ever_c (need_st (.head _) (zz_no N)))
  refine z_asg (P := LP (CsP (ps0 n0 n1 [] []) (mt0 n0 n1 far) H.length) 4) (L' := fun v => [some (.int c), some (.ref n), some (.int far), some hv, some lo, some (.ref i5), some v, none, none, none]) (fun _ => rfl) ?_ fun c2 K2 r2 s2 => ?_
  · refine evp_addP (n := 2) CsP.mono (evp_loc rfl s1) (fun H9 p9 => ?_) (by decide)
    refine evp_lstP CsP.mono ⟨fun H' p => evp_cs (w := "ever") (evp_lit rfl) fun H4 p4 => ?_, fun H' p => evp_cs (w := "ever") (evp_lit rfl) fun H4 p4 => ?_, trivial⟩ rfl (by decide)
    · have b4 := listAt_pre (r1.trans (p9.trans (p.trans p4))) b2
      refine evs_cons (evp_addx (h0 := 0) (Nat.zero_le _) (evp_loc (v := .ref i5) rfl ⟨i5, rfl, Nat.zero_le _, b4⟩) (fun H2 q2 => evp_loc (v := .ref i5) rfl ⟨i5, rfl, Nat.zero_le _, listAt_pre q2 b4⟩) (lz rfl)) fun v H5 p5 ⟨i, e, _, k2⟩ => evs_loc (v := hv) rfl (evs_loc (v := .int far) rfl (evs_nil ?_))
      subst e
      exact bad_ever (xs := [n1, n0, n1, n0]) k2 hh.1 rfl (by decide) (ever_c (need_tw (x := n1) rfl (by simp [ps0]) (.head _) (cnt2 (.tail _ (.head _)))))
    · exact evs_loc (v := .ref i5) rfl (evs_loc (v := hv) rfl (evs_loc (v := .int far) rfl (evs_nil (bad_ever (xs := [n1, n0]) (listAt_pre (r1.trans (p9.trans (p.trans p4))) b2) hh.1 rfl (by decide) (ever_t nn (and_l hh.2))))))
  refine z_ret ?_ fun v H11 p11 hv => q v H11 ((p02.trans p3).trans ((r1.trans r2).trans p11)) hv
  · refine evp_pick (n := 5) CsP.mono (evp_addP (n := 1) CsP.mono (evp_loc rfl s2) (fun H9 p9 => ?_) (by decide)) (ix1 rfl rfl (by decide) (by decide))
    refine evp_lstP CsP.mono ⟨fun H' p => evp_cs (w := "ever") (evp_lit rfl) fun H4 p4 => ?_, trivial⟩ rfl (by decide)
    refine evs_loc (v := .ref i5) rfl (evs_cons (P := fun v H' => v = .int (1 + c / 224 % 48)) (fun Q X q => ⟨by decide, by decide, q _ _ (pr _) rfl⟩) fun v H5 p5 e => evs_loc (v := lo) rfl (evs_nil ?_))
    subst e
    exact bad_ever (xs := [n1, n0]) (listAt_pre ((r1.trans r2).trans ((p9.trans (p.trans p4)).trans p5)) b2) rfl hlo.1 (by decide) (ever_t nn (and_r hlo.2))
noncomputable def Θ9 : Orc := ext "_law_ever_case" C_ever_case Θ8
noncomputable def lgB (c far : Int) : List Pl := [.every (far + 3) 1 (5002 + c % 5000)]
inductive IC_long_case (H : Hp) (Q : V → Hp → Prop) : List V → Prop where
  | mk (c far a : Int) (n0 n1 : Str) : Nm n0 n1 → 0 ≤ a → a ≤ 999999999999 → (∀ v H', H <+: H' → Cs (ps0 n0 n1 (lgB c far) []) (mt0 n0 n1 far) H.length H' v → Q v H') → IC_long_case H Q [.int c, .str n0, .int a]
noncomputable def C_long_case : Ctr := fun vs H Q _ => IC_long_case H Q vs
theorem w_long_case : ∀ vs H Q X, C_long_case vs H Q X → wpFn Θ9 f_l_long_case vs H Q X := by
  rintro vs H Q X ⟨c, far, a, n0, n1, N, a0, a1, q⟩
  refine fn_of rfl ?_
  change wpSs Θ9 f_l_long_case.body [some (.int c), some (.str n0), some (.int a), none, none, none, none, none, none] H _ _
  refine z_asg (P := badH) (L' := fun v => [some (.int c), some (.str n0), some (.int a), some v, none, none, none, none, none]) (fun _ => rfl) (evp_pick badH.mono (evp_lstP (n := 3) badH.mono ⟨fun _ _ => evp_lit ⟨rfl, rfl⟩, fun _ _ => evp_lit ⟨rfl, rfl⟩, fun _ _ => evp_lit ⟨rfl, rfl⟩, trivial⟩ rfl (by decide)) (ix0 rfl rfl (by decide))) fun hv H1 p1 hh => ?_
  refine z_asg (P := badL) (L' := fun v => [some (.int c), some (.str n0), some (.int a), some hv, some v, none, none, none, none]) (fun _ => rfl) (evp_pick badL.mono (evp_lstP (n := 3) badL.mono ⟨fun _ _ Q X q => q _ _ (pr _) ⟨rfl, rfl⟩, fun _ _ Q X q => ⟨by decide, q _ _ (pr _) ⟨rfl, rfl⟩⟩, fun _ _ => evp_lit ⟨rfl, rfl⟩, trivial⟩ rfl (by decide)) (ix0 rfl rfl (by decide))) fun lo H2 p2 hlo => ?_
  have nn : needR [n0, n1] [n0] = none := need_no rfl (by simp) (by simp)
  have one : ∀ H' : Hp, EvP Θ9 (.lst [(.loc 1)]) [some (.int c), some (.str n0), some (.int a), some hv, some lo, none, none, none, none] H' (AtL 0 [.str n0]) := fun H' => evp_lstx (evs_loc rfl (evs_nil rfl)) (Nat.zero_le _) (lz rfl)
  have one' : ∀ (H' : Hp) (v : V), EvP Θ9 (.lst [(.loc 1)]) [some (.int c), some (.str n0), some (.int a), some hv, some lo, some v, none, none, none] H' (AtL 0 [.str n0]) := fun H' v => evp_lstx (evs_loc rfl (evs_nil rfl)) (Nat.zero_le _) (lz rfl)
  have hN : ∀ {h : Int}, 1 ≤ h → h ≤ 48 → everR ((ps0 n0 n1 (lgB c far) []).map Prs.nm) [n0] (.int h) (.int a) = none := fun h1 h2 => by
    rw [nm_ps]
    unfold everR
    rw [nn]
    show (if (btw 1 48 (some _) && timeB (some a)) = true then none else _) = _
    rw [btw_t h1 h2, show timeB (some a) = true from btw_t a0 a1]; rfl
  have long : ∀ {H' : Hp} {i : Nat} {h : Int}, 1 ≤ h → h ≤ 48 → listAt H' i = some [.str n0] → Bad (ps0 n0 n1 (lgB c far) []) (mt0 n0 n1 far) H.length H' "ever" [.ref i, .int h, .int a] "TooLong" := fun h1 h2 hl =>
    bad_long (p := ⟨n0, [ev1], lgB c far⟩) (w := 5002 + c % 5000) hl (hN h1 h2) (.head _) (.inr ⟨rfl, by lia, by lia⟩) (by lia)
  refine z_asg (P := LP (CsP (ps0 n0 n1 (lgB c far) []) (mt0 n0 n1 far) H.length) 2) (L' := fun v => [some (.int c), some (.str n0), some (.int a), some hv, some lo, some v, none, none, none]) (fun _ => rfl) (evp_lstP CsP.mono ⟨fun H' p => evp_cs (w := "ever") (evp_lit rfl) fun H4 p4 => ?_, fun H' p => evp_cs (w := "ever") (evp_lit rfl) fun H4 p4 => ?_, trivial⟩ rfl (by decide)) fun c1 K1 r1 s1 => ?_
  · refine evs_cons (one _) fun v H5 p5 ⟨i, e, _, k2⟩ => evs_cons (P := fun v H' => v = .int (1 + c / 18 % 48)) (fun Q X q => ⟨by decide, by decide, q _ _ (pr _) rfl⟩) fun v H6 p6 e' => evs_loc (v := .int a) rfl (evs_nil ?_)
    subst e e'
    exact long (by lia) (by lia) (listAt_pre p6 k2)
  · refine evs_cons (one _) fun v H5 p5 ⟨i, e, _, k2⟩ => evs_loc (v := hv) rfl (evs_loc (v := .int a) rfl (evs_nil ?_))
    subst e
    exact bad_ever (xs := [n0]) k2 hh.1 rfl (by decide) (ever_t nn (and_l hh.2))
  refine z_asg (P := LP (CsP (ps0 n0 n1 (lgB c far) []) (mt0 n0 n1 far) H.length) 4) (L' := fun v => [some (.int c), some (.str n0), some (.int a), some hv, some lo, some v, none, none, none]) (fun _ => rfl) ?_ fun c2 K2 r2 s2 => ?_
  · refine evp_addP (n := 2) CsP.mono (evp_loc rfl s1) (fun H9 p9 => ?_) (by decide)
    refine evp_lstP CsP.mono ⟨fun H' p => evp_cs (w := "ever") (evp_lit rfl) fun H4 p4 => ?_, fun H' p => evp_cs (w := "ever") (evp_lit rfl) fun H4 p4 => ?_, trivial⟩ rfl (by decide)
    · refine evs_cons (one' _ _) fun v H5 p5 ⟨i, e, _, k2⟩ => evs_lit (evs_loc (v := lo) rfl (evs_nil ?_))
      subst e
      exact bad_ever (xs := [n0]) k2 rfl hlo.1 (by decide) (ever_t nn (and_r hlo.2))
    · refine evs_cons (evp_lstx (h0 := 0) (xs := [.str n0, .str n0]) (evs_loc rfl (evs_loc rfl (evs_nil rfl))) (Nat.zero_le _) (lz rfl)) fun v H5 p5 ⟨i, e, _, k2⟩ => evs_lit (evs_loc (v := .int a) rfl (evs_nil ?_))
      subst e
      exact bad_ever (xs := [n0, n0]) k2 rfl rfl (by decide) (ever_c (need_tw (x := n0) rfl (by simp [ps0]) (.head _) (cnt2 (.head _))))
  refine z_asg (P := LP (CsP (ps0 n0 n1 (lgB c far) []) (mt0 n0 n1 far) H.length) 6) (L' := fun v => [some (.int c), some (.str n0), some (.int a), some hv, some lo, some v, none, none, none]) (fun _ => rfl) ?_ fun c3 K3 r3 s3 => ?_
  · refine evp_addP (n := 2) CsP.mono (evp_loc rfl s2) (fun H9 p9 => ?_) (by decide)
    refine evp_lstP CsP.mono ⟨fun H' p => evp_cs (w := "ever") (evp_lit rfl) fun H4 p4 => ?_, fun H' p => evp_cs (w := "ever") (evp_lit rfl) fun H4 p4 => ?_, trivial⟩ rfl (by decide)
    · refine evs_cons (evp_lstx (h0 := 0) (xs := [.str n0, .str zz]) (evs_loc rfl (evs_lit (evs_nil rfl))) (Nat.zero_le _) (lz rfl)) fun v H5 p5 ⟨i, e, _, k2⟩ => evs_lit (evs_loc (v := .int a) rfl (evs_nil ?_))
      subst e
      exact bad_ever (xs := [n0, zz]) k2 rfl rfl (by decide) (ever_c (need_st (.tail _ (.head _)) (zz_no N)))
    · refine evs_cons (one' _ _) fun v H5 p5 ⟨i, e, _, k2⟩ => evs_lit (evs_loc (v := .int a) rfl (evs_nil ?_))
      subst e
      exact long (by decide) (by decide) k2
  exact z_ret (evp_pick (n := 6) CsP.mono (evp_loc rfl s3) (ix1 rfl rfl (by decide) (by decide))) fun v H11 p11 hv => q v H11 ((p1.trans p2).trans ((r1.trans r2).trans (r3.trans p11))) hv
noncomputable def Θa : Orc := ext "_law_long_case" C_long_case Θ9
end Mine
namespace Mine
open PySem
theorem Ta_co : Θa (Str.ofString "Book." ++ Str.ofString "come") = C_come := rfl
theorem Ta_bu : Θa (Str.ofString "Book." ++ Str.ofString "busy") = C_busy := rfl
theorem Ta_fr : Θa (Str.ofString "Book." ++ Str.ofString "is_free") = C_is_free := rfl
theorem Ta_fi : Θa (Str.ofString "Book." ++ Str.ofString "first") = C_first := rfl
theorem Ta_me : Θa (Str.ofString "Book." ++ Str.ofString "meet") = C_meet := rfl
theorem Ta_ev : Θa (Str.ofString "Book." ++ Str.ofString "ever") = C_ever := rfl
theorem Ta_dr : Θa (Str.ofString "Book." ++ Str.ofString "drop") = C_drop := rfl
theorem Ta_pe : Θa (Str.ofString "Book." ++ Str.ofString "people") = C_people := rfl
theorem Ta_c1 : Θa "_law_class_one" = C_class_one := rfl
section
variable {ps : List Prs} {m : Mtg} {h0 : Nat} {H : Hp} {k : Bk} {w c : Str} {n : Nat} {l : List V} {Q : V → Hp → Prop} {X : XL}
theorem co_bad (B : BkAt H k ps [m]) (hf : ∀ i ∈ k.foot, i < h0) (hk : k.c ≤ 100) (hl : listAt H n = some l) (b : Bad ps m h0 H w l c) (q : ∀ H', H <+: H' → Q (.str c) H') : C_class_one [.ref k.b, .str w, .ref n] H Q X :=
  .mk k.b n w l ⟨⟨_, B.ns⟩, hl, b.hw, b.go H k _ _ (pr H) B hf hk fun H' p => xc9 b.hc (q H' p)⟩
theorem by_bad (B : BkAt H k ps [m]) (hf : ∀ i ∈ k.foot, i < h0) (hk : k.c ≤ 100) (hl : listAt H n = some l) (b : Bad ps m h0 H w l c) (q : ∀ H', H <+: H' → Q (.bool true) H') : C_by_any [.ref k.b, .str w, .ref n] H Q X :=
  .mk k.b n w l ⟨⟨_, B.ns⟩, hl, b.hw, b.go H k _ _ (pr H) B hf hk fun H' p => xa9 b.hc (q H' p)⟩
end
theorem dz {d : PyData} (h : Nat.ble d.depth 60 = true) : d.depth ≤ 60 := Nat.le_of_ble_eq_true h
section
variable {H : Hp} {Q : V → Hp → Prop} {a b : V} {d : PyData} {i j : Nat} {l : List V}
theorem ne_of (h1 : toPyT H a = some d) (h2 : toPyT H b = some d) (hd : d.depth ≤ 60) (he : PyData.eqv d d = true) (q : Q (.bool false) H) : pCmp .NotEq a b H Q := by
  show oK (eqH H a b) _
  unfold eqH
  rw [h1, h2, Option.bind_some, Option.bind_some, if_pos hd, he]; exact q
theorem ref_T {ds : List PyData} (h : listAt H i = some l) (hd : toPys l = some ds) : toPyT H (.ref i) = some (.list ds) := by
  show ((listAt H i).bind toPys).map _ = _
  rw [h, Option.bind_some, hd]; rfl
theorem ne_refs {ds : List PyData} (h1 : listAt H i = some l) (h2 : listAt H j = some l) (hd : toPys l = some ds) (hz : (PyData.list ds).depth ≤ 60) (he : PyData.eqvAll ds ds = true) (q : Q (.bool false) H) : pCmp .NotEq (.ref i) (.ref j) H Q := ne_of (ref_T h1 hd) (ref_T h2 hd) hz he q
end
noncomputable def CallP (ps : List Prs) (m : Mtg) (h0 : Nat) (c : Str) : PV := fun v H => ∃ (w : Str) (n : Nat) (l : List V), v = .tup [.str w, .ref n] ∧ listAt H n = some l ∧ Bad ps m h0 H w l c
theorem CallP.mono {ps : List Prs} {m : Mtg} {h0 : Nat} {c : Str} : Mono (CallP ps m h0 c) := fun v H H' p ⟨w, n, l, e, hl, b⟩ => ⟨w, n, l, e, listAt_pre p hl, b.pre p⟩
noncomputable def Calls (ps : List Prs) (m : Mtg) (h0 : Nat) : List Str → List V → Hp → Prop
  | [], vs, _ => vs = []
  | c :: cs, vs, H => ∃ v r, vs = v :: r ∧ CallP ps m h0 c v H ∧ Calls ps m h0 cs r H
theorem Calls.pre {ps : List Prs} {m : Mtg} {h0 : Nat} {H H' : Hp} (p : H <+: H') : ∀ {cs : List Str} {vs : List V}, Calls ps m h0 cs vs H → Calls ps m h0 cs vs H'
  | [], _, h => h
  | _ :: _, _, ⟨v, r, e, h1, h2⟩ => ⟨v, r, e, CallP.mono _ _ _ p h1, h2.pre p⟩
theorem evs_call {Φ : Orc} {es r : List IE} {L : Lc} {H : Hp} {ps : List Prs} {m : Mtg} {h0 : Nat} {w c : Str} {cs : List Str} (h1 : ∀ H', H <+: H' → EvS Φ es L H' fun vs H2 => Bad ps m h0 H2 w vs c) (h2 : ∀ H', H <+: H' → EvS Φ r L H' (Calls ps m h0 cs)) : EvS Φ (.tup [.lit (.str w), .lst es] :: r) L H (Calls ps m h0 (c :: cs)) := by
  refine evs_cons (P := CallP ps m h0 c) (fun Q X q => ?_) fun v H1 p1 hv Q X q => h2 H1 p1 _ X fun vs H2 p2 hs => q vs H2 p2 ⟨v, vs, rfl, CallP.mono _ _ _ p2 hv, hs⟩
  refine h1 H (pr H) _ X fun vs H2 p2 hb => ?_
  exact ⟨Nat.le_trans (w_len _ hb.hw).2 (by decide), lz rfl, q _ _ (p2.trans pre_new) ⟨w, _, vs, rfl, listAt_new, hb.pre pre_new⟩⟩
noncomputable abbrev mgC : IE := .call (.fn "_law_class_one") [(.loc 0), (.sub (.loc 7) (.lit (.int 0))), (.sub (.loc 7) (.lit (.int 1)))]
theorem calls_go {X : XL} {ps : List Prs} {m : Mtg} {h0 : Nat} {k : Bk} {t1 t2 t3 t4 t5 t6 t7 t8 t9 : Option V} {i : Nat} {vs0 : List V} {QL : List V → Hp → Prop} (hf : ∀ i ∈ k.foot, i < h0) (hk : k.c ≤ 100) : ∀ (cs : List Str) (vs acc : List V) (H : Hp), BkAt H k ps [m] → listAt H i = some vs0 → Calls ps m h0 cs vs H → (∀ H', H <+: H' → QL (acc ++ cs.map V.str) H') →
    compGo (coEX Θa mgC X) (fun H' => listAt H' i = some vs0) 7 [some (.ref k.b), t1, t2, t3, t4, t5, t6, t7, t8, t9] vs acc H QL := by
  intro cs
  induction cs with
  | nil =>
    intro vs acc H B hl h q
    obtain rfl : vs = [] := h
    rw [List.map_nil, List.append_nil] at q; exact q H (pr H)
  | cons c cs ih =>
    rintro vs acc H B hl ⟨v, r, rfl, ⟨w, n, l, rfl, hn, hb⟩, hr⟩ q
    rw [coX_cons]
    simp_arith only [↓Ta_c1]
    refine co_bad B hf hk hn hb fun H' p => ⟨listAt_pre p hl, ih r _ H' (B.pre p) (listAt_pre p hl) (hr.pre p) fun H2 p2 => ?_⟩
    rw [List.append_assoc]; exact q H2 (p.trans p2)
structure Sg (H : Hp) (k : Bk) (n : Nat) (n0 n1 : Str) (ps : List Prs) (hs : List Mtg) (c : Nat) : Prop where
  B : BkAt H k ps hs
  hl : listAt H n = some [.str n0, .str n1]
  hn : n ∉ k.foot
  hc : k.c ≤ c
section
variable {H H' : Hp} {k k' : Bk} {n : Nat} {n0 n1 : Str} {ps ps' : List Prs} {hs hs' : List Mtg} {c : Nat}
theorem Sg.pre (S : Sg H k n n0 n1 ps hs c) (p : H <+: H') : Sg H' k n n0 n1 ps hs c := ⟨S.B.pre p, listAt_pre p S.hl, S.hn, S.hc⟩
theorem Sg.next {c' : Nat} (S : Sg H k n n0 n1 ps hs c) (f : Fr k.foot H H') (hf : ∀ i ∈ k'.foot, i ∈ k.foot ∨ H.length ≤ i) (hc : k'.c ≤ c') (B : BkAt H' k' ps' hs') : Sg H' k' n n0 n1 ps' hs' c' := ⟨B, f.list S.hn S.hl, fun h => by
  rcases hf n h with q | q
  · exact S.hn q
  · have := listAt_lt S.hl; lia, hc⟩
theorem Sg.out (S : Sg H k n n0 n1 ps hs c) {i : Nat} (h : H.length ≤ i) : i ∉ k.foot := fun q => by have := S.B.lt i q; lia
end
noncomputable def pz : Prs := ⟨zz, [ev1], []⟩
noncomputable def rl2 (far : Int) : Pl := .once far 2
noncomputable def psG (n0 n1 : Str) (far : Int) (b0 : List Pl) : List Prs := [⟨n0, [ev1], b0⟩, ⟨n1, [ev1], [rl2 far]⟩, pz]
theorem ev_cov {x : Int} (h : 0 ≤ x) : cov ev1 x = true := by
  refine List.any_eq_true.mpr ⟨0, mem_rangeJ.mpr ⟨by decide, by decide⟩, ?_⟩
  unfold bg
  rw [if_neg (by lia)]
  show (decide (0 ≤ x - 0) && decide ((x - 0 - 0) % 1 = 0)) = true
  rw [decide_eq_true (by lia), decide_eq_true (by lia)]; rfl
theorem ev_fine : ev1.fine := ⟨⟨by decide, by decide⟩, ⟨by decide, by decide⟩, by decide, by decide⟩
theorem free_ev {nm : Str} {bu : List Pl} {x : Int} {hs : List Mtg} {b : Int} (h : 0 ≤ x) (hm : meets b hs nm x = false) (hb : ∀ r ∈ bu, cov r x = false) : fre b hs ⟨nm, [ev1], bu⟩ x = true := by
  unfold fre freeAt
  have e1 : (bu.any fun r => cov r x) = false := by
    rw [Bool.eq_false_iff]
    intro g
    refine e1_2 (List.any_eq_true.mp g) fun r hr g => ?_
    rw [hb r hr] at g; exact Bool.noConfusion g
  have e2 : ([ev1].any fun r => cov r x) = true := List.any_eq_true.mpr ⟨ev1, .head _, ev_cov h⟩
  rw [decide_eq_false (by lia), hm, e1, e2]; rfl
theorem zz_fre {H : Hp} {k : Bk} {ps : List Prs} {hs : List Mtg} {x b hours : Int} (hz : pz ∈ ps) (hh : sizeOk1 hours) (h : 0 ≤ x) (hm : ∀ y, x ≤ y → y < x + hours → meets b hs zz y = false) : Fre ps hs [pz] hours x b :=
  ⟨fun q hq => by rw [List.mem_singleton.mp hq]; exact ⟨hz, fun r hr => by rw [List.mem_singleton.mp hr]; exact ev_fine, fun _ hr => nomatch hr⟩, hh, fun q hq y y1 y2 => by rw [List.mem_singleton.mp hq]; exact free_ev (by lia) (hm y y1 y2) fun _ hr => nomatch hr⟩
inductive IC_made_good (H : Hp) (Q : V → Hp → Prop) : List V → Prop where
  | mk (k : Bk) (n : Nat) (far : Int) (n0 n1 : Str) (b0 : List Pl) : Sg H k n n0 n1 (ps0 n0 n1 b0 []) [mt0 n0 n1 far] 50 → k.g = 1 → Nm n0 n1 → farOk far → (∀ r ∈ b0, r.fine ∧ cov r far = false) → b0.length ≤ 20 → (∀ H', Q (.bool true) H') → IC_made_good H Q [.ref k.b, .ref n, .int far]
noncomputable def C_made_good : Ctr := fun vs H Q _ => IC_made_good H Q vs
noncomputable abbrev mgL (b n : Nat) (far : Int) (v3 : V) (t4 t5 t6 t7 t8 t9 : Option V) : Lc := [some (.ref b), some (.ref n), some (.int far), some v3, t4, t5, t6, t7, t8, t9]
section
variable {H : Hp} {k : Bk} {n : Nat} {far : Int} {n0 n1 : Str} {b0 : List Pl} {t4 t5 t6 t7 t8 t9 : Option V} {Q : QS} {X : XS}
theorem mg_a (S : Sg H k n n0 n1 (ps0 n0 n1 b0 []) [mt0 n0 n1 far] 50) (N : Nm n0 n1) (hf : farOk far) (q : ∀ H' t4 t5, H <+: H' → wpSs Θa (f_l_made_good.body.drop 4) (mgL k.b n far (pv (rl2 far)) t4 t5 none none none none) H' Q X) :
    wpSs Θa f_l_made_good.body [some (.ref k.b), some (.ref n), some (.int far), none, none, none, none, none, none, none] H Q X := by
  have hf1 := hf.1
  have hf2 := hf.2
  refine z_asg (P := fun v H' => v = pv (rl2 far)) (L' := fun v => mgL k.b n far v none none none none none none) (fun _ => rfl) (fun Q X q => by simp_arith only [X_lit]; exact q _ _ (pr _) rfl) fun v H1 p1 e => ?_
  subst e
  have S1 := S.pre p1
  refine z_asg (P := fun v H' => ∃ i vs, v = .ref i ∧ listAt H' i = some vs ∧ Calls (ps0 n0 n1 b0 []) (mt0 n0 n1 far) H1.length ["Clash", "Stranger", "NoMeeting", "Stranger"] vs H') (L' := fun v => mgL k.b n far (pv (rl2 far)) (some v) none none none none none) (fun _ => rfl) ?_ fun v H2 p2 hv => ?_
  · refine evp_lstR (R := Calls (ps0 n0 n1 b0 []) (mt0 n0 n1 far) H1.length ["Clash", "Stranger", "NoMeeting", "Stranger"]) ?_ fun vs H2 p2 hv => ?_
    · refine evs_call (fun H' p => evs_1 rfl (listAt_pre p S1.hl) (evs_loc (v := pv (rl2 far)) rfl (evs_nil ?_))) fun H3 p3 => evs_call (fun H' p => evs_lit (evs_loc (v := .int far) rfl (evs_nil (bad_free rfl (zz_in N))))) fun H4 p4 => evs_call (fun H' p => evs_lit (evs_nil (bad_drop rfl (by show some (2 : Int) ≠ some 1; decide)))) fun H5 p5 => evs_call (fun H' p => ?_) fun H6 p6 => evs_nil rfl
      · refine bad_busyC (as := [⟨n0, [ev1], b0⟩]) (p := ⟨n1, [ev1], []⟩) (bs := []) ⟨⟨hf1, by lia⟩, by decide, by decide⟩ ⟨hf1, by show (0 : Int) ≤ 2; decide, by show (2 : Int) ≤ 48; decide⟩ (by show 0 < 20; decide) ?_
        unfold clashB
        rw [List.any_cons]
        refine (Bool.or_eq_true _ _).mpr (.inl ((Bool.and_eq_true _ _).mpr ⟨List.contains_iff_mem.mpr (.head _), List.any_eq_true.mpr ⟨0, mem_rangeJ.mpr ⟨by decide, by show (0 : Int) < 2; decide⟩, ?_⟩⟩))
        exact cov_hit (x := far + 0) (by lia) (by lia) (by lia)
      · refine evs_cons (evp_lstx (h0 := 0) (xs := [.str zz]) (evs_lit (evs_nil rfl)) (Nat.zero_le _) (lz rfl)) fun v H5 p5 ⟨i, e, _, k2⟩ => evs_lit (evs_loc (v := .int far) rfl (evs_cons (P := fun v H' => v = .int (far + 1)) (fun Q X q => q _ _ (pr _) rfl) fun v H6 p6 e' => evs_nil ?_))
        subst e e'
        exact bad_first (xs := [zz]) (listAt_pre p6 k2) rfl rfl rfl (by decide) (first_c (need_st (.head _) (zz_no N)))
    obtain ⟨v1, r1, rfl, a1, v2, r2, rfl, a2, v3, r3, rfl, a3, v4, r4, rfl, a4, rfl⟩ := hv
    exact ⟨lz rfl, ⟨_, _, rfl, listAt_new, _, _, rfl, CallP.mono _ _ _ pre_new a1, _, _, rfl, CallP.mono _ _ _ pre_new a2, _, _, rfl, CallP.mono _ _ _ pre_new a3, _, _, rfl, CallP.mono _ _ _ pre_new a4, rfl⟩⟩
  refine e2_3 hv fun i4 vs e_355 l4 C => ?_
  obtain rfl := e_355
  refine z_asg (P := AtL 0 (([(Str.ofString "Clash"), (Str.ofString "Stranger"), (Str.ofString "NoMeeting"), (Str.ofString "Stranger")] : List Str).map V.str)) (L' := fun v => mgL k.b n far (pv (rl2 far)) (some (.ref i4)) (some v) none none none none) (fun _ => rfl) (evp_lstx (evs_lit (evs_lit (evs_lit (evs_lit (evs_nil rfl))))) (Nat.zero_le _) (lz rfl)) fun v H3 p3 hv => ?_
  refine e1_3 hv fun i5 e_356 _ l5 => ?_
  obtain rfl := e_356
  refine zs_cons ?_
  generalize hK : sqX Θa (_ :: _) = K
  have l43 := listAt_pre p3 l4
  simp_arith only [l43]
  refine calls_go (fun i hi => S1.B.lt i hi) (Nat.le_trans S.hc (by decide)) _ vs [] H3 (S1.B.pre (p2.trans p3)) l43 (C.pre p3) fun H4 p4 => ?_
  refine ⟨by decide, ?_⟩
  refine ne_refs listAt_new (listAt_pre (p4.trans pre_new) l5) rfl (by decide) (by decide) ?_
  simp_arith only [X_lit]
  subst hK
  exact q _ _ _ (((p1.trans p2).trans p3).trans (p4.trans pre_new))
end
end Mine
namespace Mine
open PySem
theorem come_ok {nms : List Str} {v : V} {ts : List Tg} (h : nameB v = true) (h2 : inB v nms = false) (h3 : (decide (20 < ts.length) || !ts.all Tg.good) = false) : comeR nms v ts = none := by unfold comeR; rw [if_neg (by rw [h]; decide), if_neg (by rw [h2]; decide), if_neg (by rw [h3]; decide)]
theorem first_ok {nms xs : List Str} {h a b : Int} (h1 : needR nms xs = none) (hh : sizeOk1 h) (ha : hourOk a) (hb : hourOk b) (hab : a ≤ b) (hba : b ≤ a + 10000) : firstR nms xs (.int h) (.int a) (.int b) = none := by
  unfold firstR
  rw [h1]
  show (if strB _ _ _ = true then none else some _) = none
  rw [if_pos]
  show (btw 1 48 (some h) && timeB (some a) && timeB (some b) && (decide (a ≤ b) && decide (b ≤ a + 10000))) = true
  rw [btw_t hh.1 hh.2, time_t ha, time_t hb, decide_eq_true hab, decide_eq_true hba]; rfl
theorem nm_inj {p p' : Prs} : ∀ {ps : List Prs}, (ps.map Prs.nm).Nodup → p ∈ ps → p' ∈ ps → p'.nm = p.nm → p' = p
  | [], _, h, _, _ => nomatch h
  | a :: ps, nd, h, h', e => by
    rw [List.map_cons] at nd
    obtain ⟨n1, n2⟩ := List.nodup_cons.mp nd
    rcases List.mem_cons.mp h with q | q <;> rcases List.mem_cons.mp h' with q' | q'
    · rw [q, q']
    · exact absurd (by rw [← q, ← e]; exact List.mem_map_of_mem q') n1
    · exact absurd (by rw [← q', e]; exact List.mem_map_of_mem q) n1
    · exact nm_inj n2 q q' e
theorem free_is {H : Hp} {k : Bk} {ps : List Prs} {hs : List Mtg} {p : Prs} {x : Int} {b : Bool} {Q : V → Hp → Prop} {X : XL} (B : BkAt H k ps hs) (nd : (ps.map Prs.nm).Nodup) (hp : p ∈ ps) (hf : p.fine) (e : fre 0 hs p x = b) (q : Q (.bool b) H) : C_is_free [.ref k.b, .str p.nm, .int x] H Q X := by
  refine .mk k ps hs _ x B rfl (fun p' hp' h => ?_) fun h => ?_
  · rw [nm_inj nd hp hp' (Option.some.inj (congrArg strV h)).symm, e]; exact ⟨hf, q⟩
  · have : inB (.str p.nm) (ps.map Prs.nm) = true := List.contains_iff_mem.mpr (List.mem_map_of_mem hp)
    rw [h] at this; exact Bool.noConfusion this
theorem nd_G {n0 n1 : Str} {far : Int} {b0 : List Pl} (N : Nm n0 n1) : ((psG n0 n1 far b0).map Prs.nm).Nodup := by
  show [n0, n1, zz].Nodup
  simp [N.ne, N.z0, N.z1]
theorem need_zz {n0 n1 : Str} {far : Int} {b0 : List Pl} : needR ((psG n0 n1 far b0).map Prs.nm) [zz] = none := need_no rfl (fun x hx => by rw [List.mem_singleton.mp hx]; exact .tail _ (.tail _ (.head _))) (by simp)
theorem mz_no {b x : Int} {nm : Str} : meets b [] nm x = false := rfl
section
variable {H : Hp} {k : Bk} {n : Nat} {far : Int} {n0 n1 : Str} {b0 : List Pl} {t4 t5 t6 t7 t8 t9 : Option V} {Q : QS} {X : XS} {v3 : V}
theorem mg_b (S : Sg H k n n0 n1 (ps0 n0 n1 b0 []) [mt0 n0 n1 far] 50) (hg : k.g = 1) (N : Nm n0 n1) (hf : farOk far) (q : ∀ (H' : Hp) (k' : Bk), k'.g = 1 → Sg H' k' n n0 n1 (psG n0 n1 far b0) [] 51 → wpSs Θa (f_l_made_good.body.drop 7) (mgL k'.b n far (pv (rl2 far)) t4 t5 t6 t7 t8 t9) H' Q X) :
    wpSs Θa (f_l_made_good.body.drop 4) (mgL k.b n far (pv (rl2 far)) t4 t5 t6 t7 t8 t9) H Q X := by
  have hf1 := hf.1
  have hf2 := hf.2
  have hc := S.hc
  refine zs_cons ?_
  generalize hK : sqX Θa (_ :: _) = K
  simp_arith only [S.B.ns, ↓Ta_co]
  have S1 := S.pre (pre_new (o := .list [pv ev1]))
  have l1 := listAt_new (H := H) (l := [pv ev1])
  refine .mk k _ _ (.str zz) _ [.pl ev1] S1.B l1 (asc_nm zz_nm) rfl (fun t ht => by rw [List.mem_singleton.mp ht]; exact ev_fine) (fun c hc => ?_) fun _ => ⟨zz, [ev1], rfl, rfl, S.out (Nat.le_refl _), zz_no N, by decide, by show 2 ≤ 1000; decide, fun H2 k2 f2 e1 e2 e3 e4 B2 => ?_⟩
  · exact no_some ((come_ok (v := .str zz) (ts := [.pl ev1]) zz_nm (zz_in N) rfl).symm.trans hc)
  subst hK
  have S2 := S1.next f2 e4 (c' := 50) (by lia) B2
  rw [← e1]
  refine zs_cons ?_
  generalize hK : sqX Θa (_ :: _) = K
  simp_arith only [S2.B.ns, ↓Ta_dr]
  refine .mk k2 _ (mt0 n0 n1 far) (.int 1) S2.B rfl (by lia) (fun h => absurd rfl h) fun _ H3 k3 f3 d1 d2 d3 d4 B3 => ?_
  subst hK
  have S3 := S2.next f3 d4 (c' := 51) (by lia) B3
  rw [← d1]
  refine zs_cons ?_
  generalize hK : sqX Θa (_ :: _) = K
  simp_arith only [S3.B.ns, S3.hl, ↓Ta_bu]
  refine .ok k3 [⟨n0, [ev1], b0⟩] [pz] ⟨n1, [ev1], []⟩ [] (rl2 far) S3.B ⟨⟨hf1, by lia⟩, by decide, by decide⟩ (fun _ h => nomatch h) (fun h => absurd h (by show ¬ 20 ≤ 0; decide)) (fun _ h => Bool.noConfusion h) fun _ _ H4 f4 B4 => ?_
  subst hK
  exact q H4 k3 (by rw [d2, e2, hg]) (S3.next (f4.mono fun i hi => .inl (ft_ul hi)) (fun i hi => .inl hi) (by have := S3.hc; exact this) B4)
theorem mg_meet {a : Int} {c c' : Nat} {g : Int} {r : List IS} {e1 e2 : IE} {Q : V → Hp → Prop} {X : XL} (S : Sg H k n n0 n1 (psG n0 n1 far b0) [] c) (hc : c + 1 = c') (hc2 : c ≤ 200) (hg : k.g + 1 = g) (ha : hourOk a) (ha2 : hourOk (a + 1)) (q : ∀ (H' : Hp) (k' : Bk), k'.b = k.b → k'.g = g → Sg H' k' n n0 n1 (psG n0 n1 far b0) [⟨g, a, 1, [zz]⟩] c' → Q (.tup [.int g, .int a]) H') :
    C_meet [.ref k.b, .ref H.length, .int 1, .int a, .int (a + 1)] (H ++ [.list [.str zz]]) Q X := by
  have a1 := ha.1
  have S1 := S.pre (pre_new (o := .list [.str zz]))
  have l1 := listAt_new (H := H) (l := [.str zz])
  have hcc := S.hc
  refine .mk k _ _ [] [zz] (.int 1) (.int a) (.int (a + 1)) S1.B l1 (S.out (Nat.le_refl _)) (by decide) (by lia) rfl rfl rfl (fun c hc => ?_) fun _ => ⟨[pz], 1, a, a + 1, ⟨rfl, rfl, rfl, rfl, zz_fre (H := H) (k := k) (.tail _ (.tail _ (.head _))) ⟨by decide, by decide⟩ a1 fun _ _ _ => rfl, Int.le_refl _⟩, fun k' H' f ef eb eg ec B' => ?_⟩
  · rw [first_ok need_zz ⟨by decide, by decide⟩ ha ha2 (by lia) (by lia)] at hc; exact no_some hc
  · rw [hg] at B' eg ⊢
    exact q H' k' eb eg (S1.next f (fun i hi => .inl (by rw [← ef]; exact hi)) (by lia) B')
theorem tup_T {H : Hp} {a b : V} {d e : PyData} (h1 : toPyT H a = some d) (h2 : toPyT H b = some e) : toPyT H (.tup [a, b]) = some (.tuple [d, e]) := by
  show (((toPyT H a).bind fun d => ((toPyT H b).bind fun e => some [e]).map (d :: ·))).map PyData.tuple = _
  rw [h1, h2]; rfl
theorem mg_c (S : Sg H k n n0 n1 (psG n0 n1 far b0) [] 51) (hg : k.g = 1) (hf : farOk far) (q : ∀ (H' : Hp) (k' : Bk), k'.g = 2 → Sg H' k' n n0 n1 (psG n0 n1 far b0) [⟨2, far, 1, [zz]⟩] 52 → wpSs Θa (f_l_made_good.body.drop 8) (mgL k'.b n far v3 t4 t5 t6 t7 t8 t9) H' Q X) :
    wpSs Θa (f_l_made_good.body.drop 7) (mgL k.b n far v3 t4 t5 t6 t7 t8 t9) H Q X := by
  have hf1 := hf.1
  have hf2 := hf.2
  have ha : hourOk far := ⟨hf1, by lia⟩
  have ha2 : hourOk (far + 1) := ⟨by lia, by lia⟩
  refine zs_cons ?_
  generalize hK : sqX Θa (_ :: _) = K
  simp_arith only [S.B.ns, ↓Ta_fi]
  have S1 := S.pre (pre_new (o := .list [.str zz]))
  have l1 := listAt_new (H := H) (l := [.str zz])
  refine .mk k _ _ [] [zz] (.int 1) (.int far) (.int (far + 1)) S1.B l1 rfl rfl rfl (fun c hc => ?_) fun _ => ⟨[pz], 1, far, far + 1, ⟨rfl, rfl, rfl, rfl, zz_fre (H := H) (k := k) (.tail _ (.tail _ (.head _))) ⟨by decide, by decide⟩ hf1 fun _ _ _ => rfl, Int.le_refl _⟩, ?_⟩
  · rw [first_ok need_zz ⟨by decide, by decide⟩ ha ha2 (by lia) (by lia)] at hc; exact no_some hc
  generalize H ++ [O.list [V.str zz]] = H1 at *
  have S2 := S1.pre (pre_new (o := .list []))
  have l2 := listAt_new (H := H1) (l := [])
  generalize H1 ++ [O.list []] = H2 at *
  refine ne_of (d := .tuple [.int far, .list []]) (tup_T rfl (ref_T (listAt_pre pre_new l2) rfl)) (tup_T rfl (ref_T listAt_new rfl)) (dz rfl) (by simp [PyData.eqv, PyData.eqvAll]) ?_
  have S3 := S2.pre (pre_new (o := .list []))
  generalize H2 ++ [O.list []] = H3 at *
  simp_arith only [S3.B.ns, ↓Ta_me]
  refine mg_meet (r := []) (e1 := .dct) (e2 := .dct) S3 rfl (by decide) (by rw [hg]) ha ha2 fun H4 k4 eb eg S4 => ?_
  simp_arith only [X_lit]
  refine ne_of (d := .tuple [.int 2, .int far]) (tup_T rfl rfl) (tup_T rfl rfl) (dz rfl) (by simp [PyData.eqv, PyData.eqvAll]) ?_
  simp_arith only [X_lit]
  subst hK
  rw [← eb]
  exact q H4 k4 eg S4
end
end Mine
namespace Mine
open PySem
theorem fre_m {b x : Int} {hs : List Mtg} {p : Prs} (h : meets b hs p.nm x = true) : fre b hs p x = false := by
  unfold fre; rw [h]; exact Bool.and_false _
theorem meets_1 {no hr x : Int} {nm : Str} {who : List Str} (h0 : no ≠ 0) (hw : who.contains nm = true) (h1 : hr ≤ x) (h2 : x < hr + 1) : meets 0 [⟨no, hr, 1, who⟩] nm x = true := by
  unfold meets
  rw [List.any_cons, hw]
  show (decide (no ≠ 0) && (true && (decide (hr ≤ x) && decide (x < hr + 1))) || _) = true
  rw [decide_eq_true h0, decide_eq_true h1, decide_eq_true h2]; rfl
theorem meets_n {no hr sz x b : Int} {nm : Str} {who : List Str} (hw : who.contains nm = false) : meets b [⟨no, hr, sz, who⟩] nm x = false := by
  unfold meets
  rw [List.any_cons, hw, Bool.false_and, Bool.and_false]; rfl
theorem pz_fine : pz.fine := ⟨fun r hr => by rw [List.mem_singleton.mp hr]; exact ev_fine, fun _ hr => nomatch hr⟩
theorem mz : (pz ∈ ([] : List Prs)) → False := fun h => nomatch h
section
variable {H : Hp} {k : Bk} {n : Nat} {far a : Int} {n0 n1 : Str} {b0 : List Pl} {t4 t5 t6 t7 t8 t9 : Option V} {Q : QS} {X : XS} {v3 : V}
theorem pz_in : pz ∈ psG n0 n1 far b0 := .tail _ (.tail _ (.head _))
theorem mg_d (S : Sg H k n n0 n1 (psG n0 n1 far b0) [⟨2, far, 1, [zz]⟩] 52) (N : Nm n0 n1) (hf : farOk far) (hb : ∀ r ∈ b0, r.fine ∧ cov r far = false) (q : ∀ (H' : Hp), H <+: H' → wpSs Θa (f_l_made_good.body.drop 9) (mgL k.b n far v3 t4 t5 t6 t7 t8 t9) H' Q X) :
    wpSs Θa (f_l_made_good.body.drop 8) (mgL k.b n far v3 t4 t5 t6 t7 t8 t9) H Q X := by
  have hf1 := hf.1
  have hf2 := hf.2
  refine zs_cons ?_
  generalize hK : sqX Θa (_ :: _) = K
  simp_arith only [S.hl, listAt_new]
  have p1 : H <+: H ++ [.list [.str zz, .str n0, .str n1]] := pre_new
  have S1 := S.pre p1
  have l1 := listAt_new (H := H) (l := [.str zz, .str n0, .str n1])
  generalize H ++ [O.list [V.str zz, V.str n0, V.str n1]] = H1 at *
  rw [coX_cons]
  simp_arith only [S1.B.ns, ↓Ta_fr]
  refine free_is (p := pz) S1.B (nd_G N) pz_in pz_fine (fre_m (meets_1 (by decide) (by decide) (Int.le_refl _) (by lia))) ⟨l1, ?_⟩
  rw [coX_cons]
  simp_arith only [S1.B.ns, ↓Ta_fr]
  refine free_is (p := ⟨n0, [ev1], b0⟩) S1.B (nd_G N) (.head _) ⟨fun r hr => by rw [List.mem_singleton.mp hr]; exact ev_fine, fun r hr => (hb r hr).1⟩ (free_ev hf1 (meets_n (Bool.eq_false_iff.mpr fun h => N.z0 (List.mem_singleton.mp (List.contains_iff_mem.mp h)))) fun r hr => (hb r hr).2) ⟨l1, ?_⟩
  rw [coX_cons]
  simp_arith only [S1.B.ns, ↓Ta_fr]
  refine free_is (p := ⟨n1, [ev1], [rl2 far]⟩) (b := false) S1.B (nd_G N) (.tail _ (.head _)) ⟨fun r hr => by rw [List.mem_singleton.mp hr]; exact ev_fine, fun r hr => by rw [List.mem_singleton.mp hr]; exact ⟨⟨hf1, by lia⟩, by decide, by decide⟩⟩ ?_ ⟨l1, ?_⟩
  · unfold fre freeAt
    rw [show ([rl2 far].any fun r => cov r far) = true from List.any_eq_true.mpr ⟨_, .head _, cov_hit hf1 (Int.le_refl _) (by lia)⟩, Bool.not_true, Bool.and_false, Bool.and_false, Bool.and_false]
  rw [coX_nil]
  refine ⟨by decide, ?_⟩
  refine ne_refs (listAt_pre pre_new listAt_new) listAt_new rfl (by decide) (by decide) ?_
  simp_arith only [X_lit]
  subst hK
  exact q _ ((p1.trans pre_new).trans pre_new)
theorem mg_e (S : Sg H k n n0 n1 (psG n0 n1 far b0) [⟨2, far, 1, [zz]⟩] 52) (hg : k.g = 2) (N : Nm n0 n1) (hf : farOk far) (q : ∀ (H' : Hp) (k' : Bk), k'.g = 2 → Sg H' k' n n0 n1 (psG n0 n1 far b0) [] 53 → wpSs Θa (f_l_made_good.body.drop 10) (mgL k'.b n far v3 t4 t5 t6 t7 t8 t9) H' Q X) :
    wpSs Θa (f_l_made_good.body.drop 9) (mgL k.b n far v3 t4 t5 t6 t7 t8 t9) H Q X := by
  have hf1 := hf.1
  have hf2 := hf.2
  have hc := S.hc
  refine zs_cons ?_
  generalize hK : sqX Θa (_ :: _) = K
  simp_arith only [S.B.ns, ↓Ta_dr]
  refine .mk k _ ⟨2, far, 1, [zz]⟩ (.int 2) S.B rfl (by lia) (fun h => absurd rfl h) fun _ H2 k2 f2 e1 e2 e3 e4 B2 => ?_
  have S2 := S.next f2 e4 (c' := 53) (by lia) B2
  rw [← e1]
  simp_arith only [isNoneV, S2.B.ns, ↓Ta_fr]
  refine free_is (p := pz) (b := true) S2.B (nd_G N) pz_in pz_fine (free_ev hf1 rfl fun _ h => nomatch h) ?_
  simp_arith only [S2.B.ns, ↓Ta_pe]
  refine ⟨k2, _, _, rfl, S2.B, ?_⟩
  have S3 := S2.pre (pre_new (o := .list (((psG n0 n1 far b0).map Prs.nm).map V.str)))
  have l3 := listAt_new (H := H2) (l := ((psG n0 n1 far b0).map Prs.nm).map V.str)
  generalize H2 ++ [O.list (((psG n0 n1 far b0).map Prs.nm).map V.str)] = H3 at *
  have S4 := S3.pre (pre_new (o := .list [.str zz]))
  have l4 := listAt_pre (pre_new (o := .list [.str zz])) l3
  simp_arith only [S4.hl, listAt_new]
  generalize H3 ++ [O.list [V.str zz]] = H4 at *
  refine ne_refs (l := [.str n0, .str n1, .str zz]) (listAt_pre pre_new l4) listAt_new rfl (dz rfl) (by simp [PyData.eqv, PyData.eqvAll]) ?_
  simp_arith only [X_lit]
  subst hK
  exact q _ k2 (by rw [e2, hg]) (S4.pre pre_new)
theorem mg_f (hf : farOk far) (q : ∀ a : Int, 5300 ≤ a → a ≤ 999999999800 → wpSs Θa (f_l_made_good.body.drop 11) (mgL k.b n far v3 t4 t5 (some (.int a)) t7 t8 t9) H Q X) :
    wpSs Θa (f_l_made_good.body.drop 10) (mgL k.b n far v3 t4 t5 t6 t7 t8 t9) H Q X := by
  have hf1 := hf.1
  have hf2 := hf.2
  refine zs_cons ?_
  generalize hK : sqX Θa (_ :: _) = K
  simp_arith only [X_lit]
  subst hK
  by_cases h : far < 999999980000
  · rw [decide_eq_true h]; exact q _ (by show 5300 ≤ far + 5300 * 1; lia) (by show far + 5300 * 1 ≤ _; lia)
  · rw [decide_eq_false h]; exact q _ (by show 5300 ≤ far + 5300 * 0; lia) (by show far + 5300 * 0 ≤ _; lia)
theorem mg_g (S : Sg H k n n0 n1 (psG n0 n1 far b0) [] 53) (hg : k.g = 2) (a1 : 5300 ≤ a) (a2 : a ≤ 999999999800) (q : ∀ (H' : Hp) (k' : Bk), k'.g = 3 → Sg H' k' n n0 n1 (psG n0 n1 far b0) [⟨3, a, 1, [zz]⟩] 54 → wpSs Θa (f_l_made_good.body.drop 12) (mgL k'.b n far v3 t4 t5 (some (.int a)) t7 t8 t9) H' Q X) :
    wpSs Θa (f_l_made_good.body.drop 11) (mgL k.b n far v3 t4 t5 (some (.int a)) t7 t8 t9) H Q X := by
  refine zs_cons ?_
  generalize hK : sqX Θa (_ :: _) = K
  simp_arith only [S.B.ns, ↓Ta_me]
  refine mg_meet (r := []) (e1 := .dct) (e2 := .dct) S rfl (by decide) (by rw [hg]) ⟨by lia, by lia⟩ ⟨by lia, by lia⟩ fun H4 k4 eb eg S4 => ?_
  simp_arith only [X_lit]
  refine ne_of (d := .tuple [.int 3, .int a]) (tup_T rfl rfl) (tup_T rfl rfl) (dz rfl) (by simp [PyData.eqv, PyData.eqvAll]) ?_
  simp_arith only [X_lit]
  subst hK
  rw [← eb]
  exact q H4 k4 eg S4
theorem ever_ok {nms : List Str} {h a : Int} (h1 : needR nms [zz] = none) (hh : sizeOk1 h) (ha : hourOk a) : everR nms [zz] (.int h) (.int a) = none := by
  unfold everR
  rw [h1]
  show (if (btw 1 48 (some h) && timeB (some a)) = true then none else some _) = none
  rw [btw_t hh.1 hh.2, time_t ha]; rfl
theorem qf_1 {no a : Int} (h : 0 ≤ a) : qf pz [⟨no, a, 1, [zz]⟩] = a + 1 := by
  show (if [zz].contains zz = true then max (max 0 (max 0 0)) (a + 1) else max 0 (max 0 0)) = a + 1
  rw [if_pos (by decide)]
  lia
theorem ev_long {i : Nat} {Q : V → Hp → Prop} {X : XL} (S : Sg H k n n0 n1 (psG n0 n1 far b0) [⟨3, a, 1, [zz]⟩] 54) (hl : listAt H i = some [.str zz]) (a1 : 5300 ≤ a) (a2 : a ≤ 999999999800) (q : ∀ H', H <+: H' → X (xc "TooLong") H') : C_ever [.ref k.b, .ref i, .int 1, .int (a - 5300)] H Q X := by
  refine .mk k i _ _ [zz] (.int 1) (.int (a - 5300)) S.B hl rfl rfl (fun c hc => ?_) fun _ => ⟨pz, 1, a - 5300, 1, ⟨rfl, rfl, rfl, pz_in, .inl ⟨rfl, rfl⟩⟩, fun _ H' p => q H' p, fun h => absurd ?_ h⟩
  · rw [ever_ok need_zz ⟨by decide, by decide⟩ ⟨by lia, by lia⟩] at hc; exact no_some hc
  · rw [qf_1 (by lia)]; lia
theorem ev_now {i : Nat} {Q : V → Hp → Prop} {X : XL} (S : Sg H k n n0 n1 (psG n0 n1 far b0) [] 55) (hl : listAt H i = some [.str zz]) (a1 : 5300 ≤ a) (a2 : a ≤ 999999999800) (q : ∀ H', H <+: H' → Q (.int (a - 5300)) H') : C_ever [.ref k.b, .ref i, .int 1, .int (a - 5300)] H Q X := by
  refine .mk k i _ _ [zz] (.int 1) (.int (a - 5300)) S.B hl rfl rfl (fun c hc => ?_) fun _ => ⟨pz, 1, a - 5300, 1, ⟨rfl, rfl, rfl, pz_in, .inl ⟨rfl, rfl⟩⟩, fun h => absurd h ?_, fun _ => ⟨zz_fre (H := H) (k := k) pz_in ⟨by decide, by decide⟩ (by lia) fun _ _ _ => rfl, q⟩⟩
  · rw [ever_ok need_zz ⟨by decide, by decide⟩ ⟨by lia, by lia⟩] at hc; exact no_some hc
  · rw [show qf pz [] = 0 from rfl]; lia
theorem mg_h (S : Sg H k n n0 n1 (psG n0 n1 far b0) [⟨3, a, 1, [zz]⟩] 54) (a1 : 5300 ≤ a) (a2 : a ≤ 999999999800) (q : ∀ L' H', Q (.ret (.bool true)) L' H') :
    wpSs Θa (f_l_made_good.body.drop 12) (mgL k.b n far v3 t4 t5 (some (.int a)) t7 t8 t9) H Q X := by
  have hc := S.hc
  refine zs_cons ?_
  generalize hK : sqX Θa (_ :: _) = K
  simp_arith only [↓Ta_c1]
  have S1 := S.pre (pre_new (o := .list [.str zz]))
  have l1 := listAt_new (H := H) (l := [.str zz])
  generalize H.length = i1 at *
  generalize H ++ [O.list [V.str zz]] = H1 at *
  have S2 := S1.pre (pre_new (o := .list [.ref i1, .int 1, .int (a - 5300)]))
  have l2 := listAt_new (H := H1) (l := [.ref i1, .int 1, .int (a - 5300)])
  have l12 := listAt_pre (pre_new (o := .list [.ref i1, .int 1, .int (a - 5300)])) l1
  generalize H1 ++ [O.list [V.ref i1, V.int 1, V.int (a - 5300)]] = H2 at *
  refine .mk k.b _ "ever" _ ⟨⟨_, S2.B.ns⟩, l2, i_ever, ?_⟩
  rw [K_ever]
  refine ev_long S2 l12 a1 a2 fun H3 p3 => xc9 (by decide) ?_
  simp_arith only [X_lit]
  rw [show (Str.ofString "TooLong" == Str.ofString "TooLong") = true by decide]
  simp_arith only [X_lit]
  subst hK
  have S3 := S2.pre p3
  refine zs_cons ?_
  generalize hK : sqX Θa (_ :: _) = K
  simp_arith only [S3.B.ns, ↓Ta_dr]
  refine .mk k _ ⟨3, a, 1, [zz]⟩ (.int 3) S3.B rfl (by lia) (fun h => absurd rfl h) fun _ H4 k4 f4 e1 e2 e3 e4 B4 => ?_
  have S4 := S3.next f4 e4 (c' := 55) (by lia) B4
  rw [← e1]
  subst hK
  refine zs_cons ?_
  generalize hK : sqX Θa (_ :: _) = K
  simp_arith only [↓Ta_c1]
  have S5 := S4.pre (pre_new (o := .list [.str zz]))
  have l5 := listAt_new (H := H4) (l := [.str zz])
  generalize H4.length = i5 at *
  generalize H4 ++ [O.list [V.str zz]] = H5 at *
  have S6 := S5.pre (pre_new (o := .list [.ref i5, .int 1, .int (a - 5300)]))
  have l6 := listAt_new (H := H5) (l := [.ref i5, .int 1, .int (a - 5300)])
  have l56 := listAt_pre (pre_new (o := .list [.ref i5, .int 1, .int (a - 5300)])) l5
  generalize H5 ++ [O.list [V.ref i5, V.int 1, V.int (a - 5300)]] = H6 at *
  refine .mk k4.b _ "ever" _ ⟨⟨_, S6.B.ns⟩, l6, i_ever, ?_⟩
  rw [K_ever]
  refine ev_now S6 l56 a1 a2 fun H7 p7 => ?_
  simp_arith only [X_lit]
  rw [show (Str.ofString "none" == Str.ofString "none") = true by decide]
  simp_arith only [X_lit]
  subst hK
  have S7 := S6.pre p7
  refine zs_cons ?_
  simp_arith only [S7.B.ns, ↓Ta_ev]
  refine ev_now (S7.pre pre_new) listAt_new a1 a2 fun H8 p8 => ?_
  simp_arith only [X_lit]
  exact q _ _
end
theorem w_made_good : ∀ vs H Q X, C_made_good vs H Q X → wpFn Θa f_l_made_good vs H Q X := by
  rintro vs H Q X ⟨k, n, far, n0, n1, b0, S, hg, N, hf, hb, hz, q⟩
  refine fn_of rfl ?_
  change wpSs Θa f_l_made_good.body [some (.ref k.b), some (.ref n), some (.int far), none, none, none, none, none, none, none] H _ _
  refine mg_a S N hf fun H1 t4 t5 p1 => mg_b (S.pre p1) hg N hf fun H2 k2 g2 S2 => mg_c S2 g2 hf fun H3 k3 g3 S3 => mg_d S3 N hf hb fun H4 p4 => mg_e (S3.pre p4) g3 N hf fun H5 k5 g5 S5 => mg_f hf fun a a1 a2 => mg_g S5 g5 a1 a2 fun H6 k6 g6 S6 => mg_h S6 a1 a2 fun L' H' => q H'
noncomputable def Θb : Orc := ext "_law_made_good" C_made_good Θa
end Mine
namespace Mine
open PySem
theorem Tb_fr : Θb (Str.ofString "Book." ++ Str.ofString "is_free") = C_is_free := rfl
theorem Tb_pe : Θb (Str.ofString "Book." ++ Str.ofString "people") = C_people := rfl
theorem Tb_mt : Θb (Str.ofString "Book." ++ Str.ofString "meetings") = C_meetings := rfl
theorem Tb_c1 : Θb "_law_class_one" = C_class_one := rfl
theorem Tb_ba : Θb "_law_by_any" = C_by_any := rfl
theorem Tb_mg : Θb "_law_made_good" = C_made_good := rfl
noncomputable def Pl.start : Pl → Int
  | .once s _ => s
  | .every s _ _ => s
theorem cov_before {r : Pl} {x : Int} (h : x < r.start) : cov r x = false := by
  rw [Bool.eq_false_iff]
  intro g
  refine e1_2 (List.any_eq_true.mp g) fun j hj g => ?_
  have hj := (mem_rangeJ.mp hj).1
  unfold bg at g
  by_cases h0 : x - j < 0
  · rw [if_pos h0] at g; exact Bool.noConfusion g
  rw [if_neg h0] at g
  cases r with
  | once s l =>
    have g := of_decide_eq_true (p := x - j = s) g
    have h : x < s := h
    lia
  | every s l p =>
    have g := of_decide_eq_true (p := s ≤ x - j) ((Bool.and_eq_true _ _).mp g).1
    have h : x < s := h
    lia
noncomputable def aft (far : Int) (b0 : List Pl) : Prop := ∀ r ∈ b0, r.fine ∧ far + 2 < r.start
theorem nd_0 {n0 n1 : Str} {b0 b1 : List Pl} (N : Nm n0 n1) : ((ps0 n0 n1 b0 b1).map Prs.nm).Nodup := by
  show [n0, n1].Nodup
  simp [N.ne]
theorem mt_in {n0 n1 nm : Str} {far x : Int} (h : nm = n0 ∨ nm = n1) (h1 : far ≤ x) (h2 : x < far + 2) : meets 0 [mt0 n0 n1 far] nm x = true := by
  unfold meets
  rw [List.any_cons]
  have : (mt0 n0 n1 far).who.contains nm = true := by
    rcases h with rfl | rfl
    · exact List.contains_iff_mem.mpr (.tail _ (.head _))
    · exact List.contains_iff_mem.mpr (.head _)
  rw [this]
  show (decide ((1 : Int) ≠ 0) && (true && (decide (far ≤ x) && decide (x < far + 2))) || _) = true
  rw [decide_eq_true h1, decide_eq_true h2]; rfl
theorem mt_out {n0 n1 nm : Str} {far x : Int} (h2 : far + 2 ≤ x) : meets 0 [mt0 n0 n1 far] nm x = false := by
  unfold meets
  rw [List.any_cons]
  show (_ && (_ && (_ && decide (x < far + 2))) || false) = false
  rw [decide_eq_false (p := x < far + 2) (by lia), Bool.and_false, Bool.and_false, Bool.and_false]; rfl
noncomputable abbrev lwL (ns : List Int) (c far sh : Int) (t4 : Option V) (n b : Nat) (t7 t8 t9 t10 t11 t12 : Option V) : Lc := [some (.scr ns), some (.int c), some (.int far), some (.int sh), t4, some (.ref n), some (.ref b), t7, t8, t9, t10, t11, t12]
section
variable {ns : List Int} {c far sh : Int} {t4 t7 t8 t9 t10 t11 t12 : Option V} {v : V} {H : Hp} {k : Bk} {n h0 : Nat} {n0 n1 : Str} {b0 : List Pl} {Q : QS} {X : XS}
theorem lw_16 (S : Sg H k n n0 n1 (ps0 n0 n1 b0 []) [mt0 n0 n1 far] 50) (hg : k.g = 1) (N : Nm n0 n1) (hf : farOk far) (ha : aft far b0) (hz : b0.length ≤ 20) (q : ∀ L' H', Q (.ret (.bool true)) L' H') :
    wpSs Θb (f_law.body.drop 16) (lwL ns c far sh t4 n k.b t7 t8 t9 t10 t11 t12) H Q X := by
  refine zs_cons ?_
  simp_arith only [↓Tb_mg]
  exact .mk k n far n0 n1 b0 S hg N hf (fun r hr => ⟨(ha r hr).1, cov_before (by have := (ha r hr).2; lia)⟩) hz fun H' => q _ H'
theorem lw_13 {i9 : Nat} (S : Sg H k n n0 n1 (ps0 n0 n1 b0 []) [mt0 n0 n1 far] 50) (l9 : listAt H i9 = some [.bool false, .bool false]) (hg : k.g = 1) (N : Nm n0 n1) (hf : farOk far) (ha : aft far b0) (hz : b0.length ≤ 20) (q : ∀ L' H', Q (.ret (.bool true)) L' H') :
    wpSs Θb (f_law.body.drop 13) (lwL ns c far sh t4 n k.b t7 t8 (some (.ref i9)) t10 t11 t12) H Q X := by
  have hf1 := hf.1
  have hf2 := hf.2
  have f0 : Prs.fine ⟨n0, [ev1], b0⟩ := ⟨fun r hr => by rw [List.mem_singleton.mp hr]; exact ev_fine, fun r hr => (ha r hr).1⟩
  have f1 : Prs.fine ⟨n1, [ev1], []⟩ := ⟨fun r hr => by rw [List.mem_singleton.mp hr]; exact ev_fine, fun _ hr => nomatch hr⟩
  refine zs_cons ?_
  generalize hK : sqX Θb (_ :: _) = K
  simp_arith only [X_lit]
  refine ne_refs (listAt_pre pre_new l9) listAt_new rfl (by decide) (by decide) ?_
  have S1 := S.pre (pre_new (o := .list [.bool false, .bool false]))
  generalize H ++ [O.list [V.bool false, V.bool false]] = H1 at *
  simp_arith only [S1.B.ns, S1.hl, ↓Tb_fr]
  refine free_is (p := ⟨n0, [ev1], b0⟩) (b := true) S1.B (nd_0 N) (.head _) f0 (free_ev (by lia) (mt_out (Int.le_refl _)) fun r hr => cov_before (ha r hr).2) ?_
  simp_arith only [X_lit]
  subst hK
  refine zs_cons ?_
  generalize hK : sqX Θb (_ :: _) = K
  simp_arith only [S1.B.ns, S1.hl, ↓Tb_fr]
  refine free_is (p := ⟨n1, [ev1], []⟩) (b := false) S1.B (nd_0 N) (.tail _ (.head _)) f1 (fre_m (mt_in (.inr rfl) (by lia) (by lia))) ?_
  simp_arith only [X_lit]
  subst hK
  refine zs_cons ?_
  generalize hK : sqX Θb (_ :: _) = K
  simp_arith only [S1.B.ns, ↓Tb_pe]
  refine ⟨k, _, _, rfl, S1.B, ?_⟩
  simp_arith only [X_lit]
  refine ne_refs (l := [.str n0, .str n1]) listAt_new (listAt_pre pre_new S1.hl) rfl (dz rfl) (by simp [PyData.eqv, PyData.eqvAll]) ?_
  have S2 := S1.pre (pre_new (o := .list (((ps0 n0 n1 b0 []).map Prs.nm).map V.str)))
  generalize H1 ++ [O.list (((ps0 n0 n1 b0 []).map Prs.nm).map V.str)] = H2 at *
  simp_arith only [S2.B.ns, ↓Tb_mt]
  refine ⟨k, _, _, rfl, S2.B, ?_⟩
  have S3 := S2.pre (pre_new (o := .list ([mt0 n0 n1 far].map mtv)))
  have l3 := listAt_new (H := H2) (l := [mt0 n0 n1 far].map mtv)
  generalize H2 ++ [O.list ([mt0 n0 n1 far].map mtv)] = H3 at *
  simp_arith only [S3.hl]
  refine ne_of (d := .list [.tuple [.int 1, .int far, .int 2, .tuple [.str n1, .str n0]]]) (ref_T (listAt_pre pre_new l3) rfl) (ref_T listAt_new rfl) (dz rfl) (by simp [PyData.eqv, PyData.eqvAll]) ?_
  simp_arith only [X_lit]
  subst hK
  exact lw_16 (S3.pre pre_new) hg N hf ha hz q
theorem lw_11 (S : Sg H k n n0 n1 (ps0 n0 n1 b0 []) [mt0 n0 n1 far] 50) (C : Cs (ps0 n0 n1 b0 []) (mt0 n0 n1 far) h0 H v) (hh : ∀ i ∈ k.foot, i < h0) (hg : k.g = 1) (N : Nm n0 n1) (hf : farOk far) (ha : aft far b0) (hz : b0.length ≤ 20) (q : ∀ L' H', Q (.ret (.bool true)) L' H') :
    wpSs Θb (f_law.body.drop 11) (lwL ns c far sh t4 n k.b t7 (some v) t9 t10 t11 t12) H Q X := by
  have hf1 := hf.1
  have hc := S.hc
  have f0 : Prs.fine ⟨n0, [ev1], b0⟩ := ⟨fun r hr => by rw [List.mem_singleton.mp hr]; exact ev_fine, fun r hr => (ha r hr).1⟩
  have f1 : Prs.fine ⟨n1, [ev1], []⟩ := ⟨fun r hr => by rw [List.mem_singleton.mp hr]; exact ev_fine, fun _ hr => nomatch hr⟩
  refine zs_cons ?_
  generalize hK : sqX Θb (_ :: _) = K
  simp_arith only [S.hl]
  rw [coX_cons]
  simp_arith only [S.B.ns, ↓Tb_fr]
  refine free_is (p := ⟨n0, [ev1], b0⟩) S.B (nd_0 N) (.head _) f0 (fre_m (mt_in (.inl rfl) (Int.le_refl _) (by lia))) ⟨S.hl, ?_⟩
  rw [coX_cons]
  simp_arith only [S.B.ns, ↓Tb_fr]
  refine free_is (p := ⟨n1, [ev1], []⟩) S.B (nd_0 N) (.tail _ (.head _)) f1 (fre_m (mt_in (.inr rfl) (Int.le_refl _) (by lia))) ⟨S.hl, ?_⟩
  rw [coX_nil]
  refine ⟨by decide, ?_⟩
  have S1 := S.pre (pre_new (o := .list [.bool false, .bool false]))
  have l9 := listAt_new (H := H) (l := [.bool false, .bool false])
  obtain ⟨w, i, l, cl, rfl, hl, hb⟩ := CsP.mono v _ _ (pre_new (o := .list [.bool false, .bool false])) C
  subst hK
  generalize H.length = i9 at *
  show sqX Θb _ Q X .next _ (H ++ [O.list [V.bool false, V.bool false]])
  generalize H ++ [O.list [V.bool false, V.bool false]] = H1 at *
  refine zs_cons ?_
  generalize hK : sqX Θb (_ :: _) = K
  simp_arith only [↓Tb_c1]
  refine co_bad S1.B hh (by lia) hl hb fun H2 p2 => ?_
  simp_arith only [beq_self_eq_true, ↓Tb_ba]
  refine by_bad (S1.B.pre p2) hh (by lia) (listAt_pre p2 hl) (hb.pre p2) fun H3 p3 => ?_
  simp_arith only [X_lit]
  subst hK
  exact lw_13 (S1.pre (p2.trans p3)) (listAt_pre (p2.trans p3) l9) hg N hf ha hz q
end
end Mine
namespace Mine
open PySem
theorem Tb_ca : Θb "_law_cell_at" = C_cell_at := rfl
theorem Tb_fa : Θb "_law_far" = C_far := rfl
theorem Tb_na : Θb "_law_name_by" = C_name_by := rfl
theorem Tb_in : Θb "Book.__init__" = C_init := rfl
theorem Tb_co : Θb (Str.ofString "Book." ++ Str.ofString "come") = C_come := rfl
theorem Tb_me : Θb (Str.ofString "Book." ++ Str.ofString "meet") = C_meet := rfl
theorem Tb_bu : Θb (Str.ofString "Book." ++ Str.ofString "busy") = C_busy := rfl
theorem Tb_pc : Θb "_law_people_case" = C_people_case := rfl
theorem Tb_mc : Θb "_law_meeting_case" = C_meeting_case := rfl
theorem Tb_ec : Θb "_law_ever_case" = C_ever_case := rfl
theorem Tb_lc : Θb "_law_long_case" = C_long_case := rfl
theorem cl_no {n0 n1 nm : Str} {far : Int} {r : Pl} (h : far + 1 < r.start) : clashB [mt0 n0 n1 far] nm r = false := by
  unfold clashB
  rw [List.any_cons]
  have : ((rangeJ 0 (mt0 n0 n1 far).sz).any fun j => cov r ((mt0 n0 n1 far).hr + j)) = false := by
    rw [Bool.eq_false_iff]
    intro g
    refine e1_2 (List.any_eq_true.mp g) fun j hj g => ?_
    have hj := (mem_rangeJ.mp hj).2
    have hj : j < 2 := hj
    have g : cov r (far + j) = true := g
    rw [cov_before (r := r) (x := far + j) (by lia)] at g; exact Bool.noConfusion g
  rw [this, Bool.and_false]; rfl
section
variable {ns : List Int} {c far sh : Int} {t4 t7 t8 t9 t10 t11 t12 : Option V} {v : V} {H : Hp} {k : Bk} {n h0 : Nat} {n0 n1 : Str} {b0 : List Pl} {Q : QS} {X : XS} {z : Nat}
theorem busy_0 {r : Pl} {Q : V → Hp → Prop} {X : XL} (S : Sg H k n n0 n1 (ps0 n0 n1 b0 []) [mt0 n0 n1 far] z) (hf : farOk far) (hr : r.fine) (hs : far + 2 < r.start) (hz : b0.length < 20) (q : ∀ H', Fr k.foot H H' → Sg H' k n n0 n1 (ps0 n0 n1 (b0 ++ [r]) []) [mt0 n0 n1 far] z → Q .none H') : C_busy [.ref k.b, .str n0, pv r] H Q X :=
  .ok k [] [⟨n1, [ev1], []⟩] ⟨n0, [ev1], b0⟩ [mt0 n0 n1 far] r S.B hr (fun m hm => by rw [List.mem_singleton.mp hm]; exact ⟨hf.1, by show (0 : Int) ≤ 2; decide, by show (2 : Int) ≤ 48; decide⟩) (fun h => absurd hz (Nat.not_lt.mpr h)) (fun _ h => by rw [cl_no (by lia)] at h; exact Bool.noConfusion h) fun _ _ H' f B => by
    have f' : Fr k.foot H H' := f.mono fun i hi => .inl (ft_ul hi)
    exact q H' f' (S.next f' (fun i hi => .inl hi) S.hc B)
noncomputable def onces (far : Int) (j : Nat) : List Pl := (List.range j).map fun (i : Nat) => .once (far + 4 + (i : Int)) 1
theorem onces_s {j : Nat} : onces far (j + 1) = onces far j ++ [.once (far + 4 + (j : Int)) 1] := by unfold onces; rw [List.range_succ, List.map_append]; rfl
theorem onces_l {j : Nat} : (onces far j).length = j := by unfold onces; rw [List.length_map, List.length_range]
theorem onces_a {j : Nat} (hf : farOk far) (hj : j ≤ 20) : aft far (onces far j) := fun r hr => by
  have h1 := hf.1
  have h2 := hf.2
  refine e1_2 (List.mem_map.mp hr) fun i hi e_358 => ?_
  obtain rfl := e_358
  have := List.mem_range.mp hi
  exact ⟨⟨⟨by lia, by lia⟩, by decide, by decide⟩, by show _ < far + 4 + (i : Int); lia⟩
noncomputable abbrev lpB : List IS := [(.expr (.mcall (.loc 6) "busy" [(.sub (.loc 5) (.lit (.int 0))), (.tup [(.lit (.str "once")), (.bin .Add (.bin .Add (.loc 2) (.lit (.int 4))) (.loc 4)), (.lit (.int 1))])]))]
theorem lp_go (hf : farOk far) (q : ∀ H' t4', h0 ≤ H'.length → Sg H' k n n0 n1 (ps0 n0 n1 (onces far 20) []) [mt0 n0 n1 far] z → Q .next (lwL ns c far sh t4' n k.b t7 t8 t9 t10 t11 t12) H') : ∀ (m j : Nat) (H : Hp) (t4 : Option V), j + m = 20 → h0 ≤ H.length → Sg H k n n0 n1 (ps0 n0 n1 (onces far j) []) [mt0 n0 n1 far] z →
    forGo (whBX Θb lpB X) (fun _ => True) 4 ((List.range' j m).map fun (m : Nat) => V.int (m : Int)) (lwL ns c far sh t4 n k.b t7 t8 t9 t10 t11 t12) H Q := by
  intro m
  induction m with
  | zero => intro j H t4 e hz S; obtain rfl : j = 20 := e; exact q H _ hz S
  | succ m ih =>
    intro j H t4 e hz S
    have h1 := hf.1
    have h2 := hf.2
    rw [List.range'_succ, List.map_cons, foX_cons]
    simp_arith only [S.B.ns, S.hl, ↓Tb_bu]
    refine busy_0 (r := .once (far + 4 + (j : Int)) 1) S hf ⟨⟨by lia, by lia⟩, by decide, by decide⟩ (by show _ < far + 4 + (j : Int); lia) (by rw [onces_l]; lia) fun H' f S' => ?_
    rw [← onces_s] at S'
    exact ih (j + 1) H' _ (by lia) (Nat.le_trans hz f.len) S'
structure Case (H : Hp) (v : V) (k : Bk) (n : Nat) (n0 n1 : Str) (far : Int) (b0 : List Pl) : Prop where
  S : Sg H k n n0 n1 (ps0 n0 n1 b0 []) [mt0 n0 n1 far] 50
  C : ∃ h0, Cs (ps0 n0 n1 b0 []) (mt0 n0 n1 far) h0 H v ∧ ∀ i ∈ k.foot, i < h0
theorem fin_go (hg : k.g = 1) (N : Nm n0 n1) (hf : farOk far) (q : ∀ L' H', Q (.ret (.bool true)) L' H') (ha : aft far b0) (hz : b0.length ≤ 20) (K : Case H v k n n0 n1 far b0) : wpSs Θb (f_law.body.drop 11) (lwL ns c far sh t4 n k.b t7 (some v) t9 t10 t11 t12) H Q X := by
  obtain ⟨S, h0, C, hh⟩ := K
  exact lw_11 S C hh hg N hf ha hz q
theorem h301 : ∀ v ∈ [V.int 30, V.int 1], ∃ x : Int, v = .int x ∧ 0 ≤ x ∧ x ≤ 30 := by
  intro v hv
  rcases List.mem_cons.mp hv with e | hv
  · exact ⟨30, e, by decide, by decide⟩
  · exact ⟨1, List.mem_singleton.mp hv, by decide, by decide⟩
theorem lw_10 (hn : ns.length ≤ 1000) (hg : k.g = 1) (N : Nm n0 n1) (hf : farOk far) (q : ∀ L' H', Q (.ret (.bool true)) L' H') (h : cell ns 4 % 16 = 3 → b0 = []) (ha : aft far b0) (hz : b0.length ≤ 20) (C : Case H v k n n0 n1 far b0) : wpSs Θb (f_law.body.drop 10) (lwL ns c far sh t4 n k.b t7 (some v) t9 t10 t11 t12) H Q X := by
  have h1 := hf.1
  have h2 := hf.2
  refine zs_cons ?_
  generalize hK : sqX Θb (_ :: _) = K
  simp_arith only [↓Tb_ca, ↓cc_cell]
  refine ⟨hn, fun e => ?_, fun _ => by subst hK; exact fin_go hg N hf q ha hz C⟩
  obtain rfl := h e
  obtain ⟨S, _⟩ := C
  rw [rangeL_N]
  refine lp_go (h0 := 0) hf (fun H2 t4' _ S2 => ?_) 20 0 H _ rfl (Nat.zero_le _) S
  rw [sqX_next]
  refine z_asg (P := fun v H' => ∃ h0, Cs (ps0 n0 n1 (onces far 20) []) (mt0 n0 n1 far) h0 H' v ∧ ∀ i ∈ k.foot, i < h0) (L' := fun v => lwL ns c far sh t4' n k.b t7 (some v) t9 t10 t11 t12) (fun _ => rfl) (evp_mono (P := CsP (ps0 n0 n1 (onces far 20) []) (mt0 n0 n1 far) H2.length) (evp_cs (w := "busy") (evp_lit rfl) fun H4 p4 => ?_) fun v H3 p3 h => ⟨_, h, S2.B.lt⟩) fun v H3 p3 hC => ?_
  · refine evs_cons (P := fun v _ => v = .str n0) (fun Q X q => ?_) fun v H5 p5 e => evs_cons (P := fun v _ => ∃ x : Int, v = pv (.once (far + x) 1) ∧ 0 ≤ x ∧ x ≤ 30) (fun Q X q => ?_) fun v H6 p6 ⟨x, e', x1, x2⟩ => evs_nil ?_
    · have hl := listAt_pre p4 S2.hl
      simp_arith only [hl]; exact q _ _ (pr _) rfl
    · simp_arith only [listAt_new]
      have e0 := Int.emod_nonneg c (show (2 : Int) ≠ 0 by decide)
      have e1 := Int.emod_lt_of_pos c (show (0 : Int) < 2 by decide)
      refine e1_2 (idx_ex (P := fun v => ∃ x : Int, v = .int x ∧ 0 ≤ x ∧ x ≤ 30) (l := [.int 30, .int 1]) e0 e1 h301) fun x ex hx => ?_
      refine e1_3 hx fun x e_359 x1 x2 => ?_
      obtain rfl := e_359
      rw [ex]
      simp_arith only [X_lit]
      exact q _ _ pre_new ⟨x, rfl, x1, x2⟩
    · subst e e'
      exact bad_busyN (as := []) (p := ⟨n0, [ev1], onces far 20⟩) (bs := [⟨n1, [ev1], []⟩]) ⟨⟨by lia, by lia⟩, by decide, by decide⟩ ⟨h1, by show (0 : Int) ≤ 2; decide, by show (2 : Int) ≤ 48; decide⟩ onces_l
  · subst hK
    exact fin_go hg N hf q (onces_a hf (by decide)) (by rw [onces_l]; decide) ⟨S2.pre p3, hC⟩
theorem lw_9 (hn : ns.length ≤ 1000) (hc : k.c ≤ 20) (hg : k.g = 1) (N : Nm n0 n1) (hf : farOk far) (q : ∀ L' H', Q (.ret (.bool true)) L' H') (C : Case H v k n n0 n1 far []) : wpSs Θb (f_law.body.drop 9) (lwL ns c far sh t4 n k.b t7 (some v) t9 t10 t11 t12) H Q X := by
  have h1 := hf.1
  have h2 := hf.2
  refine zs_cons ?_
  generalize hK : sqX Θb (_ :: _) = K
  have S := C.S
  simp_arith only [↓Tb_ca, ↓cc_cell, S.B.ns, S.hl, ↓Tb_bu]
  refine ⟨hn, fun e => ?_, fun _ => by subst hK; exact lw_10 hn hg N hf q (fun _ => rfl) (fun _ h => nomatch h) (by decide) C⟩
  have m1 := Int.emod_nonneg c (show (5000 : Int) ≠ 0 by decide)
  have m2 := Int.emod_lt_of_pos c (show (0 : Int) < 5000 by decide)
  refine busy_0 (r := .every (far + 3) 1 (5002 + c % 5000)) S hf ⟨⟨by lia, by lia⟩, ⟨by decide, by decide⟩, by lia, by lia⟩ (by show _ < far + 3; lia) (by decide) fun H1 f1 S1 => ?_
  simp_arith only [S1.hl, ↓Tb_lc]
  refine .mk c far _ n0 n1 N (by lia) (by lia) fun v H2 p2 hC => ?_
  subst hK
  exact lw_10 hn hg N hf q (fun e' => by lia) (fun r hr => by rw [List.mem_singleton.mp hr]; exact ⟨⟨⟨by lia, by lia⟩, ⟨by decide, by decide⟩, by lia, by lia⟩, by show _ < far + 3; lia⟩) (by show 1 ≤ 20; decide) (b0 := lgB c far) ⟨S1.pre p2, H1.length, hC, S1.B.lt⟩
theorem lw_7 (hn : ns.length ≤ 1000) (hc : k.c ≤ 20) (hg : k.g = 1) (N : Nm n0 n1) (hf : farOk far) (q : ∀ L' H', Q (.ret (.bool true)) L' H') (S : Sg H k n n0 n1 (ps0 n0 n1 [] []) [mt0 n0 n1 far] 50) : wpSs Θb (f_law.body.drop 7) (lwL ns c far sh t4 n k.b t7 t8 t9 t10 t11 t12) H Q X := by
  have go : ∀ v H', H <+: H' → Cs (ps0 n0 n1 [] []) (mt0 n0 n1 far) H.length H' v → wpSs Θb (f_law.body.drop 8) (lwL ns c far sh t4 n k.b t7 (some v) t9 t10 t11 t12) H' Q X := fun v H1 p1 hC => by
    have S1 := S.pre p1
    refine zs_cons ?_
    generalize hK : sqX Θb (_ :: _) = K
    simp_arith only [↓Tb_ca, ↓cc_cell, ↓Tb_ec]
    refine ⟨hn, fun e => .mk c far n n0 n1 S1.hl N hf fun v2 H2 p2 hC2 => ?_, fun _ => ?_⟩
    · subst hK; exact lw_9 hn hc hg N hf q ⟨S1.pre p2, _, hC2, S1.B.lt⟩
    · subst hK; exact lw_9 hn hc hg N hf q ⟨S1, _, hC, S.B.lt⟩
  refine zs_cons ?_
  generalize hK : sqX Θb (_ :: _) = K
  simp_arith only [↓Tb_pc, ↓Tb_mc]
  refine ⟨fun e => .mk c far n n0 n1 S.hl N hf fun v2 H2 p2 hC2 => ?_, fun _ => .mk c far n n0 n1 S.hl N hf fun v2 H2 p2 hC2 => ?_⟩
  · subst hK; exact go v2 H2 p2 hC2
  · subst hK; exact go v2 H2 p2 hC2
end
theorem nm_of {x : Str} (h : nameOk x) : nmB x = true := by
  have h1 := h.1
  have h2 := h.2.1
  unfold nmB
  rw [decide_eq_true (by lia), decide_eq_true (by lia)]
  exact List.all_eq_true.mpr fun c hc => by
    have := h.2.2 c hc
    unfold lowB
    rw [decide_eq_true this.1, decide_eq_true this.2]; rfl
noncomputable def C_lawT : Ctr := fun vs _ Q _ => ∃ ns : List Int, vs = [.scr ns] ∧ ns.length ≤ 1000 ∧ ∀ H', Q (.bool true) H'
theorem w_lawT : ∀ vs H Q X, C_lawT vs H Q X → wpFn Θb f_law vs H Q X := by
  rintro vs H Q X ⟨ns, rfl, hn, q⟩
  refine fn_of rfl ?_
  change wpSs Θb f_law.body [some (.scr ns), none, none, none, none, none, none, none, none, none, none, none, none] H _ _
  refine zs_cons ?_
  generalize hK : sqX Θb (_ :: _) = K
  simp_arith only [↓Tb_ca, ↓cc_cell]
  refine ⟨hn, ?_⟩
  subst hK
  refine zs_cons ?_
  generalize hK : sqX Θb (_ :: _) = K
  simp_arith only [↓Tb_ca, ↓cc_cell, ↓Tb_fa]
  refine ⟨hn, _, rfl, fun far H1 p1 hf => ?_⟩
  subst hK
  refine zs_cons ?_
  generalize hK : sqX Θb (_ :: _) = K
  simp_arith only [↓Tb_ca, ↓cc_cell]
  refine ⟨hn, ?_⟩
  subst hK
  have h1 := hf.1
  have h2 := hf.2
  generalize cell ns 1 = c
  generalize cell ns 5 = sh
  refine zs_cons ?_
  generalize hK : sqX Θb (_ :: _) = K
  rw [Z_assign, X_comp, X_lit, u_range]
  refine ⟨⟨by decide, by decide⟩, ?_⟩
  rw [show rangeL 0 2 = [.int 0, .int 1] from rfl, coX_cons]
  simp_arith only [↓Tb_ca, ↓cc_cell, ↓Tb_na]
  refine ⟨hn, .mk sh _ 0 (by decide) (by decide) fun n0 o0 T0 => ?_⟩
  rw [coX_cons]
  simp_arith only [↓Tb_ca, ↓cc_cell, ↓Tb_na]
  refine ⟨hn, .mk sh _ 1 (by decide) (by decide) fun n1 o1 T1 => ?_⟩
  rw [coX_nil]
  refine ⟨lz rfl, ?_⟩
  have N : Nm n0 n1 := ⟨nm_of o0, nm_of o1, T0.ne (by decide) (by decide) T1, T0.nz (c := 122) (by decide) (by decide) (by decide), T1.nz (c := 122) (by decide) (by decide) (by decide)⟩
  have l2 := listAt_new (H := H1) (l := [.str n0, .str n1])
  have p2 : H1 <+: H1 ++ [.list [.str n0, .str n1]] := pre_new
  subst hK
  rw [sqX_next]
  show wpSs Θb _ _ (H1 ++ [O.list [V.str n0, V.str n1]]) _ _
  generalize H1.length = n at *
  generalize H1 ++ [O.list [V.str n0, V.str n1]] = H2 at *
  refine zs_cons ?_
  generalize hK : sqX Θb (_ :: _) = K
  rw [Z_assign, X_new, Tb_in]
  refine ⟨H2, rfl, rfl, fun H3 k p3 eb eg ec hft B3 => ⟨rfl, ?_⟩⟩
  subst hK
  rw [sqX_next, ← eb]
  have S3 : Sg H3 k n n0 n1 [] [] 5 := ⟨B3, listAt_pre p3 l2, fun h => by have := hft n h; have := listAt_lt l2; lia, Nat.le_of_eq ec⟩
  refine zs_cons ?_
  generalize hK : sqX Θb (_ :: _) = K
  simp_arith only [S3.hl]
  rw [foX_cons]
  simp_arith only [S3.B.ns, ↓Tb_co]
  have S4 := S3.pre (pre_new (o := .list [pv ev1]))
  refine .mk k _ _ (.str n0) _ [.pl ev1] S4.B (listAt_new (l := [pv ev1])) (asc_nm N.a0) rfl (fun t ht => by rw [List.mem_singleton.mp ht]; exact ev_fine) (fun c hc => ?_) fun _ => ⟨n0, [ev1], rfl, rfl, S3.out (Nat.le_refl _), fun h => (nomatch h), by decide, by decide, fun H5 k5 f5 b5 g5 c5 d5 B5 => ?_⟩
  · exact no_some ((come_ok (v := .str n0) (ts := [.pl ev1]) N.a0 rfl rfl).symm.trans hc)
  have S5 := S4.next f5 d5 (c' := 5) (by lia) B5
  refine ⟨S5.hl, ?_⟩
  rw [foX_cons, ← b5]
  simp_arith only [S5.B.ns, ↓Tb_co]
  have S6 := S5.pre (pre_new (o := .list [pv ev1]))
  have i10 : inB (.str n1) [n0] = false := Bool.eq_false_iff.mpr fun h => N.ne (List.mem_singleton.mp (List.contains_iff_mem.mp h)).symm
  refine .mk k5 _ _ (.str n1) _ [.pl ev1] S6.B (listAt_new (l := [pv ev1])) (asc_nm N.a1) rfl (fun t ht => by rw [List.mem_singleton.mp ht]; exact ev_fine) (fun c hc => ?_) fun _ => ⟨n1, [ev1], rfl, rfl, S5.out (Nat.le_refl _), fun h => N.ne (List.mem_singleton.mp h).symm, by decide, by show 1 ≤ 1000; decide, fun H7 k7 f7 b7 g7 c7 d7 B7 => ?_⟩
  · exact no_some ((come_ok (v := .str n1) (ts := [.pl ev1]) N.a1 i10 rfl).symm.trans hc)
  have S7 : Sg H7 k7 n n0 n1 (ps0 n0 n1 [] []) [] 5 := S6.next f7 d7 (c' := 5) (by lia) B7
  refine ⟨S7.hl, ?_⟩
  rw [foX_nil, ← b7]
  subst hK
  rw [sqX_next]
  refine zs_cons ?_
  generalize hK : sqX Θb (_ :: _) = K
  simp_arith only [S7.B.ns, S7.hl, ↓Tb_me]
  have S8 := S7.pre (pre_new (o := .list [.str n1, .str n0]))
  have fi : ∀ nm : Str, Prs.fine ⟨nm, [ev1], []⟩ := fun nm => ⟨fun r hr => by rw [List.mem_singleton.mp hr]; exact ev_fine, fun _ hr => nomatch hr⟩
  have mm : ∀ p ∈ ([⟨n1, [ev1], []⟩, ⟨n0, [ev1], []⟩] : List Prs), p ∈ ps0 n0 n1 [] [] ∧ ∃ nm, p = ⟨nm, [ev1], []⟩ := fun p hp => by
    rcases List.mem_cons.mp hp with e | hp
    · rw [e]; exact ⟨.tail _ (.head _), _, rfl⟩
    · rw [List.mem_singleton.mp hp]; exact ⟨.head _, _, rfl⟩
  refine .mk k7 _ _ [] [n1, n0] (.int 2) (.int far) (.int (far + 2)) S8.B (listAt_new (l := [.str n1, .str n0])) (S7.out (Nat.le_refl _)) (by decide) (by have := S7.hc; lia) rfl rfl rfl (fun c hc => ?_) fun _ => ⟨[⟨n1, [ev1], []⟩, ⟨n0, [ev1], []⟩], 2, far, far + 2, ⟨rfl, rfl, rfl, rfl, ⟨fun p hp => ?_, ⟨by decide, by decide⟩, fun p hp y y1 y2 => ?_⟩, Int.le_refl _⟩, fun k9 H9 f9 e9 b9 g9 c9 B9 => ?_⟩
  · rw [first_ok (need_no rfl (by simp [ps0]) (by simp [Ne.symm N.ne])) ⟨by decide, by decide⟩ ⟨h1, by lia⟩ ⟨by lia, by lia⟩ (by lia) (by lia)] at hc; exact no_some hc
  · obtain ⟨m1, nm, rfl⟩ := mm p hp; exact ⟨m1, fi nm⟩
  · obtain ⟨m1, nm, rfl⟩ := mm p hp; exact free_ev (by lia) rfl fun _ hr => nomatch hr
  have g7' : k7.g + 1 = 1 := by rw [g7, g5, eg]; rfl
  rw [g7'] at B9 g9
  have S9 : Sg H9 k9 n n0 n1 (ps0 n0 n1 [] []) [mt0 n0 n1 far] 50 := S8.next f9 (fun i hi => .inl (by rw [← e9]; exact hi)) (by have := S7.hc; lia) B9
  subst hK
  rw [sqX_next, ← b9]
  exact lw_7 hn (by have := S7.hc; lia) g9 N hf (fun _ H' => q H') S9
end Mine
namespace Mine
open PySem
noncomputable def G10 : List (Str × V) := ("FOUR_YEARS_dates", .int 1461) :: ("BEFORE_YEAR", .tup [.int 0, .int 366, .int 731, .int 1096]) :: ("MONTHS", .tup [.int 31, .int 28, .int 31, .int 30, .int 31, .int 30, .int 31, .int 31, .int 30, .int 31, .int 30, .int 31]) :: ("TIMES", .int 1000000000000) :: ("DAYS", .int 100000000000) :: ("LONGEST", .int 48) :: ("MOST_STEP", .int 1000000) :: ("DEEPEST", .int 8) :: ("OUTER", .tup [.str "from", .str "until", .str "also", .str "but"]) :: ("WEEK", .int 168) :: ("FOUR_YEARS_rounds", .int 35064) :: ("LETTERS", .str "abcdefghijklmnopqrstuvwxyz") :: ("LONGEST_NAME", .int 12) :: ("MOST_RULES", .int 20) :: ("MOST_STRETCH", .int 10000) :: ("MOST_WALK", .int 5000) :: ("isinstance", .bi .isinstance) :: ("len", .bi .len) :: ("max", .bi .max) :: ("min", .bi .min) :: ("int", .ty .int) :: ("bool", .ty .bool) :: ("str", .ty .str) :: ("tuple", .ty .tuple) :: ("list", .ty .list) :: ("range", .ty .range) :: ("ValueError", .ty .valueError) :: ("Book", .bk) :: ("HourError", .cls "HourError" ["HourError", "ValueError"]) :: ("NoDate", .cls "NoDate" ["NoDate", "HourError", "ValueError"]) :: ("NoRule", .cls "NoRule" ["NoRule", "HourError", "ValueError"]) :: ("NoName", .cls "NoName" ["NoName", "HourError", "ValueError"]) :: ("Taken", .cls "Taken" ["Taken", "HourError", "ValueError"]) :: ("Stranger", .cls "Stranger" ["Stranger", "HourError", "ValueError"]) :: ("Twice", .cls "Twice" ["Twice", "HourError", "ValueError"]) :: ("NoTime", .cls "NoTime" ["NoTime", "HourError", "ValueError"]) :: ("NoMeeting", .cls "NoMeeting" ["NoMeeting", "HourError", "ValueError"]) :: ("Clash", .cls "Clash" ["Clash", "HourError", "ValueError"]) :: ("TooLong", .cls "TooLong" ["TooLong", "HourError", "ValueError"]) :: ("is_whole", .fn "is_whole") :: ("month_length", .fn "month_length") :: ("date_of", .fn "date_of") :: ("from_end", .fn "from_end") :: ("is_between", .fn "is_between") :: ("is_time", .fn "is_time") :: ("are_rising", .fn "are_rising") :: ("is_plain", .fn "is_plain") :: ("is_rule", .fn "is_rule") :: ("innermost", .fn "innermost") :: ("length_of", .fn "length_of") :: ("begins_plain", .fn "begins_plain") :: ("begins", .fn "begins") :: ("covers", .fn "covers") :: ("round_of", .fn "round_of") :: ("settled_plain", .fn "settled_plain") :: ("settled", .fn "settled") :: ("greatest_common", .fn "greatest_common") :: ("least_common", .fn "least_common") :: ("is_name", .fn "is_name") :: ("some_covers", .fn "some_covers") :: ("need_stretch", .fn "need_stretch") :: ("_law_cell_at", .fn "_law_cell_at") :: ("_law_far", .fn "_law_far") :: ("_law_name_by", .fn "_law_name_by") :: ("_law_called", .fn "_law_called") :: ("_law_class_one", .fn "_law_class_one") :: ("_law_by_any", .fn "_law_by_any") :: ("_law_people_case", .fn "_law_people_case") :: ("_law_meeting_case", .fn "_law_meeting_case") :: ("_law_ever_case", .fn "_law_ever_case") :: ("_law_long_case", .fn "_law_long_case") :: ("_law_made_good", .fn "_law_made_good") :: []
noncomputable def mts10 : List Str := "need_somebody" :: "meets_at" :: "free_at" :: "need_all" :: "is_free" :: "people" :: "meetings" :: "bar" :: "look" :: "first" :: "meet" :: "come" :: "busy" :: "place_of" :: "drop" :: "move" :: "rules_of" :: "quiet_from" :: "ever" :: []
noncomputable def ΦL10 : Orc := ext "law" C_lawT Θb
end Mine

open PySem PySem.W PyProof.Rows Mine
namespace Mine.Hd
set_option maxRecDepth 100000
def topT (tb : String → Option Builtin) (p : Program) (w : World) (n₀ : Nat) (ann : Option Value) : Nat → SharedT → Thread → Option SharedT
  | 0, _, _ => none
  | n + 1, s, t => match through t with
    | true => some s
    | false => match stepOk n₀ ann t with
      | false => none
      | true => match stepT (denote tb) p w s t with
        | some (s', t') => topT tb p w n₀ ann n s' t'
        | none => none
theorem topT_of {tb : String → Option Builtin} {p : Program} {w : World} {n₀ : Nat} {ann : Option Value} : ∀ {n : Nat} {s s' : SharedT} {t : Thread}, topT tb p w n₀ ann n s t = some s' → topRun tb p w n₀ ann n s.abs t = some s'.abs
  | 0, _, _, _, h => by cases h
  | n + 1, s, s', t, h => by
    unfold topT at h
    unfold topRun
    cases ht : through t with
    | true => rw [ht] at h; cases h; rfl
    | false =>
      rw [ht] at h
      cases hk : stepOk n₀ ann t with
      | false => rw [hk] at h; cases h
      | true =>
        rw [hk] at h
        cases hs : stepT (denote tb) p w s t with
        | none => rw [hs] at h; cases h
        | some r => obtain ⟨s₂, t₂⟩ := r; rw [hs] at h; rw [stepT_spec hs]; exact topT_of h
def growT : List Obj → Nat → BT → BT
  | [], _, t => t
  | o :: os, n, t => growT os (n + 1) (t.ins n o)
noncomputable def bootT (P : Params) : BT := growT (boot_heap P).objs.toList 0 .nil
noncomputable abbrev P10 : Program := RowW.prog (OpenRow.toRowW Challenge.rw_uf010016_14.row)
noncomputable def b10 : List Stmt := behindTheImports P10
noncomputable def stAt (i : Nat) : Stmt := (b10[i]?).getD (.Pass default)
def stArgs : Stmt → Arguments
  | .FunctionDef _ a .. => a
  | _ => default
def stBody : Stmt → List Stmt
  | .FunctionDef _ _ b .. => b
  | .ClassDef _ _ _ b .. => b
  | _ => default
def stScope : Stmt → Scope
  | .FunctionDef _ _ _ _ _ _ s .. => s
  | _ => default
noncomputable def mtAt (i j : Nat) : Stmt := ((stBody (stAt i))[j]?).getD (.Pass default)
noncomputable def env10 : Env := { scope := P10.main.scope, locals := mainNs, globals := mainNs, cells := [], code := .ref 13, frame := some 14 }
noncomputable def c10 : Code := .body b10 env10
def pos0 : Pos := { line := 0, col := 0, endLine := 0, endCol := 0 }
def shT (l : List Obj) (n k : Nat) (os : OsState) : SharedT := ⟨growT l 0 .nil, n, {}, #[], {}, k, os⟩
def vs (s : String) (n : Nat) : Value := .str (Str.ofString s) n
noncomputable def fnO (n q : String) (st : Stmt) : Obj := { cls := .none, data := .func { name := Str.ofString n, qualname := Str.ofString q, params := stArgs st, body := FuncBody.stmts (stBody st), scope := stScope st, globals := 0, closure := [], defaults := .none, kwdefaults := .none } }
def tuO (a : Array Value) : Obj := { cls := .type "tuple", data := .seq a }
def coO (a : Array Value) : Obj := { cls := .type "code", data := .fields a }
abbrev cut : String := "/claim/cut.py"
abbrev sm {α : Type} (a : α) : Option α := some a
abbrev nn {α : Type} : Option α := none
abbrev tt : Bool := true
abbrev ff : Bool := false
noncomputable def de (P : Params) (k : String) (n : Nat) (v : Value) : DictEntry := ⟨PyData.keyHash P (Str.ofString k), .str (Str.ofString k) n, v⟩
theorem o1 : opening P10 = plainProg P10.main.scope.names := by kernel_rfl
theorem o2 : ∀ s, fenceModules? P10 s = some s := by intro s; kernel_rfl
theorem sz10 (w : World) : ((boot_heap w.params).isNs mainGlobals && (Array.mk ([] : List GenState)).size == 0, (boot_heap w.params).objs.size, (boot_heap w.params).nsMap mainGlobals "__annotations__") = (true, 11, some (.ref 6)) := by kernel_rfl
noncomputable def fuO (n q : String) (st : Stmt) (m : Value) (c : Nat) : Obj := { cls := .type "function", data := .func { name := Str.ofString n, qualname := Str.ofString q, params := stArgs st, body := FuncBody.stmts (stBody st), scope := stScope st, globals := 3, closure := [], defaults := .none, kwdefaults := .none, pyModule := m, code := .ref c } }
noncomputable def SA (P : Params) : List Obj := [boot_o_0 P,boot_o_1 P,boot_o_2 P,boot_o_3 P,boot_o_4 P,boot_o_5 P,boot_o_6 P,boot_o_7 P,boot_o_8 P,boot_o_9 P,boot_o_10 P,tuO #[],{ cls := .none, data := .fields #[] },coO #[vs "<module>" 182, vs "<module>" 183, vs cut 184, .int 1 0, .int 0 0, .int 0 0, .int 0 0, .int 0 0, .ref 11, .bool ff, .int 181 0, .ref 12, .none, .none, .none, .none, .int 185 0, .int 1 0, vs cut 186],{ cls := .type "frame", slots := #[sm (.ref 13), sm (.ref 3), sm (.ref 3), nn, sm (vs "__main__" 164), nn, sm (.ref 0)] }]
noncomputable def M9 (P : Params) : List Obj := [tuO #[.type "ValueError"],{ cls := .type "builtin_function_or_method", data := .fields #[.builtin "type.__prepare__", .type "type"] },{ cls := .type "dict", data := .dict #[de P "__module__" 196 (vs "freehour.errors" 187), de P "__qualname__" 198 (vs "HourError" 197), de P "__firstlineno__" 200 (.int 2 199), de P "__static_attributes__" 201 (.ref 22)] 4 },tuO #[],{ cls := .none, data := .fields #[] },coO #[vs "HourError" 191, vs "HourError" 192, vs cut 193, .int 2 0, .int 0 0, .int 0 0, .int 0 0, .int 0 0, .ref 18, .bool ff, .int 181 0, .ref 19, .none, .none, .none, .none, .int 194 0, .int 2 0, vs cut 195],{ cls := .type "frame", slots := #[sm (.ref 20), sm (.ref 3), sm (.ref 17), nn, sm (vs "freehour.errors" 187), nn, sm (.ref 0)] },tuO #[],{ cls := .type "dict", data := .dict #[de P "__module__" 196 (vs "freehour.errors" 187), de P "__firstlineno__" 200 (.int 2 199), de P "__static_attributes__" 201 (.ref 22), de P "__weakref__" 203 (.ref 25), de P "__doc__" 204 (.none)] 3 },{ cls := .type "type", data := .cls { name := Str.ofString "HourError", bases := [.type "ValueError"], mro := [.ref 24, .type "ValueError", .type "Exception", .type "BaseException", .type "object"], ns := 23, qualname := Str.ofString "HourError", subclasses := [.ref 37, .ref 49, .ref 61, .ref 73, .ref 85, .ref 97, .ref 109, .ref 121, .ref 133, .ref 145] }, slots := #[sm (.ref 15), nn, sm (vs "HourError" 189), sm (vs "HourError" 197), sm (.builtin "ValueError.__new__"), sm (.bool tt)] },{ cls := .type "getset_descriptor", data := .fields #[vs "__weakref__" 202, .ref 24, .builtin "ExceptionGroup.__weakref__", .none] },{ cls := .type "super", data := .fields #[.ref 24, .ref 24, .ref 24] },{ cls := .type "builtin_function_or_method", data := .fields #[.builtin "object.__init_subclass__", .ref 24] },tuO #[.ref 24],{ cls := .type "builtin_function_or_method", data := .fields #[.builtin "type.__prepare__", .type "type"] },{ cls := .type "dict", data := .dict #[de P "__module__" 214 (vs "freehour.errors" 187), de P "__qualname__" 216 (vs "NoDate" 215), de P "__firstlineno__" 218 (.int 4 217), de P "__static_attributes__" 219 (.ref 35)] 4 },tuO #[],{ cls := .none, data := .fields #[] },coO #[vs "NoDate" 209, vs "NoDate" 210, vs cut 211, .int 4 0, .int 0 0, .int 0 0, .int 0 0, .int 0 0, .ref 31, .bool ff, .int 181 0, .ref 32, .none, .none, .none, .none, .int 212 0, .int 4 0, vs cut 213],{ cls := .type "frame", slots := #[sm (.ref 33), sm (.ref 3), sm (.ref 30), nn, sm (vs "freehour.errors" 187), nn, sm (.ref 0)] },tuO #[],{ cls := .type "dict", data := .dict #[de P "__module__" 214 (vs "freehour.errors" 187), de P "__firstlineno__" 218 (.int 4 217), de P "__static_attributes__" 219 (.ref 35), de P "__doc__" 220 (.none)] 2 },{ cls := .type "type", data := .cls { name := Str.ofString "NoDate", bases := [.ref 24], mro := [.ref 37, .ref 24, .type "ValueError", .type "Exception", .type "BaseException", .type "object"], ns := 36, qualname := Str.ofString "NoDate" }, slots := #[sm (.ref 28), nn, sm (vs "NoDate" 207), sm (vs "NoDate" 215), sm (.builtin "ValueError.__new__"), sm (.bool tt)] },{ cls := .type "super", data := .fields #[.ref 37, .ref 37, .ref 37] },{ cls := .type "builtin_function_or_method", data := .fields #[.builtin "object.__init_subclass__", .ref 37] },tuO #[.ref 24],{ cls := .type "builtin_function_or_method", data := .fields #[.builtin "type.__prepare__", .type "type"] },{ cls := .type "dict", data := .dict #[de P "__module__" 230 (vs "freehour.errors" 187), de P "__qualname__" 232 (vs "NoRule" 231), de P "__firstlineno__" 234 (.int 6 233), de P "__static_attributes__" 235 (.ref 47)] 4 },tuO #[],{ cls := .none, data := .fields #[] },coO #[vs "NoRule" 225, vs "NoRule" 226, vs cut 227, .int 6 0, .int 0 0, .int 0 0, .int 0 0, .int 0 0, .ref 43, .bool ff, .int 181 0, .ref 44, .none, .none, .none, .none, .int 228 0, .int 6 0, vs cut 229],{ cls := .type "frame", slots := #[sm (.ref 45), sm (.ref 3), sm (.ref 42), nn, sm (vs "freehour.errors" 187), nn, sm (.ref 0)] },tuO #[],{ cls := .type "dict", data := .dict #[de P "__module__" 230 (vs "freehour.errors" 187), de P "__firstlineno__" 234 (.int 6 233), de P "__static_attributes__" 235 (.ref 47), de P "__doc__" 236 (.none)] 2 },{ cls := .type "type", data := .cls { name := Str.ofString "NoRule", bases := [.ref 24], mro := [.ref 49, .ref 24, .type "ValueError", .type "Exception", .type "BaseException", .type "object"], ns := 48, qualname := Str.ofString "NoRule" }, slots := #[sm (.ref 40), nn, sm (vs "NoRule" 223), sm (vs "NoRule" 231), sm (.builtin "ValueError.__new__"), sm (.bool tt)] },{ cls := .type "super", data := .fields #[.ref 49, .ref 49, .ref 49] },{ cls := .type "builtin_function_or_method", data := .fields #[.builtin "object.__init_subclass__", .ref 49] },tuO #[.ref 24],{ cls := .type "builtin_function_or_method", data := .fields #[.builtin "type.__prepare__", .type "type"] },{ cls := .type "dict", data := .dict #[de P "__module__" 246 (vs "freehour.errors" 187), de P "__qualname__" 248 (vs "NoName" 247), de P "__firstlineno__" 250 (.int 8 249), de P "__static_attributes__" 251 (.ref 59)] 4 },tuO #[],{ cls := .none, data := .fields #[] },coO #[vs "NoName" 241, vs "NoName" 242, vs cut 243, .int 8 0, .int 0 0, .int 0 0, .int 0 0, .int 0 0, .ref 55, .bool ff, .int 181 0, .ref 56, .none, .none, .none, .none, .int 244 0, .int 8 0, vs cut 245],{ cls := .type "frame", slots := #[sm (.ref 57), sm (.ref 3), sm (.ref 54), nn, sm (vs "freehour.errors" 187), nn, sm (.ref 0)] },tuO #[],{ cls := .type "dict", data := .dict #[de P "__module__" 246 (vs "freehour.errors" 187), de P "__firstlineno__" 250 (.int 8 249), de P "__static_attributes__" 251 (.ref 59), de P "__doc__" 252 (.none)] 2 },{ cls := .type "type", data := .cls { name := Str.ofString "NoName", bases := [.ref 24], mro := [.ref 61, .ref 24, .type "ValueError", .type "Exception", .type "BaseException", .type "object"], ns := 60, qualname := Str.ofString "NoName" }, slots := #[sm (.ref 52), nn, sm (vs "NoName" 239), sm (vs "NoName" 247), sm (.builtin "ValueError.__new__"), sm (.bool tt)] },{ cls := .type "super", data := .fields #[.ref 61, .ref 61, .ref 61] },{ cls := .type "builtin_function_or_method", data := .fields #[.builtin "object.__init_subclass__", .ref 61] },tuO #[.ref 24],{ cls := .type "builtin_function_or_method", data := .fields #[.builtin "type.__prepare__", .type "type"] },{ cls := .type "dict", data := .dict #[de P "__module__" 262 (vs "freehour.errors" 187), de P "__qualname__" 264 (vs "Taken" 263), de P "__firstlineno__" 266 (.int 10 265), de P "__static_attributes__" 267 (.ref 71)] 4 },tuO #[],{ cls := .none, data := .fields #[] },coO #[vs "Taken" 257, vs "Taken" 258, vs cut 259, .int 10 0, .int 0 0, .int 0 0, .int 0 0, .int 0 0, .ref 67, .bool ff, .int 181 0, .ref 68, .none, .none, .none, .none, .int 260 0, .int 10 0, vs cut 261],{ cls := .type "frame", slots := #[sm (.ref 69), sm (.ref 3), sm (.ref 66), nn, sm (vs "freehour.errors" 187), nn, sm (.ref 0)] },tuO #[],{ cls := .type "dict", data := .dict #[de P "__module__" 262 (vs "freehour.errors" 187), de P "__firstlineno__" 266 (.int 10 265), de P "__static_attributes__" 267 (.ref 71), de P "__doc__" 268 (.none)] 2 },{ cls := .type "type", data := .cls { name := Str.ofString "Taken", bases := [.ref 24], mro := [.ref 73, .ref 24, .type "ValueError", .type "Exception", .type "BaseException", .type "object"], ns := 72, qualname := Str.ofString "Taken" }, slots := #[sm (.ref 64), nn, sm (vs "Taken" 255), sm (vs "Taken" 263), sm (.builtin "ValueError.__new__"), sm (.bool tt)] },{ cls := .type "super", data := .fields #[.ref 73, .ref 73, .ref 73] },{ cls := .type "builtin_function_or_method", data := .fields #[.builtin "object.__init_subclass__", .ref 73] },tuO #[.ref 24],{ cls := .type "builtin_function_or_method", data := .fields #[.builtin "type.__prepare__", .type "type"] },{ cls := .type "dict", data := .dict #[de P "__module__" 278 (vs "freehour.errors" 187), de P "__qualname__" 280 (vs "Stranger" 279), de P "__firstlineno__" 282 (.int 12 281), de P "__static_attributes__" 283 (.ref 83)] 4 },tuO #[],{ cls := .none, data := .fields #[] },coO #[vs "Stranger" 273, vs "Stranger" 274, vs cut 275, .int 12 0, .int 0 0, .int 0 0, .int 0 0, .int 0 0, .ref 79, .bool ff, .int 181 0, .ref 80, .none, .none, .none, .none, .int 276 0, .int 12 0, vs cut 277],{ cls := .type "frame", slots := #[sm (.ref 81), sm (.ref 3), sm (.ref 78), nn, sm (vs "freehour.errors" 187), nn, sm (.ref 0)] },tuO #[],{ cls := .type "dict", data := .dict #[de P "__module__" 278 (vs "freehour.errors" 187), de P "__firstlineno__" 282 (.int 12 281), de P "__static_attributes__" 283 (.ref 83), de P "__doc__" 284 (.none)] 2 },{ cls := .type "type", data := .cls { name := Str.ofString "Stranger", bases := [.ref 24], mro := [.ref 85, .ref 24, .type "ValueError", .type "Exception", .type "BaseException", .type "object"], ns := 84, qualname := Str.ofString "Stranger" }, slots := #[sm (.ref 76), nn, sm (vs "Stranger" 271), sm (vs "Stranger" 279), sm (.builtin "ValueError.__new__"), sm (.bool tt)] },{ cls := .type "super", data := .fields #[.ref 85, .ref 85, .ref 85] },{ cls := .type "builtin_function_or_method", data := .fields #[.builtin "object.__init_subclass__", .ref 85] },tuO #[.ref 24],{ cls := .type "builtin_function_or_method", data := .fields #[.builtin "type.__prepare__", .type "type"] },{ cls := .type "dict", data := .dict #[de P "__module__" 294 (vs "freehour.errors" 187), de P "__qualname__" 296 (vs "Twice" 295), de P "__firstlineno__" 298 (.int 14 297), de P "__static_attributes__" 299 (.ref 95)] 4 },tuO #[],{ cls := .none, data := .fields #[] },coO #[vs "Twice" 289, vs "Twice" 290, vs cut 291, .int 14 0, .int 0 0, .int 0 0, .int 0 0, .int 0 0, .ref 91, .bool ff, .int 181 0, .ref 92, .none, .none, .none, .none, .int 292 0, .int 14 0, vs cut 293],{ cls := .type "frame", slots := #[sm (.ref 93), sm (.ref 3), sm (.ref 90), nn, sm (vs "freehour.errors" 187), nn, sm (.ref 0)] },tuO #[],{ cls := .type "dict", data := .dict #[de P "__module__" 294 (vs "freehour.errors" 187), de P "__firstlineno__" 298 (.int 14 297), de P "__static_attributes__" 299 (.ref 95), de P "__doc__" 300 (.none)] 2 },{ cls := .type "type", data := .cls { name := Str.ofString "Twice", bases := [.ref 24], mro := [.ref 97, .ref 24, .type "ValueError", .type "Exception", .type "BaseException", .type "object"], ns := 96, qualname := Str.ofString "Twice" }, slots := #[sm (.ref 88), nn, sm (vs "Twice" 287), sm (vs "Twice" 295), sm (.builtin "ValueError.__new__"), sm (.bool tt)] },{ cls := .type "super", data := .fields #[.ref 97, .ref 97, .ref 97] },{ cls := .type "builtin_function_or_method", data := .fields #[.builtin "object.__init_subclass__", .ref 97] },tuO #[.ref 24],{ cls := .type "builtin_function_or_method", data := .fields #[.builtin "type.__prepare__", .type "type"] },{ cls := .type "dict", data := .dict #[de P "__module__" 310 (vs "freehour.errors" 187), de P "__qualname__" 312 (vs "NoTime" 311), de P "__firstlineno__" 314 (.int 16 313), de P "__static_attributes__" 315 (.ref 107)] 4 },tuO #[],{ cls := .none, data := .fields #[] },coO #[vs "NoTime" 305, vs "NoTime" 306, vs cut 307, .int 16 0, .int 0 0, .int 0 0, .int 0 0, .int 0 0, .ref 103, .bool ff, .int 181 0, .ref 104, .none, .none, .none, .none, .int 308 0, .int 16 0, vs cut 309],{ cls := .type "frame", slots := #[sm (.ref 105), sm (.ref 3), sm (.ref 102), nn, sm (vs "freehour.errors" 187), nn, sm (.ref 0)] },tuO #[],{ cls := .type "dict", data := .dict #[de P "__module__" 310 (vs "freehour.errors" 187), de P "__firstlineno__" 314 (.int 16 313), de P "__static_attributes__" 315 (.ref 107), de P "__doc__" 316 (.none)] 2 },{ cls := .type "type", data := .cls { name := Str.ofString "NoTime", bases := [.ref 24], mro := [.ref 109, .ref 24, .type "ValueError", .type "Exception", .type "BaseException", .type "object"], ns := 108, qualname := Str.ofString "NoTime" }, slots := #[sm (.ref 100), nn, sm (vs "NoTime" 303), sm (vs "NoTime" 311), sm (.builtin "ValueError.__new__"), sm (.bool tt)] },{ cls := .type "super", data := .fields #[.ref 109, .ref 109, .ref 109] },{ cls := .type "builtin_function_or_method", data := .fields #[.builtin "object.__init_subclass__", .ref 109] },tuO #[.ref 24],{ cls := .type "builtin_function_or_method", data := .fields #[.builtin "type.__prepare__", .type "type"] },{ cls := .type "dict", data := .dict #[de P "__module__" 326 (vs "freehour.errors" 187), de P "__qualname__" 328 (vs "NoMeeting" 327), de P "__firstlineno__" 330 (.int 18 329), de P "__static_attributes__" 331 (.ref 119)] 4 },tuO #[],{ cls := .none, data := .fields #[] },coO #[vs "NoMeeting" 321, vs "NoMeeting" 322, vs cut 323, .int 18 0, .int 0 0, .int 0 0, .int 0 0, .int 0 0, .ref 115, .bool ff, .int 181 0, .ref 116, .none, .none, .none, .none, .int 324 0, .int 18 0, vs cut 325],{ cls := .type "frame", slots := #[sm (.ref 117), sm (.ref 3), sm (.ref 114), nn, sm (vs "freehour.errors" 187), nn, sm (.ref 0)] },tuO #[],{ cls := .type "dict", data := .dict #[de P "__module__" 326 (vs "freehour.errors" 187), de P "__firstlineno__" 330 (.int 18 329), de P "__static_attributes__" 331 (.ref 119), de P "__doc__" 332 (.none)] 2 },{ cls := .type "type", data := .cls { name := Str.ofString "NoMeeting", bases := [.ref 24], mro := [.ref 121, .ref 24, .type "ValueError", .type "Exception", .type "BaseException", .type "object"], ns := 120, qualname := Str.ofString "NoMeeting" }, slots := #[sm (.ref 112), nn, sm (vs "NoMeeting" 319), sm (vs "NoMeeting" 327), sm (.builtin "ValueError.__new__"), sm (.bool tt)] },{ cls := .type "super", data := .fields #[.ref 121, .ref 121, .ref 121] },{ cls := .type "builtin_function_or_method", data := .fields #[.builtin "object.__init_subclass__", .ref 121] },tuO #[.ref 24],{ cls := .type "builtin_function_or_method", data := .fields #[.builtin "type.__prepare__", .type "type"] },{ cls := .type "dict", data := .dict #[de P "__module__" 342 (vs "freehour.errors" 187), de P "__qualname__" 344 (vs "Clash" 343), de P "__firstlineno__" 346 (.int 20 345), de P "__static_attributes__" 347 (.ref 131)] 4 },tuO #[],{ cls := .none, data := .fields #[] },coO #[vs "Clash" 337, vs "Clash" 338, vs cut 339, .int 20 0, .int 0 0, .int 0 0, .int 0 0, .int 0 0, .ref 127, .bool ff, .int 181 0, .ref 128, .none, .none, .none, .none, .int 340 0, .int 20 0, vs cut 341],{ cls := .type "frame", slots := #[sm (.ref 129), sm (.ref 3), sm (.ref 126), nn, sm (vs "freehour.errors" 187), nn, sm (.ref 0)] },tuO #[],{ cls := .type "dict", data := .dict #[de P "__module__" 342 (vs "freehour.errors" 187), de P "__firstlineno__" 346 (.int 20 345), de P "__static_attributes__" 347 (.ref 131), de P "__doc__" 348 (.none)] 2 },{ cls := .type "type", data := .cls { name := Str.ofString "Clash", bases := [.ref 24], mro := [.ref 133, .ref 24, .type "ValueError", .type "Exception", .type "BaseException", .type "object"], ns := 132, qualname := Str.ofString "Clash" }, slots := #[sm (.ref 124), nn, sm (vs "Clash" 335), sm (vs "Clash" 343), sm (.builtin "ValueError.__new__"), sm (.bool tt)] },{ cls := .type "super", data := .fields #[.ref 133, .ref 133, .ref 133] },{ cls := .type "builtin_function_or_method", data := .fields #[.builtin "object.__init_subclass__", .ref 133] },tuO #[.ref 24],{ cls := .type "builtin_function_or_method", data := .fields #[.builtin "type.__prepare__", .type "type"] },{ cls := .type "dict", data := .dict #[de P "__module__" 358 (vs "freehour.errors" 187), de P "__qualname__" 360 (vs "TooLong" 359), de P "__firstlineno__" 362 (.int 22 361), de P "__static_attributes__" 363 (.ref 143)] 4 },tuO #[],{ cls := .none, data := .fields #[] },coO #[vs "TooLong" 353, vs "TooLong" 354, vs cut 355, .int 22 0, .int 0 0, .int 0 0, .int 0 0, .int 0 0, .ref 139, .bool ff, .int 181 0, .ref 140, .none, .none, .none, .none, .int 356 0, .int 22 0, vs cut 357],{ cls := .type "frame", slots := #[sm (.ref 141), sm (.ref 3), sm (.ref 138), nn, sm (vs "freehour.errors" 187), nn, sm (.ref 0)] },tuO #[],{ cls := .type "dict", data := .dict #[de P "__module__" 358 (vs "freehour.errors" 187), de P "__firstlineno__" 362 (.int 22 361), de P "__static_attributes__" 363 (.ref 143), de P "__doc__" 364 (.none)] 2 },{ cls := .type "type", data := .cls { name := Str.ofString "TooLong", bases := [.ref 24], mro := [.ref 145, .ref 24, .type "ValueError", .type "Exception", .type "BaseException", .type "object"], ns := 144, qualname := Str.ofString "TooLong" }, slots := #[sm (.ref 136), nn, sm (vs "TooLong" 351), sm (vs "TooLong" 359), sm (.builtin "ValueError.__new__"), sm (.bool tt)] },{ cls := .type "super", data := .fields #[.ref 145, .ref 145, .ref 145] },{ cls := .type "builtin_function_or_method", data := .fields #[.builtin "object.__init_subclass__", .ref 145] }]
noncomputable def M42 (P : Params) : List Obj := [tuO #[.int 0 371, .int 366 372, .int 731 373, .int 1096 374],tuO #[.int 31 376, .int 28 377, .int 31 378, .int 30 379, .int 31 380, .int 30 381, .int 31 382, .int 31 383, .int 30 384, .int 31 385, .int 30 386, .int 31 387],tuO #[],{ cls := .none, data := .fields #[] },tuO #[vs "thing" 392],tuO #[],fnO "is_whole" "is_whole" (stAt 16),coO #[vs "is_whole" 389, vs "is_whole" 390, vs cut 391, .int 28 0, .int 1 0, .int 0 0, .int 0 0, .int 3 0, .ref 150, .bool tt, .int 181 0, .ref 151, .none, .ref 152, .ref 153, .ref 154, .int 393 0, .int 28 0, vs cut 394],fuO "is_whole" "is_whole" (stAt 16) (vs "freehour.dates" 367) 155,tuO #[],{ cls := .none, data := .fields #[] },tuO #[vs "year" 399, vs "month" 400],tuO #[],fnO "month_length" "month_length" (stAt 17),coO #[vs "month_length" 396, vs "month_length" 397, vs cut 398, .int 30 0, .int 2 0, .int 0 0, .int 0 0, .int 3 0, .ref 157, .bool tt, .int 181 0, .ref 158, .none, .ref 159, .ref 160, .ref 161, .int 401 0, .int 30 0, vs cut 402],fuO "month_length" "month_length" (stAt 17) (vs "freehour.dates" 367) 162,tuO #[],{ cls := .none, data := .fields #[] },tuO #[vs "day" 407, vs "rest" 408, vs "place" 409, vs "year" 410, vs "month" 411],tuO #[],fnO "date_of" "date_of" (stAt 18),coO #[vs "date_of" 404, vs "date_of" 405, vs cut 406, .int 34 0, .int 1 0, .int 0 0, .int 0 0, .int 3 0, .ref 164, .bool tt, .int 181 0, .ref 165, .none, .ref 166, .ref 167, .ref 168, .int 412 0, .int 34 0, vs cut 413],fuO "date_of" "date_of" (stAt 18) (vs "freehour.dates" 367) 169,tuO #[],{ cls := .none, data := .fields #[] },tuO #[vs "day" 418, vs "date" 419],tuO #[],fnO "from_end" "from_end" (stAt 19),coO #[vs "from_end" 415, vs "from_end" 416, vs cut 417, .int 46 0, .int 1 0, .int 0 0, .int 0 0, .int 3 0, .ref 171, .bool tt, .int 181 0, .ref 172, .none, .ref 173, .ref 174, .ref 175, .int 420 0, .int 46 0, vs cut 421],fuO "from_end" "from_end" (stAt 19) (vs "freehour.dates" 367) 176,tuO #[vs "from" 439, vs "until" 440, vs "also" 441, vs "but" 442],tuO #[],{ cls := .none, data := .fields #[] },tuO #[vs "thing" 447, vs "least" 448, vs "most" 449],tuO #[],fnO "is_between" "is_between" (stAt 27),coO #[vs "is_between" 444, vs "is_between" 445, vs cut 446, .int 56 0, .int 3 0, .int 0 0, .int 0 0, .int 3 0, .ref 179, .bool tt, .int 181 0, .ref 180, .none, .ref 181, .ref 182, .ref 183, .int 450 0, .int 56 0, vs cut 451],fuO "is_between" "is_between" (stAt 27) (vs "freehour.rules" 423) 184,tuO #[],{ cls := .none, data := .fields #[] },tuO #[vs "thing" 456],tuO #[],fnO "is_time" "is_time" (stAt 28),coO #[vs "is_time" 453, vs "is_time" 454, vs cut 455, .int 58 0, .int 1 0, .int 0 0, .int 0 0, .int 3 0, .ref 186, .bool tt, .int 181 0, .ref 187, .none, .ref 188, .ref 189, .ref 190, .int 457 0, .int 58 0, vs cut 458],fuO "is_time" "is_time" (stAt 28) (vs "freehour.rules" 423) 191,tuO #[],{ cls := .none, data := .fields #[] },tuO #[vs "thing" 463, vs "many" 464, vs "most" 465, vs "ahead" 466, vs "number" 467],tuO #[],fnO "are_rising" "are_rising" (stAt 29),coO #[vs "are_rising" 460, vs "are_rising" 461, vs cut 462, .int 60 0, .int 3 0, .int 0 0, .int 0 0, .int 3 0, .ref 193, .bool tt, .int 181 0, .ref 194, .none, .ref 195, .ref 196, .ref 197, .int 468 0, .int 60 0, vs cut 469],fuO "are_rising" "are_rising" (stAt 29) (vs "freehour.rules" 423) 198,tuO #[],{ cls := .none, data := .fields #[] },tuO #[vs "thing" 474, vs "word" 475],tuO #[],fnO "is_plain" "is_plain" (stAt 30),coO #[vs "is_plain" 471, vs "is_plain" 472, vs cut 473, .int 69 0, .int 1 0, .int 0 0, .int 0 0, .int 3 0, .ref 200, .bool tt, .int 181 0, .ref 201, .none, .ref 202, .ref 203, .ref 204, .int 476 0, .int 69 0, vs cut 477],fuO "is_plain" "is_plain" (stAt 30) (vs "freehour.rules" 423) 205,tuO #[],{ cls := .none, data := .fields #[] },tuO #[vs "thing" 482, vs "deep" 483],tuO #[],fnO "is_rule" "is_rule" (stAt 31),coO #[vs "is_rule" 479, vs "is_rule" 480, vs cut 481, .int 82 0, .int 1 0, .int 0 0, .int 0 0, .int 3 0, .ref 207, .bool tt, .int 181 0, .ref 208, .none, .ref 209, .ref 210, .ref 211, .int 484 0, .int 82 0, vs cut 485],fuO "is_rule" "is_rule" (stAt 31) (vs "freehour.rules" 423) 212,tuO #[],{ cls := .none, data := .fields #[] },tuO #[vs "rule" 490],tuO #[],fnO "innermost" "innermost" (stAt 32),coO #[vs "innermost" 487, vs "innermost" 488, vs cut 489, .int 96 0, .int 1 0, .int 0 0, .int 0 0, .int 3 0, .ref 214, .bool tt, .int 181 0, .ref 215, .none, .ref 216, .ref 217, .ref 218, .int 491 0, .int 96 0, vs cut 492],fuO "innermost" "innermost" (stAt 32) (vs "freehour.rules" 423) 219,tuO #[],{ cls := .none, data := .fields #[] },tuO #[vs "rule" 497, vs "inner" 498],tuO #[],fnO "length_of" "length_of" (stAt 33),coO #[vs "length_of" 494, vs "length_of" 495, vs cut 496, .int 100 0, .int 1 0, .int 0 0, .int 0 0, .int 3 0, .ref 221, .bool tt, .int 181 0, .ref 222, .none, .ref 223, .ref 224, .ref 225, .int 499 0, .int 100 0, vs cut 500],fuO "length_of" "length_of" (stAt 33) (vs "freehour.rules" 423) 226,tuO #[],{ cls := .none, data := .fields #[] },tuO #[vs "rule" 505, vs "hour" 506, vs "day" 507],tuO #[],fnO "begins_plain" "begins_plain" (stAt 34),coO #[vs "begins_plain" 502, vs "begins_plain" 503, vs cut 504, .int 105 0, .int 2 0, .int 0 0, .int 0 0, .int 3 0, .ref 228, .bool tt, .int 181 0, .ref 229, .none, .ref 230, .ref 231, .ref 232, .int 508 0, .int 105 0, vs cut 509],fuO "begins_plain" "begins_plain" (stAt 34) (vs "freehour.rules" 423) 233,tuO #[],{ cls := .none, data := .fields #[] },tuO #[vs "rule" 514, vs "hour" 515],tuO #[],fnO "begins" "begins" (stAt 35),coO #[vs "begins" 511, vs "begins" 512, vs cut 513, .int 118 0, .int 2 0, .int 0 0, .int 0 0, .int 3 0, .ref 235, .bool tt, .int 181 0, .ref 236, .none, .ref 237, .ref 238, .ref 239, .int 516 0, .int 118 0, vs cut 517],fuO "begins" "begins" (stAt 35) (vs "freehour.rules" 423) 240,tuO #[],{ cls := .none, data := .fields #[] },tuO #[vs "rule" 522, vs "hour" 523, vs "back" 524],tuO #[],fnO "covers" "covers" (stAt 36),coO #[vs "covers" 519, vs "covers" 520, vs cut 521, .int 132 0, .int 2 0, .int 0 0, .int 0 0, .int 3 0, .ref 242, .bool tt, .int 181 0, .ref 243, .none, .ref 244, .ref 245, .ref 246, .int 525 0, .int 132 0, vs cut 526],fuO "covers" "covers" (stAt 36) (vs "freehour.rules" 423) 247,tuO #[],{ cls := .none, data := .fields #[] },tuO #[vs "rule" 537, vs "inner" 538],tuO #[],fnO "round_of" "round_of" (stAt 40),coO #[vs "round_of" 534, vs "round_of" 535, vs cut 536, .int 142 0, .int 1 0, .int 0 0, .int 0 0, .int 3 0, .ref 249, .bool tt, .int 181 0, .ref 250, .none, .ref 251, .ref 252, .ref 253, .int 539 0, .int 142 0, vs cut 540],fuO "round_of" "round_of" (stAt 40) (vs "freehour.rounds" 528) 254,tuO #[],{ cls := .none, data := .fields #[] },tuO #[vs "rule" 545],tuO #[],fnO "settled_plain" "settled_plain" (stAt 41),coO #[vs "settled_plain" 542, vs "settled_plain" 543, vs cut 544, .int 151 0, .int 1 0, .int 0 0, .int 0 0, .int 3 0, .ref 256, .bool tt, .int 181 0, .ref 257, .none, .ref 258, .ref 259, .ref 260, .int 546 0, .int 151 0, vs cut 547],fuO "settled_plain" "settled_plain" (stAt 41) (vs "freehour.rounds" 528) 261,tuO #[],{ cls := .none, data := .fields #[] },tuO #[vs "rule" 552, vs "found" 553],tuO #[],fnO "settled" "settled" (stAt 42),coO #[vs "settled" 549, vs "settled" 550, vs cut 551, .int 157 0, .int 1 0, .int 0 0, .int 0 0, .int 3 0, .ref 263, .bool tt, .int 181 0, .ref 264, .none, .ref 265, .ref 266, .ref 267, .int 554 0, .int 157 0, vs cut 555],fuO "settled" "settled" (stAt 42) (vs "freehour.rounds" 528) 268,tuO #[],{ cls := .none, data := .fields #[] },tuO #[vs "one" 560, vs "other" 561, vs "rest" 562],tuO #[],fnO "greatest_common" "greatest_common" (stAt 43),coO #[vs "greatest_common" 557, vs "greatest_common" 558, vs cut 559, .int 168 0, .int 2 0, .int 0 0, .int 0 0, .int 3 0, .ref 270, .bool tt, .int 181 0, .ref 271, .none, .ref 272, .ref 273, .ref 274, .int 563 0, .int 168 0, vs cut 564],fuO "greatest_common" "greatest_common" (stAt 43) (vs "freehour.rounds" 528) 275,tuO #[],{ cls := .none, data := .fields #[] },tuO #[vs "numbers" 569, vs "found" 570, vs "number" 571],tuO #[],fnO "least_common" "least_common" (stAt 44),coO #[vs "least_common" 566, vs "least_common" 567, vs cut 568, .int 174 0, .int 1 0, .int 0 0, .int 0 0, .int 3 0, .ref 277, .bool tt, .int 181 0, .ref 278, .none, .ref 279, .ref 280, .ref 281, .int 572 0, .int 174 0, vs cut 573],fuO "least_common" "least_common" (stAt 44) (vs "freehour.rounds" 528) 282,tuO #[],{ cls := .none, data := .fields #[] },tuO #[vs "thing" 590, vs "sign" 591],tuO #[],fnO "is_name" "is_name" (stAt 51),coO #[vs "is_name" 587, vs "is_name" 588, vs cut 589, .int 185 0, .int 1 0, .int 0 0, .int 0 0, .int 3 0, .ref 284, .bool tt, .int 181 0, .ref 285, .none, .ref 286, .ref 287, .ref 288, .int 592 0, .int 185 0, vs cut 593],fuO "is_name" "is_name" (stAt 51) (vs "freehour.book" 575) 289,tuO #[],{ cls := .none, data := .fields #[] },tuO #[vs "rules" 598, vs "hour" 599, vs "rule" 600],tuO #[],fnO "some_covers" "some_covers" (stAt 52),coO #[vs "some_covers" 595, vs "some_covers" 596, vs cut 597, .int 192 0, .int 2 0, .int 0 0, .int 0 0, .int 3 0, .ref 291, .bool tt, .int 181 0, .ref 292, .none, .ref 293, .ref 294, .ref 295, .int 601 0, .int 192 0, vs cut 602],fuO "some_covers" "some_covers" (stAt 52) (vs "freehour.book" 575) 296,tuO #[],{ cls := .none, data := .fields #[] },tuO #[vs "hours" 607, vs "start" 608, vs "end" 609],tuO #[],fnO "need_stretch" "need_stretch" (stAt 53),coO #[vs "need_stretch" 604, vs "need_stretch" 605, vs cut 606, .int 197 0, .int 3 0, .int 0 0, .int 0 0, .int 3 0, .ref 298, .bool tt, .int 181 0, .ref 299, .none, .ref 300, .ref 301, .ref 302, .int 610 0, .int 197 0, vs cut 611],fuO "need_stretch" "need_stretch" (stAt 53) (vs "freehour.book" 575) 303]
noncomputable def M67 (P : Params) : List Obj := [tuO #[],{ cls := .type "builtin_function_or_method", data := .fields #[.builtin "type.__prepare__", .type "type"] },{ cls := .type "dict", data := .dict #[de P "__module__" 620 (vs "freehour.book" 575), de P "__qualname__" 622 (vs "Book" 621), de P "__firstlineno__" 624 (.int 202 623), de P "__init__" 631 (.ref 318), de P "come" 641 (.ref 325), de P "need_somebody" 649 (.ref 332), de P "busy" 660 (.ref 339), de P "people" 667 (.ref 346), de P "meets_at" 678 (.ref 353), de P "free_at" 688 (.ref 360), de P "is_free" 697 (.ref 367), de P "need_all" 706 (.ref 374), de P "bar" 720 (.ref 381), de P "look" 734 (.ref 388), de P "first" 745 (.ref 395), de P "meet" 757 (.ref 402), de P "meetings" 764 (.ref 409), de P "place_of" 773 (.ref 416), de P "drop" 782 (.ref 423), de P "move" 795 (.ref 430), de P "rules_of" 805 (.ref 437), de P "quiet_from" 817 (.ref 444), de P "ever" 823 (.ref 449), de P "__static_attributes__" 829 (.ref 450)] 24 },tuO #[],{ cls := .none, data := .fields #[.int 204 0, .int 4 0, .ref 317, .int 211 0, .int 4 0, .ref 324, .int 225 0, .int 4 0, .ref 331, .int 229 0, .int 4 0, .ref 338, .int 240 0, .int 4 0, .ref 345, .int 243 0, .int 4 0, .ref 352, .int 249 0, .int 4 0, .ref 359, .int 254 0, .int 4 0, .ref 366, .int 258 0, .int 4 0, .ref 373, .int 267 0, .int 4 0, .ref 380, .int 275 0, .int 4 0, .ref 387, .int 285 0, .int 4 0, .ref 394, .int 290 0, .int 4 0, .ref 401, .int 298 0, .int 4 0, .ref 408, .int 301 0, .int 4 0, .ref 415, .int 308 0, .int 4 0, .ref 422, .int 312 0, .int 4 0, .ref 429, .int 321 0, .int 4 0, .ref 436, .int 327 0, .int 4 0, .ref 443, .int 337 0, .int 4 0, .ref 448] },coO #[vs "Book" 615, vs "Book" 616, vs cut 617, .int 202 0, .int 0 0, .int 0 0, .int 0 0, .int 0 0, .ref 308, .bool ff, .int 181 0, .ref 309, .none, .none, .none, .none, .int 618 0, .int 202 0, vs cut 619],{ cls := .type "frame", slots := #[sm (.ref 310), sm (.ref 3), sm (.ref 307), nn, sm (vs "freehour.book" 575), nn, sm (.ref 0)] },tuO #[],{ cls := .none, data := .fields #[] },tuO #[vs "self" 628],tuO #[],fnO "__init__" "Book.__init__" (mtAt 54 0),coO #[vs "__init__" 625, vs "Book.__init__" 626, vs cut 627, .int 204 0, .int 1 0, .int 0 0, .int 0 0, .int 3 0, .ref 312, .bool tt, .int 181 0, .ref 313, .none, .ref 314, .ref 315, .ref 316, .int 629 0, .int 204 0, vs cut 630],fuO "__init__" "Book.__init__" (mtAt 54 0) (vs "freehour.book" 575) 317,tuO #[],{ cls := .none, data := .fields #[] },tuO #[vs "self" 635, vs "name" 636, vs "free" 637, vs "rule" 638],tuO #[],fnO "come" "Book.come" (mtAt 54 1),coO #[vs "come" 632, vs "Book.come" 633, vs cut 634, .int 211 0, .int 3 0, .int 0 0, .int 0 0, .int 3 0, .ref 319, .bool tt, .int 181 0, .ref 320, .none, .ref 321, .ref 322, .ref 323, .int 639 0, .int 211 0, vs cut 640],fuO "come" "Book.come" (mtAt 54 1) (vs "freehour.book" 575) 324,tuO #[],{ cls := .none, data := .fields #[] },tuO #[vs "self" 645, vs "name" 646],tuO #[],fnO "need_somebody" "Book.need_somebody" (mtAt 54 2),coO #[vs "need_somebody" 642, vs "Book.need_somebody" 643, vs cut 644, .int 225 0, .int 2 0, .int 0 0, .int 0 0, .int 3 0, .ref 326, .bool tt, .int 181 0, .ref 327, .none, .ref 328, .ref 329, .ref 330, .int 647 0, .int 225 0, vs cut 648],fuO "need_somebody" "Book.need_somebody" (mtAt 54 2) (vs "freehour.book" 575) 331,tuO #[],{ cls := .none, data := .fields #[] },tuO #[vs "self" 653, vs "name" 654, vs "rule" 655, vs "meeting" 656, vs "back" 657],tuO #[],fnO "busy" "Book.busy" (mtAt 54 3),coO #[vs "busy" 650, vs "Book.busy" 651, vs cut 652, .int 229 0, .int 3 0, .int 0 0, .int 0 0, .int 3 0, .ref 333, .bool tt, .int 181 0, .ref 334, .none, .ref 335, .ref 336, .ref 337, .int 658 0, .int 229 0, vs cut 659],fuO "busy" "Book.busy" (mtAt 54 3) (vs "freehour.book" 575) 338,tuO #[],{ cls := .none, data := .fields #[] },tuO #[vs "self" 664],tuO #[],fnO "people" "Book.people" (mtAt 54 4),coO #[vs "people" 661, vs "Book.people" 662, vs cut 663, .int 240 0, .int 1 0, .int 0 0, .int 0 0, .int 3 0, .ref 340, .bool tt, .int 181 0, .ref 341, .none, .ref 342, .ref 343, .ref 344, .int 665 0, .int 240 0, vs cut 666],fuO "people" "Book.people" (mtAt 54 4) (vs "freehour.book" 575) 345,tuO #[],{ cls := .none, data := .fields #[] },tuO #[vs "self" 671, vs "name" 672, vs "hour" 673, vs "but" 674, vs "meeting" 675],tuO #[],fnO "meets_at" "Book.meets_at" (mtAt 54 5),coO #[vs "meets_at" 668, vs "Book.meets_at" 669, vs cut 670, .int 243 0, .int 4 0, .int 0 0, .int 0 0, .int 3 0, .ref 347, .bool tt, .int 181 0, .ref 348, .none, .ref 349, .ref 350, .ref 351, .int 676 0, .int 243 0, vs cut 677],fuO "meets_at" "Book.meets_at" (mtAt 54 5) (vs "freehour.book" 575) 352,tuO #[],{ cls := .none, data := .fields #[] },tuO #[vs "self" 682, vs "name" 683, vs "hour" 684, vs "but" 685],tuO #[],fnO "free_at" "Book.free_at" (mtAt 54 6),coO #[vs "free_at" 679, vs "Book.free_at" 680, vs cut 681, .int 249 0, .int 4 0, .int 0 0, .int 0 0, .int 3 0, .ref 354, .bool tt, .int 181 0, .ref 355, .none, .ref 356, .ref 357, .ref 358, .int 686 0, .int 249 0, vs cut 687],fuO "free_at" "Book.free_at" (mtAt 54 6) (vs "freehour.book" 575) 359,tuO #[],{ cls := .none, data := .fields #[] },tuO #[vs "self" 692, vs "name" 693, vs "hour" 694],tuO #[],fnO "is_free" "Book.is_free" (mtAt 54 7),coO #[vs "is_free" 689, vs "Book.is_free" 690, vs cut 691, .int 254 0, .int 3 0, .int 0 0, .int 0 0, .int 3 0, .ref 361, .bool tt, .int 181 0, .ref 362, .none, .ref 363, .ref 364, .ref 365, .int 695 0, .int 254 0, vs cut 696],fuO "is_free" "Book.is_free" (mtAt 54 7) (vs "freehour.book" 575) 366,tuO #[],{ cls := .none, data := .fields #[] },tuO #[vs "self" 701, vs "names" 702, vs "name" 703],tuO #[],fnO "need_all" "Book.need_all" (mtAt 54 8),coO #[vs "need_all" 698, vs "Book.need_all" 699, vs cut 700, .int 258 0, .int 2 0, .int 0 0, .int 0 0, .int 3 0, .ref 368, .bool tt, .int 181 0, .ref 369, .none, .ref 370, .ref 371, .ref 372, .int 704 0, .int 258 0, vs cut 705],fuO "need_all" "Book.need_all" (mtAt 54 8) (vs "freehour.book" 575) 373,tuO #[],{ cls := .none, data := .fields #[] },tuO #[vs "self" 710, vs "names" 711, vs "hours" 712, vs "at" 713, vs "but" 714, vs "back" 715, vs "hour" 716, vs "name" 717],tuO #[],fnO "bar" "Book.bar" (mtAt 54 9),coO #[vs "bar" 707, vs "Book.bar" 708, vs cut 709, .int 267 0, .int 5 0, .int 0 0, .int 0 0, .int 3 0, .ref 375, .bool tt, .int 181 0, .ref 376, .none, .ref 377, .ref 378, .ref 379, .int 718 0, .int 267 0, vs cut 719],fuO "bar" "Book.bar" (mtAt 54 9) (vs "freehour.book" 575) 380,tuO #[],{ cls := .none, data := .fields #[] },tuO #[vs "self" 724, vs "names" 725, vs "hours" 726, vs "at" 727, vs "last" 728, vs "but" 729, vs "rows" 730, vs "found" 731],tuO #[],fnO "look" "Book.look" (mtAt 54 10),coO #[vs "look" 721, vs "Book.look" 722, vs cut 723, .int 275 0, .int 6 0, .int 0 0, .int 0 0, .int 3 0, .ref 382, .bool tt, .int 181 0, .ref 383, .none, .ref 384, .ref 385, .ref 386, .int 732 0, .int 275 0, vs cut 733],fuO "look" "Book.look" (mtAt 54 10) (vs "freehour.book" 575) 387,tuO #[],{ cls := .none, data := .fields #[] },tuO #[vs "self" 738, vs "names" 739, vs "hours" 740, vs "start" 741, vs "end" 742],tuO #[],fnO "first" "Book.first" (mtAt 54 11),coO #[vs "first" 735, vs "Book.first" 736, vs cut 737, .int 285 0, .int 5 0, .int 0 0, .int 0 0, .int 3 0, .ref 389, .bool tt, .int 181 0, .ref 390, .none, .ref 391, .ref 392, .ref 393, .int 743 0, .int 285 0, vs cut 744],fuO "first" "Book.first" (mtAt 54 11) (vs "freehour.book" 575) 394,tuO #[],{ cls := .none, data := .fields #[] },tuO #[vs "self" 749, vs "names" 750, vs "hours" 751, vs "start" 752, vs "end" 753, vs "hour" 754],tuO #[],fnO "meet" "Book.meet" (mtAt 54 12),coO #[vs "meet" 746, vs "Book.meet" 747, vs cut 748, .int 290 0, .int 5 0, .int 0 0, .int 0 0, .int 3 0, .ref 396, .bool tt, .int 181 0, .ref 397, .none, .ref 398, .ref 399, .ref 400, .int 755 0, .int 290 0, vs cut 756],fuO "meet" "Book.meet" (mtAt 54 12) (vs "freehour.book" 575) 401,tuO #[],{ cls := .none, data := .fields #[] },tuO #[vs "self" 761],tuO #[],fnO "meetings" "Book.meetings" (mtAt 54 13),coO #[vs "meetings" 758, vs "Book.meetings" 759, vs cut 760, .int 298 0, .int 1 0, .int 0 0, .int 0 0, .int 3 0, .ref 403, .bool tt, .int 181 0, .ref 404, .none, .ref 405, .ref 406, .ref 407, .int 762 0, .int 298 0, vs cut 763],fuO "meetings" "Book.meetings" (mtAt 54 13) (vs "freehour.book" 575) 408,tuO #[],{ cls := .none, data := .fields #[] },tuO #[vs "self" 768, vs "number" 769, vs "place" 770],tuO #[],fnO "place_of" "Book.place_of" (mtAt 54 14),coO #[vs "place_of" 765, vs "Book.place_of" 766, vs cut 767, .int 301 0, .int 2 0, .int 0 0, .int 0 0, .int 3 0, .ref 410, .bool tt, .int 181 0, .ref 411, .none, .ref 412, .ref 413, .ref 414, .int 771 0, .int 301 0, vs cut 772],fuO "place_of" "Book.place_of" (mtAt 54 14) (vs "freehour.book" 575) 415,tuO #[],{ cls := .none, data := .fields #[] },tuO #[vs "self" 777, vs "number" 778, vs "place" 779],tuO #[],fnO "drop" "Book.drop" (mtAt 54 15),coO #[vs "drop" 774, vs "Book.drop" 775, vs cut 776, .int 308 0, .int 2 0, .int 0 0, .int 0 0, .int 3 0, .ref 417, .bool tt, .int 181 0, .ref 418, .none, .ref 419, .ref 420, .ref 421, .int 780 0, .int 308 0, vs cut 781],fuO "drop" "Book.drop" (mtAt 54 15) (vs "freehour.book" 575) 422,tuO #[],{ cls := .none, data := .fields #[] },tuO #[vs "self" 786, vs "number" 787, vs "start" 788, vs "end" 789, vs "place" 790, vs "meeting" 791, vs "hour" 792],tuO #[],fnO "move" "Book.move" (mtAt 54 16),coO #[vs "move" 783, vs "Book.move" 784, vs cut 785, .int 312 0, .int 4 0, .int 0 0, .int 0 0, .int 3 0, .ref 424, .bool tt, .int 181 0, .ref 425, .none, .ref 426, .ref 427, .ref 428, .int 793 0, .int 312 0, vs cut 794],fuO "move" "Book.move" (mtAt 54 16) (vs "freehour.book" 575) 429,tuO #[],{ cls := .none, data := .fields #[] },tuO #[vs "self" 799, vs "names" 800, vs "found" 801, vs "name" 802],tuO #[],fnO "rules_of" "Book.rules_of" (mtAt 54 17),coO #[vs "rules_of" 796, vs "Book.rules_of" 797, vs cut 798, .int 321 0, .int 2 0, .int 0 0, .int 0 0, .int 3 0, .ref 431, .bool tt, .int 181 0, .ref 432, .none, .ref 433, .ref 434, .ref 435, .int 803 0, .int 321 0, vs cut 804],fuO "rules_of" "Book.rules_of" (mtAt 54 17) (vs "freehour.book" 575) 436,tuO #[],{ cls := .none, data := .fields #[] },tuO #[vs "self" 809, vs "names" 810, vs "found" 811, vs "rule" 812, vs "meeting" 813, vs "name" 814],tuO #[],fnO "quiet_from" "Book.quiet_from" (mtAt 54 18),coO #[vs "quiet_from" 806, vs "Book.quiet_from" 807, vs cut 808, .int 327 0, .int 2 0, .int 0 0, .int 0 0, .int 3 0, .ref 438, .bool tt, .int 181 0, .ref 439, .none, .ref 440, .ref 441, .ref 442, .int 815 0, .int 327 0, vs cut 816],fuO "quiet_from" "Book.quiet_from" (mtAt 54 18) (vs "freehour.book" 575) 443,tuO #[],{ cls := .none, data := .fields #[] },fnO "ever" "Book.ever" (mtAt 54 19),coO #[vs "ever" 818, vs "Book.ever" 819, vs cut 820, .int 337 0, .int 4 0, .int 0 0, .int 0 0, .int 3 0, .ref 445, .bool tt, .int 181 0, .ref 446, .none, .none, .none, .ref 447, .int 821 0, .int 337 0, vs cut 822],fuO "ever" "Book.ever" (mtAt 54 19) (vs "freehour.book" 575) 448,tuO #[vs "busy_rules" 824, vs "free_rules" 825, vs "given" 826, vs "held" 827, vs "names" 828],{ cls := .type "dict", data := .dict #[de P "__module__" 620 (vs "freehour.book" 575), de P "__firstlineno__" 624 (.int 202 623), de P "__init__" 631 (.ref 318), de P "come" 641 (.ref 325), de P "need_somebody" 649 (.ref 332), de P "busy" 660 (.ref 339), de P "people" 667 (.ref 346), de P "meets_at" 678 (.ref 353), de P "free_at" 688 (.ref 360), de P "is_free" 697 (.ref 367), de P "need_all" 706 (.ref 374), de P "bar" 720 (.ref 381), de P "look" 734 (.ref 388), de P "first" 745 (.ref 395), de P "meet" 757 (.ref 402), de P "meetings" 764 (.ref 409), de P "place_of" 773 (.ref 416), de P "drop" 782 (.ref 423), de P "move" 795 (.ref 430), de P "rules_of" 805 (.ref 437), de P "quiet_from" 817 (.ref 444), de P "ever" 823 (.ref 449), de P "__static_attributes__" 829 (.ref 450), de P "__dict__" 831 (.ref 453), de P "__weakref__" 833 (.ref 454), de P "__doc__" 834 (.none)] 4 },{ cls := .type "type", data := .cls { name := Str.ofString "Book", bases := [.type "object"], mro := [.ref 452, .type "object"], ns := 451, qualname := Str.ofString "Book" }, slots := #[nn, nn, sm (vs "Book" 613), sm (vs "Book" 621), sm (.builtin "object.__new__"), sm (.bool tt)] },{ cls := .type "getset_descriptor", data := .fields #[vs "__dict__" 830, .ref 452, .builtin "function.__dict__", .builtin "function.__dict__#set"] },{ cls := .type "getset_descriptor", data := .fields #[vs "__weakref__" 832, .ref 452, .builtin "ExceptionGroup.__weakref__", .none] },{ cls := .type "super", data := .fields #[.ref 452, .ref 452, .ref 452] },{ cls := .type "builtin_function_or_method", data := .fields #[.builtin "object.__init_subclass__", .ref 452] },tuO #[],{ cls := .none, data := .fields #[] },tuO #[vs "_law_script" 842, vs "_law_k" 843],tuO #[],fnO "_law_cell_at" "_law_cell_at" (stAt 56),coO #[vs "_law_cell_at" 839, vs "_law_cell_at" 840, vs cut 841, .int 347 0, .int 2 0, .int 0 0, .int 0 0, .int 3 0, .ref 457, .bool tt, .int 181 0, .ref 458, .none, .ref 459, .ref 460, .ref 461, .int 844 0, .int 347 0, vs cut 845],fuO "_law_cell_at" "_law_cell_at" (stAt 56) (vs "law_uf010016_14" 837) 462,tuO #[],{ cls := .none, data := .fields #[] },tuO #[vs "_law_cell" 850],tuO #[],fnO "_law_far" "_law_far" (stAt 57),coO #[vs "_law_far" 847, vs "_law_far" 848, vs cut 849, .int 351 0, .int 1 0, .int 0 0, .int 0 0, .int 3 0, .ref 464, .bool tt, .int 181 0, .ref 465, .none, .ref 466, .ref 467, .ref 468, .int 851 0, .int 351 0, vs cut 852],fuO "_law_far" "_law_far" (stAt 57) (vs "law_uf010016_14" 837) 469,tuO #[],{ cls := .none, data := .fields #[] },tuO #[vs "_law_shape" 857, vs "_law_cell" 858, vs "_law_k" 859, vs "_law_letters" 860, vs "_law_place" 861, vs "_law_name" 862, vs "_law_turn" 863],tuO #[],fnO "_law_name_by" "_law_name_by" (stAt 58),coO #[vs "_law_name_by" 854, vs "_law_name_by" 855, vs cut 856, .int 353 0, .int 3 0, .int 0 0, .int 0 0, .int 3 0, .ref 471, .bool tt, .int 181 0, .ref 472, .none, .ref 473, .ref 474, .ref 475, .int 864 0, .int 353 0, vs cut 865],fuO "_law_name_by" "_law_name_by" (stAt 58) (vs "law_uf010016_14" 837) 476,tuO #[],{ cls := .none, data := .fields #[] },tuO #[vs "_law_book" 870, vs "_law_word" 871, vs "_law_parts" 872],tuO #[],fnO "_law_called" "_law_called" (stAt 59),coO #[vs "_law_called" 867, vs "_law_called" 868, vs cut 869, .int 369 0, .int 3 0, .int 0 0, .int 0 0, .int 3 0, .ref 478, .bool tt, .int 181 0, .ref 479, .none, .ref 480, .ref 481, .ref 482, .int 873 0, .int 369 0, vs cut 874],fuO "_law_called" "_law_called" (stAt 59) (vs "law_uf010016_14" 837) 483,tuO #[],{ cls := .none, data := .fields #[] },tuO #[vs "_law_book" 879, vs "_law_word" 880, vs "_law_parts" 881],tuO #[],fnO "_law_class_one" "_law_class_one" (stAt 60),coO #[vs "_law_class_one" 876, vs "_law_class_one" 877, vs cut 878, .int 386 0, .int 3 0, .int 0 0, .int 0 0, .int 3 0, .ref 485, .bool tt, .int 181 0, .ref 486, .none, .ref 487, .ref 488, .ref 489, .int 882 0, .int 386 0, vs cut 883],fuO "_law_class_one" "_law_class_one" (stAt 60) (vs "law_uf010016_14" 837) 490,tuO #[],{ cls := .none, data := .fields #[] },tuO #[vs "_law_book" 888, vs "_law_word" 889, vs "_law_parts" 890, vs "e" 891, vs "_law_some" 892],tuO #[],fnO "_law_by_any" "_law_by_any" (stAt 61),coO #[vs "_law_by_any" 885, vs "_law_by_any" 886, vs cut 887, .int 408 0, .int 3 0, .int 0 0, .int 0 0, .int 3 0, .ref 492, .bool tt, .int 181 0, .ref 493, .none, .ref 494, .ref 495, .ref 496, .int 893 0, .int 408 0, vs cut 894],fuO "_law_by_any" "_law_by_any" (stAt 61) (vs "law_uf010016_14" 837) 497,tuO #[],{ cls := .none, data := .fields #[] },tuO #[vs "_law_cell" 899, vs "_law_names" 900, vs "_law_far_here" 901, vs "_law_bad" 902, vs "_law_rule" 903, vs "_law_wrong" 904, vs "_law_some" 905, vs "_law_mixed" 906],tuO #[],fnO "_law_people_case" "_law_people_case" (stAt 62),coO #[vs "_law_people_case" 896, vs "_law_people_case" 897, vs cut 898, .int 416 0, .int 3 0, .int 0 0, .int 0 0, .int 3 0, .ref 499, .bool tt, .int 181 0, .ref 500, .none, .ref 501, .ref 502, .ref 503, .int 907 0, .int 416 0, vs cut 908],fuO "_law_people_case" "_law_people_case" (stAt 62) (vs "law_uf010016_14" 837) 504,tuO #[],{ cls := .none, data := .fields #[] },tuO #[vs "_law_cell" 913, vs "_law_names" 914, vs "_law_far_here" 915, vs "_law_word" 916, vs "_law_hours" 917, vs "_law_low" 918, vs "_law_high" 919, vs "_law_number" 920, vs "_law_both" 921, vs "_law_twice" 922, vs "_law_there" 923, vs "_law_some" 924],tuO #[],fnO "_law_meeting_case" "_law_meeting_case" (stAt 63),coO #[vs "_law_meeting_case" 910, vs "_law_meeting_case" 911, vs cut 912, .int 426 0, .int 3 0, .int 0 0, .int 0 0, .int 3 0, .ref 506, .bool tt, .int 181 0, .ref 507, .none, .ref 508, .ref 509, .ref 510, .int 925 0, .int 426 0, vs cut 926],fuO "_law_meeting_case" "_law_meeting_case" (stAt 63) (vs "law_uf010016_14" 837) 511,tuO #[],{ cls := .none, data := .fields #[] },tuO #[vs "_law_cell" 931, vs "_law_names" 932, vs "_law_far_here" 933, vs "_law_hours" 934, vs "_law_low" 935, vs "_law_both" 936, vs "_law_some" 937],tuO #[],fnO "_law_ever_case" "_law_ever_case" (stAt 64),coO #[vs "_law_ever_case" 928, vs "_law_ever_case" 929, vs cut 930, .int 440 0, .int 3 0, .int 0 0, .int 0 0, .int 3 0, .ref 513, .bool tt, .int 181 0, .ref 514, .none, .ref 515, .ref 516, .ref 517, .int 938 0, .int 440 0, vs cut 939],fuO "_law_ever_case" "_law_ever_case" (stAt 64) (vs "law_uf010016_14" 837) 518,tuO #[],{ cls := .none, data := .fields #[] },tuO #[vs "_law_cell" 944, vs "_law_name" 945, vs "_law_at" 946, vs "_law_hours" 947, vs "_law_start" 948, vs "_law_some" 949],tuO #[],fnO "_law_long_case" "_law_long_case" (stAt 65),coO #[vs "_law_long_case" 941, vs "_law_long_case" 942, vs cut 943, .int 447 0, .int 3 0, .int 0 0, .int 0 0, .int 3 0, .ref 520, .bool tt, .int 181 0, .ref 521, .none, .ref 522, .ref 523, .ref 524, .int 950 0, .int 447 0, vs cut 951],fuO "_law_long_case" "_law_long_case" (stAt 65) (vs "law_uf010016_14" 837) 525,tuO #[],{ cls := .none, data := .fields #[] },fnO "_law_made_good" "_law_made_good" (stAt 66),coO #[vs "_law_made_good" 953, vs "_law_made_good" 954, vs cut 955, .int 454 0, .int 3 0, .int 0 0, .int 0 0, .int 3 0, .ref 527, .bool tt, .int 181 0, .ref 528, .none, .none, .none, .ref 529, .int 956 0, .int 454 0, vs cut 957],fuO "_law_made_good" "_law_made_good" (stAt 66) (vs "law_uf010016_14" 837) 530,tuO #[],{ cls := .none, data := .fields #[] },fnO "law" "law" (stAt 67),coO #[vs "law" 959, vs "law" 960, vs cut 961, .int 478 0, .int 1 0, .int 0 0, .int 0 0, .int 3 0, .ref 532, .bool tt, .int 181 0, .ref 533, .none, .none, .none, .ref 534, .int 962 0, .int 478 0, vs cut 963],fuO "law" "law" (stAt 67) (vs "law_uf010016_14" 837) 535]
noncomputable def A9 (P : Params) : List Obj := [boot_o_0 P,boot_o_1 P,boot_o_2 P,{ cls := .type "dict", data := .dict #[de P "__name__" 165 (vs "freehour.errors" 187), de P "__doc__" 166 (.none), de P "__package__" 167 (.none), de P "__loader__" 168 (.builtin "__main__.__loader__#opaque"), de P "__spec__" 169 (.none), de P "__annotations__" 170 (.ref 6), de P "__builtins__" 171 (.ref 4), de P "__file__" 173 (vs cut 172), de P "__cached__" 174 (.none), de P "HourError" 206 (.ref 24), de P "NoDate" 222 (.ref 37), de P "NoRule" 238 (.ref 49), de P "NoName" 254 (.ref 61), de P "Taken" 270 (.ref 73), de P "Stranger" 286 (.ref 85), de P "Twice" 302 (.ref 97), de P "NoTime" 318 (.ref 109), de P "NoMeeting" 334 (.ref 121), de P "Clash" 350 (.ref 133), de P "TooLong" 366 (.ref 145)] 20 },boot_o_4 P,boot_o_5 P,boot_o_6 P,boot_o_7 P,boot_o_8 P,boot_o_9 P,boot_o_10 P,tuO #[],{ cls := .none, data := .fields #[.int 2 0, .int 0 0, .ref 20, .int 4 0, .int 0 0, .ref 33, .int 6 0, .int 0 0, .ref 45, .int 8 0, .int 0 0, .ref 57, .int 10 0, .int 0 0, .ref 69, .int 12 0, .int 0 0, .ref 81, .int 14 0, .int 0 0, .ref 93, .int 16 0, .int 0 0, .ref 105, .int 18 0, .int 0 0, .ref 117, .int 20 0, .int 0 0, .ref 129, .int 22 0, .int 0 0, .ref 141] },coO #[vs "<module>" 182, vs "<module>" 183, vs cut 184, .int 1 0, .int 0 0, .int 0 0, .int 0 0, .int 0 0, .ref 11, .bool ff, .int 181 0, .ref 12, .none, .none, .none, .none, .int 185 0, .int 1 0, vs cut 186],{ cls := .type "frame", slots := #[sm (.ref 13), sm (.ref 3), sm (.ref 3), nn, sm (vs "__main__" 164), nn, sm (.ref 0)] }]
noncomputable def A42 (P : Params) : List Obj := [boot_o_0 P,boot_o_1 P,boot_o_2 P,{ cls := .type "dict", data := .dict #[de P "__name__" 165 (vs "freehour.book" 575), de P "__doc__" 166 (.none), de P "__package__" 167 (.none), de P "__loader__" 168 (.builtin "__main__.__loader__#opaque"), de P "__spec__" 169 (.none), de P "__annotations__" 170 (.ref 6), de P "__builtins__" 171 (.ref 4), de P "__file__" 173 (vs cut 172), de P "__cached__" 174 (.none), de P "HourError" 206 (.ref 24), de P "NoDate" 222 (.ref 37), de P "NoRule" 238 (.ref 49), de P "NoName" 254 (.ref 61), de P "Taken" 270 (.ref 73), de P "Stranger" 286 (.ref 85), de P "Twice" 302 (.ref 97), de P "NoTime" 318 (.ref 109), de P "NoMeeting" 334 (.ref 121), de P "Clash" 350 (.ref 133), de P "TooLong" 366 (.ref 145), de P "FOUR_YEARS_dates" 370 (.int 1461 369), de P "BEFORE_YEAR" 375 (.ref 148), de P "MONTHS" 388 (.ref 149), de P "is_whole" 395 (.ref 156), de P "month_length" 403 (.ref 163), de P "date_of" 414 (.ref 170), de P "from_end" 422 (.ref 177), de P "TIMES" 428 (.int 1000000000000 427), de P "DAYS" 432 (.int 100000000000 431), de P "LONGEST" 434 (.int 48 433), de P "MOST_STEP" 436 (.int 1000000 435), de P "DEEPEST" 438 (.int 8 437), de P "OUTER" 443 (.ref 178), de P "is_between" 452 (.ref 185), de P "is_time" 459 (.ref 192), de P "are_rising" 470 (.ref 199), de P "is_plain" 478 (.ref 206), de P "is_rule" 486 (.ref 213), de P "innermost" 493 (.ref 220), de P "length_of" 501 (.ref 227), de P "begins_plain" 510 (.ref 234), de P "begins" 518 (.ref 241), de P "covers" 527 (.ref 248), de P "WEEK" 531 (.int 168 530), de P "FOUR_YEARS_rounds" 533 (.int 35064 532), de P "round_of" 541 (.ref 255), de P "settled_plain" 548 (.ref 262), de P "settled" 556 (.ref 269), de P "greatest_common" 565 (.ref 276), de P "least_common" 574 (.ref 283), de P "LETTERS" 578 (vs "abcdefghijklmnopqrstuvwxyz" 577), de P "LONGEST_NAME" 580 (.int 12 579), de P "MOST_RULES" 582 (.int 20 581), de P "MOST_STRETCH" 584 (.int 10000 583), de P "MOST_WALK" 586 (.int 5000 585), de P "is_name" 594 (.ref 290), de P "some_covers" 603 (.ref 297), de P "need_stretch" 612 (.ref 304)] 58 },boot_o_4 P,boot_o_5 P,boot_o_6 P,boot_o_7 P,boot_o_8 P,boot_o_9 P,boot_o_10 P,tuO #[],{ cls := .none, data := .fields #[.int 2 0, .int 0 0, .ref 20, .int 4 0, .int 0 0, .ref 33, .int 6 0, .int 0 0, .ref 45, .int 8 0, .int 0 0, .ref 57, .int 10 0, .int 0 0, .ref 69, .int 12 0, .int 0 0, .ref 81, .int 14 0, .int 0 0, .ref 93, .int 16 0, .int 0 0, .ref 105, .int 18 0, .int 0 0, .ref 117, .int 20 0, .int 0 0, .ref 129, .int 22 0, .int 0 0, .ref 141, .int 28 0, .int 0 0, .ref 155, .int 30 0, .int 0 0, .ref 162, .int 34 0, .int 0 0, .ref 169, .int 46 0, .int 0 0, .ref 176, .int 56 0, .int 0 0, .ref 184, .int 58 0, .int 0 0, .ref 191, .int 60 0, .int 0 0, .ref 198, .int 69 0, .int 0 0, .ref 205, .int 82 0, .int 0 0, .ref 212, .int 96 0, .int 0 0, .ref 219, .int 100 0, .int 0 0, .ref 226, .int 105 0, .int 0 0, .ref 233, .int 118 0, .int 0 0, .ref 240, .int 132 0, .int 0 0, .ref 247, .int 142 0, .int 0 0, .ref 254, .int 151 0, .int 0 0, .ref 261, .int 157 0, .int 0 0, .ref 268, .int 168 0, .int 0 0, .ref 275, .int 174 0, .int 0 0, .ref 282, .int 185 0, .int 0 0, .ref 289, .int 192 0, .int 0 0, .ref 296, .int 197 0, .int 0 0, .ref 303] },coO #[vs "<module>" 182, vs "<module>" 183, vs cut 184, .int 1 0, .int 0 0, .int 0 0, .int 0 0, .int 0 0, .ref 11, .bool ff, .int 181 0, .ref 12, .none, .none, .none, .none, .int 185 0, .int 1 0, vs cut 186],{ cls := .type "frame", slots := #[sm (.ref 13), sm (.ref 3), sm (.ref 3), nn, sm (vs "__main__" 164), nn, sm (.ref 0)] }]
noncomputable def A67 (P : Params) : List Obj := [boot_o_0 P,boot_o_1 P,boot_o_2 P,{ cls := .type "dict", data := .dict #[de P "__name__" 165 (vs "law_uf010016_14" 837), de P "__doc__" 166 (.none), de P "__package__" 167 (.none), de P "__loader__" 168 (.builtin "__main__.__loader__#opaque"), de P "__spec__" 169 (.none), de P "__annotations__" 170 (.ref 6), de P "__builtins__" 171 (.ref 4), de P "__file__" 173 (vs cut 172), de P "__cached__" 174 (.none), de P "HourError" 206 (.ref 24), de P "NoDate" 222 (.ref 37), de P "NoRule" 238 (.ref 49), de P "NoName" 254 (.ref 61), de P "Taken" 270 (.ref 73), de P "Stranger" 286 (.ref 85), de P "Twice" 302 (.ref 97), de P "NoTime" 318 (.ref 109), de P "NoMeeting" 334 (.ref 121), de P "Clash" 350 (.ref 133), de P "TooLong" 366 (.ref 145), de P "FOUR_YEARS_dates" 370 (.int 1461 369), de P "BEFORE_YEAR" 375 (.ref 148), de P "MONTHS" 388 (.ref 149), de P "is_whole" 395 (.ref 156), de P "month_length" 403 (.ref 163), de P "date_of" 414 (.ref 170), de P "from_end" 422 (.ref 177), de P "TIMES" 428 (.int 1000000000000 427), de P "DAYS" 432 (.int 100000000000 431), de P "LONGEST" 434 (.int 48 433), de P "MOST_STEP" 436 (.int 1000000 435), de P "DEEPEST" 438 (.int 8 437), de P "OUTER" 443 (.ref 178), de P "is_between" 452 (.ref 185), de P "is_time" 459 (.ref 192), de P "are_rising" 470 (.ref 199), de P "is_plain" 478 (.ref 206), de P "is_rule" 486 (.ref 213), de P "innermost" 493 (.ref 220), de P "length_of" 501 (.ref 227), de P "begins_plain" 510 (.ref 234), de P "begins" 518 (.ref 241), de P "covers" 527 (.ref 248), de P "WEEK" 531 (.int 168 530), de P "FOUR_YEARS_rounds" 533 (.int 35064 532), de P "round_of" 541 (.ref 255), de P "settled_plain" 548 (.ref 262), de P "settled" 556 (.ref 269), de P "greatest_common" 565 (.ref 276), de P "least_common" 574 (.ref 283), de P "LETTERS" 578 (vs "abcdefghijklmnopqrstuvwxyz" 577), de P "LONGEST_NAME" 580 (.int 12 579), de P "MOST_RULES" 582 (.int 20 581), de P "MOST_STRETCH" 584 (.int 10000 583), de P "MOST_WALK" 586 (.int 5000 585), de P "is_name" 594 (.ref 290), de P "some_covers" 603 (.ref 297), de P "need_stretch" 612 (.ref 304), de P "Book" 836 (.ref 452), de P "_law_cell_at" 846 (.ref 463), de P "_law_far" 853 (.ref 470), de P "_law_name_by" 866 (.ref 477), de P "_law_called" 875 (.ref 484), de P "_law_class_one" 884 (.ref 491), de P "_law_by_any" 895 (.ref 498), de P "_law_people_case" 909 (.ref 505), de P "_law_meeting_case" 927 (.ref 512), de P "_law_ever_case" 940 (.ref 519), de P "_law_long_case" 952 (.ref 526), de P "_law_made_good" 958 (.ref 531), de P "law" 964 (.ref 536)] 71 },boot_o_4 P,boot_o_5 P,boot_o_6 P,boot_o_7 P,boot_o_8 P,boot_o_9 P,boot_o_10 P,tuO #[],{ cls := .none, data := .fields #[.int 2 0, .int 0 0, .ref 20, .int 4 0, .int 0 0, .ref 33, .int 6 0, .int 0 0, .ref 45, .int 8 0, .int 0 0, .ref 57, .int 10 0, .int 0 0, .ref 69, .int 12 0, .int 0 0, .ref 81, .int 14 0, .int 0 0, .ref 93, .int 16 0, .int 0 0, .ref 105, .int 18 0, .int 0 0, .ref 117, .int 20 0, .int 0 0, .ref 129, .int 22 0, .int 0 0, .ref 141, .int 28 0, .int 0 0, .ref 155, .int 30 0, .int 0 0, .ref 162, .int 34 0, .int 0 0, .ref 169, .int 46 0, .int 0 0, .ref 176, .int 56 0, .int 0 0, .ref 184, .int 58 0, .int 0 0, .ref 191, .int 60 0, .int 0 0, .ref 198, .int 69 0, .int 0 0, .ref 205, .int 82 0, .int 0 0, .ref 212, .int 96 0, .int 0 0, .ref 219, .int 100 0, .int 0 0, .ref 226, .int 105 0, .int 0 0, .ref 233, .int 118 0, .int 0 0, .ref 240, .int 132 0, .int 0 0, .ref 247, .int 142 0, .int 0 0, .ref 254, .int 151 0, .int 0 0, .ref 261, .int 157 0, .int 0 0, .ref 268, .int 168 0, .int 0 0, .ref 275, .int 174 0, .int 0 0, .ref 282, .int 185 0, .int 0 0, .ref 289, .int 192 0, .int 0 0, .ref 296, .int 197 0, .int 0 0, .ref 303, .int 202 0, .int 0 0, .ref 310, .int 347 0, .int 0 0, .ref 462, .int 351 0, .int 0 0, .ref 469, .int 353 0, .int 0 0, .ref 476, .int 369 0, .int 0 0, .ref 483, .int 386 0, .int 0 0, .ref 490, .int 408 0, .int 0 0, .ref 497, .int 416 0, .int 0 0, .ref 504, .int 426 0, .int 0 0, .ref 511, .int 440 0, .int 0 0, .ref 518, .int 447 0, .int 0 0, .ref 525, .int 454 0, .int 0 0, .ref 530, .int 478 0, .int 0 0, .ref 535] },coO #[vs "<module>" 182, vs "<module>" 183, vs cut 184, .int 1 0, .int 0 0, .int 0 0, .int 0 0, .int 0 0, .ref 11, .bool ff, .int 181 0, .ref 12, .none, .none, .none, .none, .int 185 0, .int 1 0, vs cut 186],{ cls := .type "frame", slots := #[sm (.ref 13), sm (.ref 3), sm (.ref 3), nn, sm (vs "__main__" 164), nn, sm (.ref 0)] }]
noncomputable def S9 (P : Params) : List Obj := A9 P ++ M9 P
noncomputable def S42 (P : Params) : List Obj := A42 P ++ (M9 P ++ M42 P)
noncomputable def S67 (P : Params) : List Obj := A67 P ++ (M9 P ++ (M42 P ++ M67 P))
def pos9 : Pos := { line := 22, col := 0, endLine := 23, endCol := 8 }
def pos42 : Pos := { line := 197, col := 0, endLine := 201, endCol := 34 }
def pos67 : Pos := { line := 478, col := 0, endLine := 509, endCol := 63 }
noncomputable def Hf (P : Params) : Heap := ⟨(S67 P).toArray, {}⟩
end Mine.Hd
namespace Mine
noncomputable def pO (P : Params) (i : Nat) : Nat × Obj := (i, (Hd.S67 P).getD i (boot_o_0 P))
noncomputable def K10 (P : Params) : Frag := [pO P 3, pO P 24, pO P 23, pO P 37, pO P 36, pO P 49, pO P 48, pO P 61, pO P 60, pO P 73, pO P 72, pO P 85, pO P 84, pO P 97, pO P 96, pO P 109, pO P 108, pO P 121, pO P 120, pO P 133, pO P 132, pO P 145, pO P 144, pO P 148, pO P 149, pO P 178]
noncomputable def X10 : List (Str × List Str × Addr) := [("HourError", ["HourError", "ValueError"], 24), ("NoDate", ["NoDate", "HourError", "ValueError"], 37), ("NoRule", ["NoRule", "HourError", "ValueError"], 49), ("NoName", ["NoName", "HourError", "ValueError"], 61), ("Taken", ["Taken", "HourError", "ValueError"], 73), ("Stranger", ["Stranger", "HourError", "ValueError"], 85), ("Twice", ["Twice", "HourError", "ValueError"], 97), ("NoTime", ["NoTime", "HourError", "ValueError"], 109), ("NoMeeting", ["NoMeeting", "HourError", "ValueError"], 121), ("Clash", ["Clash", "HourError", "ValueError"], 133), ("TooLong", ["TooLong", "HourError", "ValueError"], 145)]
noncomputable def H10 : Hook := kHook K10 [3, 24, 23, 37, 36, 49, 48, 61, 60, 73, 72, 85, 84, 97, 96, 109, 108, 121, 120, 133, 132, 145, 144, 148, 149, 178] (fun _ => rfl)
noncomputable def V10 : Program := viewOf Challenge.pw_uf010016_14
noncomputable def B10 : ClsRec := match (plainsOf V10 (looseW V10 [Str.ofString "TIMES", Str.ofString "DAYS"])).find? (fun c => c.name == Str.ofString "Book") with
  | some c => c
  | none => ⟨Str.ofString "", none, [], [], 0, []⟩
end Mine
namespace Mine.Hd
set_option maxRecDepth 100000
theorem pre10 (w : World) (os : OsState) : topGo treeTable P10 w 11 (some (.ref 6)) 12 ⟨boot_heap w.params, Array.mk [], boot_drawn, boot_toks, os⟩ (topStub P10) = some ((shT (SA w.params) 15 187 os).abs, ⟨denote treeTable c10, c10, pos0, [topFrame pos0]⟩) := by kernel_rfl
theorem blk10 (w : World) (os : OsState) : segRun treeTable P10 w 11 (some (.ref 6)) 1 1 (shT (SA w.params) 15 187 os).abs (blockOf b10 env10 c10 pos0 [topFrame pos0]) = some (.next, (shT (SA w.params) 15 187 os).abs, c10, pos0) := by kernel_rfl
theorem pc1 (w : World) (os : OsState) : segRunT treeTable P10 w 11 (some (.ref 6)) 1 2326 (shT (SA w.params) 15 187 os) (piecesOf (b10.take 12) env10 c10 pos0 [topFrame pos0]) = some (.next, shT (S9 w.params) 148 367 os, c10, pos9) := by kernel_rfl
theorem pc2 (w : World) (os : OsState) : segRunT treeTable P10 w 11 (some (.ref 6)) 1 885 (shT (S9 w.params) 148 367 os) (piecesOf ((b10.drop 12).take 42) env10 c10 pos9 [topFrame pos0]) = some (.next, shT (S42 w.params) 305 613 os, c10, pos42) := by kernel_rfl
theorem pc3 (w : World) (os : OsState) : segRunT treeTable P10 w 11 (some (.ref 6)) 1 1267 (shT (S42 w.params) 305 613 os) (piecesOf ((b10.drop 12).drop 42) env10 c10 pos42 [topFrame pos0]) = some (.next, shT (S67 w.params) 537 965 os, c10, pos67) := by kernel_rfl
theorem tl10 (w : World) (os : OsState) : topRun treeTable P10 w 11 (some (.ref 6)) 2 (shT (S67 w.params) 537 965 os).abs ⟨doneF .next, c10, pos67, [topFrame pos0]⟩ = some ⟨Hf w.params, Array.mk [], {}, 965, os⟩ := by kernel_rfl
theorem lk10 (w : World) : (fun os => ((staticsOk (importedModules P10.main.body) (boot_heap w.params) (Hf w.params) && namesBound P10 (Hf w.params) && gensDone ⟨Hf w.params, Array.mk [], {}, 965, os⟩ && laidKept (boot_heap w.params) (Hf w.params)), openSeen V10 [Str.ofString "TIMES", Str.ofString "DAYS"] (importedModules P10.main.body) (fun s => xlAt V10 [(Str.ofString "TIMES", .int 1000000000000), (Str.ofString "DAYS", .int 100000000000)] s && recOk (RowW.records (OpenRow.toRowW Challenge.rw_uf010016_14.row)) s) true ⟨Hf w.params, Array.mk [], {}, 965, os⟩, Hook.obs H10 ⟨Hf w.params, Array.mk [], {}, 965, os⟩)) = fun _ => (true, openGood V10 [Str.ofString "TIMES", Str.ofString "DAYS"], Hook.val H10 w) := by kernel_rfl
theorem run10 (w : World) (os : OsState) : topRun treeTable P10 w 11 (some (.ref 6)) (12 + (1 + (2326 + (885 + (1267 + 2))))) ⟨boot_heap w.params, Array.mk [], boot_drawn, boot_toks, os⟩ (topStub P10) = some ⟨Hf w.params, Array.mk [], {}, 965, os⟩ := by
  have h3 := piece_app (rest := []) (segRun_of (pc3 w os)) (piece_nil (tl10 w os))
  rw [List.append_nil] at h3
  have h2 := piece_app (segRun_of (pc2 w os)) h3
  rw [List.take_append_drop] at h2
  have h1 := piece_app (segRun_of (pc1 w os)) h2
  rw [List.take_append_drop] at h1
  exact go_top (pre10 w os) (piece_block (blk10 w os) h1)
theorem hl10 : LeftO P10 V10 [Str.ofString "TIMES", Str.ofString "DAYS"] (fun s => xlAt V10 [(Str.ofString "TIMES", .int 1000000000000), (Str.ofString "DAYS", .int 100000000000)] s && recOk (RowW.records (OpenRow.toRowW Challenge.rw_uf010016_14.row)) s) (Hook.obs H10) (Hook.val H10) 8080 := LeftO.of_pieces (boot_open o1 rfl o2) sz10 run10 rfl lk10
end Mine.Hd
namespace Mine
set_option maxRecDepth 100000
theorem hb10 : (plainsOf V10 (looseW V10 [Str.ofString "TIMES", Str.ofString "DAYS"])).find? (fun c => c.name == Str.ofString "Book") = some B10 := by kernel_rfl
theorem bn10 : B10.name = Str.ofString "Book" := by kernel_rfl
theorem xk10 (P : Params) : exOk (K10 P) X10 = true := by kernel_rfl
theorem xg10 : clsG G10 (exOf X10) = true := by kernel_rfl
theorem bc10 : bkChk B10 mts10 = true := by kernel_rfl
theorem ini10 : Str.ofString "Book." ++ Str.ofString "__init__" = Str.ofString "Book.__init__" := by decide +kernel
set_option maxHeartbeats 4000000 in
theorem ws10 : Challenge.rw_uf010016_14.wellSaid = true := by
  unfold OpenLaw.wellSaid
  refine look_both (look_both (look_both (look_both (look_both (look_both (look_both (look_both (look_both (look_both (look_both (look_both (look_both (look_both (look_both (look_both (look_both (look_both ?_ ?_) ?_) ?_) ?_) ?_) ?_) ?_) ?_) ?_) ?_) ?_) ?_) ?_) ?_) ?_) ?_) ?_) ?_
  all_goals decide +kernel
noncomputable abbrev nG (P : Params) (x : String) := nsIn (K10 P) mainGlobals (Str.ofString x)
theorem nA_FOUR_YEARS_dates (P : Params) : nG P "FOUR_YEARS_dates" = some (some (.int 1461 369)) := by kernel_rfl
theorem nA_BEFORE_YEAR (P : Params) : nG P "BEFORE_YEAR" = some (some (.ref 148)) := by kernel_rfl
theorem nO_BEFORE_YEAR (P : Params) : (K10 P).lookup 148 = some { cls := Value.type "tuple", data := Data.seq #[Value.int 0 371, Value.int 366 372, Value.int 731 373, Value.int 1096 374] } := by kernel_rfl
theorem nA_MONTHS (P : Params) : nG P "MONTHS" = some (some (.ref 149)) := by kernel_rfl
theorem nO_MONTHS (P : Params) : (K10 P).lookup 149 = some { cls := Value.type "tuple", data := Data.seq #[Value.int 31 376, Value.int 28 377, Value.int 31 378, Value.int 30 379, Value.int 31 380, Value.int 30 381, Value.int 31 382, Value.int 31 383, Value.int 30 384, Value.int 31 385, Value.int 30 386, Value.int 31 387] } := by kernel_rfl
theorem nA_TIMES (P : Params) : nG P "TIMES" = some (some (.int 1000000000000 427)) := by kernel_rfl
theorem nA_DAYS (P : Params) : nG P "DAYS" = some (some (.int 100000000000 431)) := by kernel_rfl
theorem nA_LONGEST (P : Params) : nG P "LONGEST" = some (some (.int 48 433)) := by kernel_rfl
theorem nA_MOST_STEP (P : Params) : nG P "MOST_STEP" = some (some (.int 1000000 435)) := by kernel_rfl
theorem nA_DEEPEST (P : Params) : nG P "DEEPEST" = some (some (.int 8 437)) := by kernel_rfl
theorem nA_OUTER (P : Params) : nG P "OUTER" = some (some (.ref 178)) := by kernel_rfl
theorem nO_OUTER (P : Params) : (K10 P).lookup 178 = some { cls := Value.type "tuple", data := Data.seq #[Value.str (Str.ofString "from") 439, Value.str (Str.ofString "until") 440, Value.str (Str.ofString "also") 441, Value.str (Str.ofString "but") 442] } := by kernel_rfl
theorem nA_WEEK (P : Params) : nG P "WEEK" = some (some (.int 168 530)) := by kernel_rfl
theorem nA_FOUR_YEARS_rounds (P : Params) : nG P "FOUR_YEARS_rounds" = some (some (.int 35064 532)) := by kernel_rfl
theorem nA_LETTERS (P : Params) : nG P "LETTERS" = some (some (.str (Str.ofString "abcdefghijklmnopqrstuvwxyz") 577)) := by kernel_rfl
theorem nA_LONGEST_NAME (P : Params) : nG P "LONGEST_NAME" = some (some (.int 12 579)) := by kernel_rfl
theorem nA_MOST_RULES (P : Params) : nG P "MOST_RULES" = some (some (.int 20 581)) := by kernel_rfl
theorem nA_MOST_STRETCH (P : Params) : nG P "MOST_STRETCH" = some (some (.int 10000 583)) := by kernel_rfl
theorem nA_MOST_WALK (P : Params) : nG P "MOST_WALK" = some (some (.int 5000 585)) := by kernel_rfl
theorem nZ_isinstance (P : Params) : nG P "isinstance" = some none := by kernel_rfl
theorem nZ_len (P : Params) : nG P "len" = some none := by kernel_rfl
theorem nZ_max (P : Params) : nG P "max" = some none := by kernel_rfl
theorem nZ_min (P : Params) : nG P "min" = some none := by kernel_rfl
theorem nZ_int (P : Params) : nG P "int" = some none := by kernel_rfl
theorem nZ_bool (P : Params) : nG P "bool" = some none := by kernel_rfl
theorem nZ_str (P : Params) : nG P "str" = some none := by kernel_rfl
theorem nZ_tuple (P : Params) : nG P "tuple" = some none := by kernel_rfl
theorem nZ_list (P : Params) : nG P "list" = some none := by kernel_rfl
theorem nZ_range (P : Params) : nG P "range" = some none := by kernel_rfl
theorem nZ_ValueError (P : Params) : nG P "ValueError" = some none := by kernel_rfl
theorem nA_HourError (P : Params) : nG P "HourError" = some (some (.ref 24)) := by kernel_rfl
theorem nA_NoDate (P : Params) : nG P "NoDate" = some (some (.ref 37)) := by kernel_rfl
theorem nA_NoRule (P : Params) : nG P "NoRule" = some (some (.ref 49)) := by kernel_rfl
theorem nA_NoName (P : Params) : nG P "NoName" = some (some (.ref 61)) := by kernel_rfl
theorem nA_Taken (P : Params) : nG P "Taken" = some (some (.ref 73)) := by kernel_rfl
theorem nA_Stranger (P : Params) : nG P "Stranger" = some (some (.ref 85)) := by kernel_rfl
theorem nA_Twice (P : Params) : nG P "Twice" = some (some (.ref 97)) := by kernel_rfl
theorem nA_NoTime (P : Params) : nG P "NoTime" = some (some (.ref 109)) := by kernel_rfl
theorem nA_NoMeeting (P : Params) : nG P "NoMeeting" = some (some (.ref 121)) := by kernel_rfl
theorem nA_Clash (P : Params) : nG P "Clash" = some (some (.ref 133)) := by kernel_rfl
theorem nA_TooLong (P : Params) : nG P "TooLong" = some (some (.ref 145)) := by kernel_rfl
theorem nA_is_whole (P : Params) : nG P "is_whole" = some (some (.ref 156)) := by kernel_rfl
theorem nA_month_length (P : Params) : nG P "month_length" = some (some (.ref 163)) := by kernel_rfl
theorem nA_date_of (P : Params) : nG P "date_of" = some (some (.ref 170)) := by kernel_rfl
theorem nA_from_end (P : Params) : nG P "from_end" = some (some (.ref 177)) := by kernel_rfl
theorem nA_is_between (P : Params) : nG P "is_between" = some (some (.ref 185)) := by kernel_rfl
theorem nA_is_time (P : Params) : nG P "is_time" = some (some (.ref 192)) := by kernel_rfl
theorem nA_are_rising (P : Params) : nG P "are_rising" = some (some (.ref 199)) := by kernel_rfl
theorem nA_is_plain (P : Params) : nG P "is_plain" = some (some (.ref 206)) := by kernel_rfl
theorem nA_is_rule (P : Params) : nG P "is_rule" = some (some (.ref 213)) := by kernel_rfl
theorem nA_innermost (P : Params) : nG P "innermost" = some (some (.ref 220)) := by kernel_rfl
theorem nA_length_of (P : Params) : nG P "length_of" = some (some (.ref 227)) := by kernel_rfl
theorem nA_begins_plain (P : Params) : nG P "begins_plain" = some (some (.ref 234)) := by kernel_rfl
theorem nA_begins (P : Params) : nG P "begins" = some (some (.ref 241)) := by kernel_rfl
theorem nA_covers (P : Params) : nG P "covers" = some (some (.ref 248)) := by kernel_rfl
theorem nA_round_of (P : Params) : nG P "round_of" = some (some (.ref 255)) := by kernel_rfl
theorem nA_settled_plain (P : Params) : nG P "settled_plain" = some (some (.ref 262)) := by kernel_rfl
theorem nA_settled (P : Params) : nG P "settled" = some (some (.ref 269)) := by kernel_rfl
theorem nA_greatest_common (P : Params) : nG P "greatest_common" = some (some (.ref 276)) := by kernel_rfl
theorem nA_least_common (P : Params) : nG P "least_common" = some (some (.ref 283)) := by kernel_rfl
theorem nA_is_name (P : Params) : nG P "is_name" = some (some (.ref 290)) := by kernel_rfl
theorem nA_some_covers (P : Params) : nG P "some_covers" = some (some (.ref 297)) := by kernel_rfl
theorem nA_need_stretch (P : Params) : nG P "need_stretch" = some (some (.ref 304)) := by kernel_rfl
theorem nA_law_cell_at (P : Params) : nG P "_law_cell_at" = some (some (.ref 463)) := by kernel_rfl
theorem nA_law_far (P : Params) : nG P "_law_far" = some (some (.ref 470)) := by kernel_rfl
theorem nA_law_name_by (P : Params) : nG P "_law_name_by" = some (some (.ref 477)) := by kernel_rfl
theorem nA_law_called (P : Params) : nG P "_law_called" = some (some (.ref 484)) := by kernel_rfl
theorem nA_law_class_one (P : Params) : nG P "_law_class_one" = some (some (.ref 491)) := by kernel_rfl
theorem nA_law_by_any (P : Params) : nG P "_law_by_any" = some (some (.ref 498)) := by kernel_rfl
theorem nA_law_people_case (P : Params) : nG P "_law_people_case" = some (some (.ref 505)) := by kernel_rfl
theorem nA_law_meeting_case (P : Params) : nG P "_law_meeting_case" = some (some (.ref 512)) := by kernel_rfl
theorem nA_law_ever_case (P : Params) : nG P "_law_ever_case" = some (some (.ref 519)) := by kernel_rfl
theorem nA_law_long_case (P : Params) : nG P "_law_long_case" = some (some (.ref 526)) := by kernel_rfl
theorem nA_law_made_good (P : Params) : nG P "_law_made_good" = some (some (.ref 531)) := by kernel_rfl
theorem ck10_is_whole : checkFn G10 mts10 V10 "is_whole" = some f_is_whole := by kernel_rfl
theorem ck10_is_between : checkFn G10 mts10 V10 "is_between" = some f_is_between := by kernel_rfl
theorem ck10_is_time : checkFn G10 mts10 V10 "is_time" = some f_is_time := by kernel_rfl
theorem ck10_are_rising : checkFn G10 mts10 V10 "are_rising" = some f_are_rising := by kernel_rfl
theorem ck10_is_plain : checkFn G10 mts10 V10 "is_plain" = some f_is_plain := by kernel_rfl
theorem ck10_is_rule : checkFn G10 mts10 V10 "is_rule" = some f_is_rule := by kernel_rfl
theorem ck10_innermost : checkFn G10 mts10 V10 "innermost" = some f_innermost := by kernel_rfl
theorem ck10_length_of : checkFn G10 mts10 V10 "length_of" = some f_length_of := by kernel_rfl
theorem ck10_begins_plain : checkFn G10 mts10 V10 "begins_plain" = some f_begins_plain := by kernel_rfl
theorem ck10_begins : checkFn G10 mts10 V10 "begins" = some f_begins := by kernel_rfl
theorem ck10_covers : checkFn G10 mts10 V10 "covers" = some f_covers := by kernel_rfl
theorem ck10_some_covers : checkFn G10 mts10 V10 "some_covers" = some f_some_covers := by kernel_rfl
theorem ck10_need_stretch : checkFn G10 mts10 V10 "need_stretch" = some f_need_stretch := by kernel_rfl
theorem ck10_is_name : checkFn G10 mts10 V10 "is_name" = some f_is_name := by kernel_rfl
theorem ck10_round_of : checkFn G10 mts10 V10 "round_of" = some f_round_of := by kernel_rfl
theorem ck10_settled_plain : checkFn G10 mts10 V10 "settled_plain" = some f_settled_plain := by kernel_rfl
theorem ck10_settled : checkFn G10 mts10 V10 "settled" = some f_settled := by kernel_rfl
theorem ck10_greatest_common : checkFn G10 mts10 V10 "greatest_common" = some f_greatest_common := by kernel_rfl
theorem ck10_least_common : checkFn G10 mts10 V10 "least_common" = some f_least_common := by kernel_rfl
theorem ck10_Bneed_somebody : checkMt G10 mts10 B10 "need_somebody" = some f_B_need_somebody := by kernel_rfl
theorem ck10_Bmeets_at : checkMt G10 mts10 B10 "meets_at" = some f_B_meets_at := by kernel_rfl
theorem ck10_Bfree_at : checkMt G10 mts10 B10 "free_at" = some f_B_free_at := by kernel_rfl
theorem ck10_Bneed_all : checkMt G10 mts10 B10 "need_all" = some f_B_need_all := by kernel_rfl
theorem ck10_Bis_free : checkMt G10 mts10 B10 "is_free" = some f_B_is_free := by kernel_rfl
theorem ck10_Bpeople : checkMt G10 mts10 B10 "people" = some f_B_people := by kernel_rfl
theorem ck10_Bmeetings : checkMt G10 mts10 B10 "meetings" = some f_B_meetings := by kernel_rfl
theorem ck10_Bbar : checkMt G10 mts10 B10 "bar" = some f_B_bar := by kernel_rfl
theorem ck10_Blook : checkMt G10 mts10 B10 "look" = some f_B_look := by kernel_rfl
theorem ck10_Bfirst : checkMt G10 mts10 B10 "first" = some f_B_first := by kernel_rfl
theorem ck10_Bmeet : checkMt G10 mts10 B10 "meet" = some f_B_meet := by kernel_rfl
theorem ck10_Binit : checkMt G10 mts10 B10 "__init__" = some f_B___init__ := by kernel_rfl
theorem ck10_Bcome : checkMt G10 mts10 B10 "come" = some f_B_come := by kernel_rfl
theorem ck10_Bbusy : checkMt G10 mts10 B10 "busy" = some f_B_busy := by kernel_rfl
theorem ck10_Bplace_of : checkMt G10 mts10 B10 "place_of" = some f_B_place_of := by kernel_rfl
theorem ck10_Bdrop : checkMt G10 mts10 B10 "drop" = some f_B_drop := by kernel_rfl
theorem ck10_Bmove : checkMt G10 mts10 B10 "move" = some f_B_move := by kernel_rfl
theorem ck10_Brules_of : checkMt G10 mts10 B10 "rules_of" = some f_B_rules_of := by kernel_rfl
theorem ck10_Bquiet_from : checkMt G10 mts10 B10 "quiet_from" = some f_B_quiet_from := by kernel_rfl
theorem ck10_Bever : checkMt G10 mts10 B10 "ever" = some f_B_ever := by kernel_rfl
theorem ck10_law_cell_at : checkFn G10 mts10 V10 "_law_cell_at" = some f_l_cell_at := by kernel_rfl
theorem ck10_law_far : checkFn G10 mts10 V10 "_law_far" = some f_l_far := by kernel_rfl
theorem ck10_law_name_by : checkFn G10 mts10 V10 "_law_name_by" = some f_l_name_by := by kernel_rfl
theorem ck10_law_called : checkFn G10 mts10 V10 "_law_called" = some f_l_called := by kernel_rfl
theorem ck10_law_class_one : checkFn G10 mts10 V10 "_law_class_one" = some f_l_class_one := by kernel_rfl
theorem ck10_law_by_any : checkFn G10 mts10 V10 "_law_by_any" = some f_l_by_any := by kernel_rfl
theorem ck10_law_people_case : checkFn G10 mts10 V10 "_law_people_case" = some f_l_people_case := by kernel_rfl
theorem ck10_law_meeting_case : checkFn G10 mts10 V10 "_law_meeting_case" = some f_l_meeting_case := by kernel_rfl
theorem ck10_law_ever_case : checkFn G10 mts10 V10 "_law_ever_case" = some f_l_ever_case := by kernel_rfl
theorem ck10_law_long_case : checkFn G10 mts10 V10 "_law_long_case" = some f_l_long_case := by kernel_rfl
theorem ck10_law_made_good : checkFn G10 mts10 V10 "_law_made_good" = some f_l_made_good := by kernel_rfl
theorem ck10_law : checkFn G10 mts10 V10 "law" = some f_law := by kernel_rfl
end Mine
set_option maxRecDepth 100000 in
set_option maxHeartbeats 8000000 in
theorem PySem.Challenge.cw_uf010016_14_holds : PySem.Challenge.rw_uf010016_14.Holds := by
  w_on
  refine holds_law ws10 fun said => ?_
  refine holds_open (q := V10) (loose := [Str.ofString "TIMES", Str.ofString "DAYS"]) (Xt := fun s => xlAt V10 [(Str.ofString "TIMES", .int 1000000000000), (Str.ofString "DAYS", .int 100000000000)] s && recOk (RowW.records (OpenRow.toRowW Challenge.rw_uf010016_14.row)) s) (XP := XL V10 [(Str.ofString "TIMES", .int 1000000000000), (Str.ofString "DAYS", .int 100000000000)]) (Yf := Hook.obs H10) (Ya := Hook.val H10) (YP := Hook.says H10) (N := 8080) ?hl (Hook.of H10) (Hook.keeps H10) (fun s e => xl_of s (Bool.and_eq_true_iff.mp e).1) XL.keeps (by rfl) (by rfl) (by rfl) (fun s e => recFacts_of (Bool.and_eq_true_iff.mp e).2) (by rfl) (by first | assumption | decide +kernel) (by decide +kernel) ⟨rfl, rfl, rfl, rfl, rfl, by decide +kernel⟩ ?hw ?hc
  case hl => exact Hd.hl10
  case hw => w_witness2
  intro w s₀ s₁ mg mb G Y fa o pm cd doc dV kV ho hd hcd hD hmg hg args vals as hpre hlay hrd hwl hlo
  have KX := kIn_of Y
  refine Ground.open G ?_
  intro T B D TE TW
  wrow_args hpre hlay hrd hwl hlo
  obtain ⟨C, N, mN, hC, P0⟩ := TE B10 (List.mem_of_find?_eq_some hb10)
  have P := P0.ofCmp
  rw [bn10] at hC
  have GA : GAll ⟨Challenge.rw_uf010016_14.row.prog, w, s₁.heap, mg, mb, C, mN, exOf X10, []⟩ G10 := by
    refine ⟨gv_int (mg_of KX T.g (nA_FOUR_YEARS_dates _)), ?_⟩
    refine ⟨gv_tup (vs := [Value.int 0 371, Value.int 366 372, Value.int 731 373, Value.int 1096 374]) (n := 0) (mg_of KX T.g (nA_BEFORE_YEAR _)) (KX _ _ (nO_BEFORE_YEAR _)) (by decide) (fun _ => (reps_int (reps_int (reps_int (reps_int reps_nil))))), ?_⟩
    refine ⟨gv_tup (vs := [Value.int 31 376, Value.int 28 377, Value.int 31 378, Value.int 30 379, Value.int 31 380, Value.int 30 381, Value.int 31 382, Value.int 31 383, Value.int 30 384, Value.int 31 385, Value.int 30 386, Value.int 31 387]) (n := 0) (mg_of KX T.g (nA_MONTHS _)) (KX _ _ (nO_MONTHS _)) (by decide) (fun _ => (reps_int (reps_int (reps_int (reps_int (reps_int (reps_int (reps_int (reps_int (reps_int (reps_int (reps_int (reps_int reps_nil))))))))))))), ?_⟩
    refine ⟨gv_int (mg_of KX T.g (nA_TIMES _)), ?_⟩
    refine ⟨gv_int (mg_of KX T.g (nA_DAYS _)), ?_⟩
    refine ⟨gv_int (mg_of KX T.g (nA_LONGEST _)), ?_⟩
    refine ⟨gv_int (mg_of KX T.g (nA_MOST_STEP _)), ?_⟩
    refine ⟨gv_int (mg_of KX T.g (nA_DEEPEST _)), ?_⟩
    refine ⟨gv_tup (vs := [Value.str (Str.ofString "from") 439, Value.str (Str.ofString "until") 440, Value.str (Str.ofString "also") 441, Value.str (Str.ofString "but") 442]) (n := 0) (mg_of KX T.g (nA_OUTER _)) (KX _ _ (nO_OUTER _)) (by decide) (fun _ => (reps_str ⟨by decide +kernel, by decide +kernel⟩ (reps_str ⟨by decide +kernel, by decide +kernel⟩ (reps_str ⟨by decide +kernel, by decide +kernel⟩ (reps_str ⟨by decide +kernel, by decide +kernel⟩ reps_nil))))), ?_⟩
    refine ⟨gv_int (mg_of KX T.g (nA_WEEK _)), ?_⟩
    refine ⟨gv_int (mg_of KX T.g (nA_FOUR_YEARS_rounds _)), ?_⟩
    refine ⟨gv_str (mg_of KX T.g (nA_LETTERS _)) ⟨by decide +kernel, by decide +kernel⟩, ?_⟩
    refine ⟨gv_int (mg_of KX T.g (nA_LONGEST_NAME _)), ?_⟩
    refine ⟨gv_int (mg_of KX T.g (nA_MOST_RULES _)), ?_⟩
    refine ⟨gv_int (mg_of KX T.g (nA_MOST_STRETCH _)), ?_⟩
    refine ⟨gv_int (mg_of KX T.g (nA_MOST_WALK _)), ?_⟩
    refine ⟨gv_bi (ns_none_of KX T.g (nZ_isinstance _)) ((T.builtins _ (by decide)).trans rfl), ?_⟩
    refine ⟨gv_bi (ns_none_of KX T.g (nZ_len _)) ((T.builtins _ (by decide)).trans rfl), ?_⟩
    refine ⟨gv_bi (ns_none_of KX T.g (nZ_max _)) ((T.builtins _ (by decide)).trans rfl), ?_⟩
    refine ⟨gv_bi (ns_none_of KX T.g (nZ_min _)) ((T.builtins _ (by decide)).trans rfl), ?_⟩
    refine ⟨gv_ty (ns_none_of KX T.g (nZ_int _)) ((T.builtins _ (by decide)).trans rfl), ?_⟩
    refine ⟨gv_ty (ns_none_of KX T.g (nZ_bool _)) ((T.builtins _ (by decide)).trans rfl), ?_⟩
    refine ⟨gv_ty (ns_none_of KX T.g (nZ_str _)) ((T.builtins _ (by decide)).trans rfl), ?_⟩
    refine ⟨gv_ty (ns_none_of KX T.g (nZ_tuple _)) ((T.builtins _ (by decide)).trans rfl), ?_⟩
    refine ⟨gv_ty (ns_none_of KX T.g (nZ_list _)) ((T.builtins _ (by decide)).trans rfl), ?_⟩
    refine ⟨gv_ty (ns_none_of KX T.g (nZ_range _)) ((T.builtins _ (by decide)).trans rfl), ?_⟩
    refine ⟨gv_ty (ns_none_of KX T.g (nZ_ValueError _)) ((T.builtins _ (by decide)).trans rfl), ?_⟩
    refine ⟨gv_bk hC, ?_⟩
    refine ⟨gv_cls (mg_of KX T.g (nA_HourError _)), ?_⟩
    refine ⟨gv_cls (mg_of KX T.g (nA_NoDate _)), ?_⟩
    refine ⟨gv_cls (mg_of KX T.g (nA_NoRule _)), ?_⟩
    refine ⟨gv_cls (mg_of KX T.g (nA_NoName _)), ?_⟩
    refine ⟨gv_cls (mg_of KX T.g (nA_Taken _)), ?_⟩
    refine ⟨gv_cls (mg_of KX T.g (nA_Stranger _)), ?_⟩
    refine ⟨gv_cls (mg_of KX T.g (nA_Twice _)), ?_⟩
    refine ⟨gv_cls (mg_of KX T.g (nA_NoTime _)), ?_⟩
    refine ⟨gv_cls (mg_of KX T.g (nA_NoMeeting _)), ?_⟩
    refine ⟨gv_cls (mg_of KX T.g (nA_Clash _)), ?_⟩
    refine ⟨gv_cls (mg_of KX T.g (nA_TooLong _)), ?_⟩
    refine ⟨gv_fn (by decide +kernel) (mg_of KX T.g (nA_is_whole _)), ?_⟩
    refine ⟨gv_fn (by decide +kernel) (mg_of KX T.g (nA_month_length _)), ?_⟩
    refine ⟨gv_fn (by decide +kernel) (mg_of KX T.g (nA_date_of _)), ?_⟩
    refine ⟨gv_fn (by decide +kernel) (mg_of KX T.g (nA_from_end _)), ?_⟩
    refine ⟨gv_fn (by decide +kernel) (mg_of KX T.g (nA_is_between _)), ?_⟩
    refine ⟨gv_fn (by decide +kernel) (mg_of KX T.g (nA_is_time _)), ?_⟩
    refine ⟨gv_fn (by decide +kernel) (mg_of KX T.g (nA_are_rising _)), ?_⟩
    refine ⟨gv_fn (by decide +kernel) (mg_of KX T.g (nA_is_plain _)), ?_⟩
    refine ⟨gv_fn (by decide +kernel) (mg_of KX T.g (nA_is_rule _)), ?_⟩
    refine ⟨gv_fn (by decide +kernel) (mg_of KX T.g (nA_innermost _)), ?_⟩
    refine ⟨gv_fn (by decide +kernel) (mg_of KX T.g (nA_length_of _)), ?_⟩
    refine ⟨gv_fn (by decide +kernel) (mg_of KX T.g (nA_begins_plain _)), ?_⟩
    refine ⟨gv_fn (by decide +kernel) (mg_of KX T.g (nA_begins _)), ?_⟩
    refine ⟨gv_fn (by decide +kernel) (mg_of KX T.g (nA_covers _)), ?_⟩
    refine ⟨gv_fn (by decide +kernel) (mg_of KX T.g (nA_round_of _)), ?_⟩
    refine ⟨gv_fn (by decide +kernel) (mg_of KX T.g (nA_settled_plain _)), ?_⟩
    refine ⟨gv_fn (by decide +kernel) (mg_of KX T.g (nA_settled _)), ?_⟩
    refine ⟨gv_fn (by decide +kernel) (mg_of KX T.g (nA_greatest_common _)), ?_⟩
    refine ⟨gv_fn (by decide +kernel) (mg_of KX T.g (nA_least_common _)), ?_⟩
    refine ⟨gv_fn (by decide +kernel) (mg_of KX T.g (nA_is_name _)), ?_⟩
    refine ⟨gv_fn (by decide +kernel) (mg_of KX T.g (nA_some_covers _)), ?_⟩
    refine ⟨gv_fn (by decide +kernel) (mg_of KX T.g (nA_need_stretch _)), ?_⟩
    refine ⟨gv_fn (by decide +kernel) (mg_of KX T.g (nA_law_cell_at _)), ?_⟩
    refine ⟨gv_fn (by decide +kernel) (mg_of KX T.g (nA_law_far _)), ?_⟩
    refine ⟨gv_fn (by decide +kernel) (mg_of KX T.g (nA_law_name_by _)), ?_⟩
    refine ⟨gv_fn (by decide +kernel) (mg_of KX T.g (nA_law_called _)), ?_⟩
    refine ⟨gv_fn (by decide +kernel) (mg_of KX T.g (nA_law_class_one _)), ?_⟩
    refine ⟨gv_fn (by decide +kernel) (mg_of KX T.g (nA_law_by_any _)), ?_⟩
    refine ⟨gv_fn (by decide +kernel) (mg_of KX T.g (nA_law_people_case _)), ?_⟩
    refine ⟨gv_fn (by decide +kernel) (mg_of KX T.g (nA_law_meeting_case _)), ?_⟩
    refine ⟨gv_fn (by decide +kernel) (mg_of KX T.g (nA_law_ever_case _)), ?_⟩
    refine ⟨gv_fn (by decide +kernel) (mg_of KX T.g (nA_law_long_case _)), ?_⟩
    refine ⟨gv_fn (by decide +kernel) (mg_of KX T.g (nA_law_made_good _)), ?_⟩
    exact trivial
  have g : GOk ⟨Challenge.rw_uf010016_14.row.prog, w, s₁.heap, mg, mb, C, mN, exOf X10, []⟩ G10 mts10 := gok (tab := X10) T GA P bc10 KX rfl (xk10 _) xg10
  have o1 : OrcOk _ 1 Φ1 := ext_ok g noΦ_ok (fnOk_of_top T (x := "is_whole") (f := f_is_whole) (by decide +kernel) ck10_is_whole) w_is_whole
  have o2 : OrcOk _ 2 Φ2 := ext_ok g o1 (fnOk_of_top T (x := "is_between") (f := f_is_between) (by decide +kernel) ck10_is_between) w_is_between
  have o3 : OrcOk _ 3 Φ3 := ext_ok g o2 (fnOk_of_top T (x := "is_time") (f := f_is_time) (by decide +kernel) ck10_is_time) w_is_time
  have o4 : OrcOk _ 4 Φ4 := ext_ok g o3 (fnOk_of_top T (x := "are_rising") (f := f_are_rising) (by decide +kernel) ck10_are_rising) w_are_rising
  have o5 : OrcOk _ 5 Φ5 := ext_ok g o4 (fnOk_of_top T (x := "is_plain") (f := f_is_plain) (by decide +kernel) ck10_is_plain) w_is_plain
  have o6 : OrcOk _ 6 Φ6 := ext_ok g o5 (fnOk_of_top T (x := "is_rule") (f := f_is_rule) (by decide +kernel) ck10_is_rule) w_is_rule
  have o7 : OrcOk _ 7 Φ7 := ext_ok g o6 (fnOk_of_top T (x := "innermost") (f := f_innermost) (by decide +kernel) ck10_innermost) w_innermost
  have o8 : OrcOk _ 8 Φ8 := ext_ok g o7 (fnOk_of_top T (x := "length_of") (f := f_length_of) (by decide +kernel) ck10_length_of) w_length_of
  have o9 : OrcOk _ 9 Φ9 := ext_ok g o8 (fnOk_of_top T (x := "begins_plain") (f := f_begins_plain) (by decide +kernel) ck10_begins_plain) w_begins_plain
  have o10 : OrcOk _ 10 Φa := ext_ok g o9 (fnOk_of_top T (x := "begins") (f := f_begins) (by decide +kernel) ck10_begins) w_begins
  have o11 : OrcOk _ 11 Φb := ext_ok g o10 (fnOk_of_top T (x := "covers") (f := f_covers) (by decide +kernel) ck10_covers) w_covers
  have o12 : OrcOk _ 12 Φc := ext_ok g o11 (fnOk_of_top T (x := "some_covers") (f := f_some_covers) (by decide +kernel) ck10_some_covers) w_some_covers
  have o13 : OrcOk _ 13 Φd := ext_ok g o12 (fnOk_of_top T (x := "need_stretch") (f := f_need_stretch) (by decide +kernel) ck10_need_stretch) w_need_stretch
  have o14 : OrcOk _ 14 Φe := ext_ok g o13 (fnOk_of_top T (x := "is_name") (f := f_is_name) (by decide +kernel) ck10_is_name) w_is_name
  have o15 : OrcOk _ 15 Φf := ext_ok g o14 (fnOk_of_top T (x := "round_of") (f := f_round_of) (by decide +kernel) ck10_round_of) w_round_of
  have o16 : OrcOk _ 16 Φg := ext_ok g o15 (fnOk_of_top T (x := "settled_plain") (f := f_settled_plain) (by decide +kernel) ck10_settled_plain) w_settled_plain
  have o17 : OrcOk _ 17 Φh := ext_ok g o16 (fnOk_of_top T (x := "settled") (f := f_settled) (by decide +kernel) ck10_settled) w_settled
  have o18 : OrcOk _ 18 Φi := ext_ok g o17 (fnOk_of_top T (x := "greatest_common") (f := f_greatest_common) (by decide +kernel) ck10_greatest_common) w_greatest_common
  have o19 : OrcOk _ 19 Φj := ext_ok g o18 (fnOk_of_top T (x := "least_common") (f := f_least_common) (by decide +kernel) ck10_least_common) w_least_common
  have o20 : OrcOk _ 20 Ψ1 := ext_ok g o19 (fnOk_of_cls P ck10_Bneed_somebody) w_need_somebody
  have o21 : OrcOk _ 21 Ψ2 := ext_ok g o20 (fnOk_of_cls P ck10_Bmeets_at) w_meets_at
  have o22 : OrcOk _ 22 Ψ3 := ext_ok g o21 (fnOk_of_cls P ck10_Bfree_at) w_free_at
  have o23 : OrcOk _ 23 Ψ4 := ext_ok g o22 (fnOk_of_cls P ck10_Bneed_all) w_need_all
  have o24 : OrcOk _ 24 Ψ5 := ext_ok g o23 (fnOk_of_cls P ck10_Bis_free) w_is_free
  have o25 : OrcOk _ 25 Ψ6 := ext_ok g o24 (fnOk_of_cls P ck10_Bpeople) w_people
  have o26 : OrcOk _ 26 Ψ7 := ext_ok g o25 (fnOk_of_cls P ck10_Bmeetings) w_meetings
  have o27 : OrcOk _ 27 Ψ8 := ext_ok g o26 (fnOk_of_cls P ck10_Bbar) w_bar
  have o28 : OrcOk _ 28 Ψ9 := ext_ok g o27 (fnOk_of_cls P ck10_Blook) w_look
  have o29 : OrcOk _ 29 Ψa := ext_ok g o28 (fnOk_of_cls P ck10_Bfirst) w_first
  have o30 : OrcOk _ 30 Ψb := ext_ok g o29 (fnOk_of_cls P ck10_Bmeet) w_meet
  have o31 : OrcOk _ 31 Ψc := ext_ok g o30 (ini10 ▸ fnOk_of_cls P ck10_Binit) w_init
  have o32 : OrcOk _ 32 Ψd := ext_ok g o31 (fnOk_of_cls P ck10_Bcome) w_come
  have o33 : OrcOk _ 33 Ψe := ext_ok g o32 (fnOk_of_cls P ck10_Bbusy) w_busy
  have o34 : OrcOk _ 34 Ψf := ext_ok g o33 (fnOk_of_cls P ck10_Bplace_of) w_place_of
  have o35 : OrcOk _ 35 Ψg := ext_ok g o34 (fnOk_of_cls P ck10_Bdrop) w_drop
  have o36 : OrcOk _ 36 Ψh := ext_ok g o35 (fnOk_of_cls P ck10_Bmove) w_move
  have o37 : OrcOk _ 37 Ψi := ext_ok g o36 (fnOk_of_cls P ck10_Brules_of) w_rules_of
  have o38 : OrcOk _ 38 Ψj := ext_ok g o37 (fnOk_of_cls P ck10_Bquiet_from) w_quiet_from
  have o39 : OrcOk _ 39 Ψk := ext_ok g o38 (fnOk_of_cls P ck10_Bever) w_ever
  have o40 : OrcOk _ 40 Θ1 := ext_ok g o39 (fnOk_of_top T (x := "_law_cell_at") (f := f_l_cell_at) (by decide +kernel) ck10_law_cell_at) w_cell_at
  have o41 : OrcOk _ 41 Θ2 := ext_ok g o40 (fnOk_of_top T (x := "_law_far") (f := f_l_far) (by decide +kernel) ck10_law_far) w_far
  have o42 : OrcOk _ 42 Θ3 := ext_ok g o41 (fnOk_of_top T (x := "_law_name_by") (f := f_l_name_by) (by decide +kernel) ck10_law_name_by) w_name_by
  have o43 : OrcOk _ 43 Θ4 := ext_ok g o42 (fnOk_of_top T (x := "_law_called") (f := f_l_called) (by decide +kernel) ck10_law_called) w_called
  have o44 : OrcOk _ 44 Θ5 := ext_ok g o43 (fnOk_of_top T (x := "_law_class_one") (f := f_l_class_one) (by decide +kernel) ck10_law_class_one) w_class_one
  have o45 : OrcOk _ 45 Θ6 := ext_ok g o44 (fnOk_of_top T (x := "_law_by_any") (f := f_l_by_any) (by decide +kernel) ck10_law_by_any) w_by_any
  have o46 : OrcOk _ 46 Θ7 := ext_ok g o45 (fnOk_of_top T (x := "_law_people_case") (f := f_l_people_case) (by decide +kernel) ck10_law_people_case) w_people_case
  have o47 : OrcOk _ 47 Θ8 := ext_ok g o46 (fnOk_of_top T (x := "_law_meeting_case") (f := f_l_meeting_case) (by decide +kernel) ck10_law_meeting_case) w_meeting_case
  have o48 : OrcOk _ 48 Θ9 := ext_ok g o47 (fnOk_of_top T (x := "_law_ever_case") (f := f_l_ever_case) (by decide +kernel) ck10_law_ever_case) w_ever_case
  have o49 : OrcOk _ 49 Θa := ext_ok g o48 (fnOk_of_top T (x := "_law_long_case") (f := f_l_long_case) (by decide +kernel) ck10_law_long_case) w_long_case
  have o50 : OrcOk _ 50 Θb := ext_ok g o49 (fnOk_of_top T (x := "_law_made_good") (f := f_l_made_good) (by decide +kernel) ck10_law_made_good) w_made_good
  have o51 : OrcOk _ 51 ΦL10 := ext_ok g o50 (fnOk_of_top T (x := "law") (f := f_law) (by decide +kernel) ck10_law) w_lawT
  exact law_top o51 (caller_ok (by decide) rfl) (by decide +kernel) hmg (by assumption) (by assumption) ⟨_, rfl, by omega, fun _ => rfl⟩ (by omega) hg (fun _ => rfl) (by first | rfl | wrow_post)
