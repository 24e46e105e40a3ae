import PyProof.Rows.All
import Wide.All
import OpenK.AllK
import Wide.FinOn
import PySem.Eval
import PyProof.P3Statements
import PyProof.ReprReads
import PyProof.StrBlockL
import PyProof.StrBlock2
import KE.IntText
import PyProof.Cells
import PyProof.Seq
import PyProof.InstStore
import PyProof.DictCompW
import PyProof.Rows.Nodes
import PyProof.Rows.Chain
import PyProof.Rows.TupSub
import PyProof.Rows.StrTemp
import PyProof.CallRoads
import PyProof.SliceSyntax
import PyProof.InstLoad
import PyProof.InstStoreFacts
import PyProof.ObjNew
import PyProof.Rows.Exc
import PyProof.Rows.Own
import PyProof.RaisesMany
import PyProof.ExcBaseAll.ValueError
import PyProof.StrOps
import PyProof.Rows.StrItems
import PyProof.Rows.RuleB_small
import PyProof.Rows.RuleB_floordiv
import PyProof.Rows.RuleB_mod
import PyProof.Rows.RuleB_mul
import PyProof.Rows.RuleU_int
import PyProof.Rows.RuleN_isinstance
import PyProof.Rows.IntRules
import PyProof.Rows.StrRules
import PyProof.Rows.TupMore
import PyProof.Rows.Lst
import PyProof.ListOps
import PyProof.TupleOps
import PyProof.TupleIter
import PyProof.ListIndexNeg
import PyProof.DictRoads
import PyProof.DictKinds
import PyProof.ListTruth
import PyProof.Truth
import PyProof.Rows.FactsC_int_ge
import PyProof.Rows.FactsC_int_le
import PyProof.Rows.ListMulCarried
import PyProof.StrOps2
import PyProof.NeData
import PyProof.EqAt
import PyProof.ConsumeWalk
import PyProof.TupleOfSeq
import PyProof.WalkInts
import PyProof.ListCopy
import PyProof.Conv_int_bool
import PyProof.PlainList
import PyProof.Rows.RuleC_int
import PyProof.IsRules
import PyProof.Rows.RuleIs
import PyProof.Rules3
import PyProof.P3In
import PyProof.SeqI3
import PyProof.CallFns
import PyProof.IsiPairs
import PyProof.IsiHeapPairs
import PyProof.IsiNone
import PyProof.Rows.CountFlat
import PyProof.ForAppend
import PyProof.Rows.AttrNodeAny
import PyProof.SliceList
import KE.KSliceW
import PyProof.RangeFor
import PyProof.CompFree
import KE.KRevIter
import PyProof.StationsW
import PyProof.Rows.Catch
import OpenK.KCall
import KE.KPairComp
import PyProof.ExcArgsOwn
import PyProof.ExcFactsAll.ValueError
import KE.KItem
import PyProof.AssignAttr
import PyProof.RulesAs
import PyProof.NsDelKeeps
import PyProof.IsInstance
import PyProof.Rows.PlainObj
import OpenK.KLine
import PyProof.Rows.Top
import PyProof.Rows.PlainEq
import PyProof.Rows.TupIn
import Wide.BridgeG
import OpenK.KOwn
import PySem.Challenge.RW_uf010016_13
set_option Elab.async false
set_option linter.unusedVariables false
set_option linter.unusedSimpArgs false
set_option maxRecDepth 20000
set_option autoImplicit false
namespace Mine
theorem e0_3  {P0 P1 P2 : Prop} {R : Prop} (h : P0 ∧ P1 ∧ P2) (k : P0 → P1 → P2 → R) : R := by obtain ⟨h0, h1, h2⟩ := h; exact k h0 h1 h2
theorem e0_4  {P0 P1 P2 P3 : Prop} {R : Prop} (h : P0 ∧ P1 ∧ P2 ∧ P3) (k : P0 → P1 → P2 → P3 → R) : R := by obtain ⟨h0, h1, h2, h3⟩ := h; exact k h0 h1 h2 h3
theorem e1_2.{u0} {α0 : Sort u0} {P0 P1 : α0 → Prop} {R : Prop} (h : ∃ x0, P0 x0 ∧ P1 x0) (k : ∀ x0, P0 x0 → P1 x0 → R) : R := by obtain ⟨x0, h0, h1⟩ := h; exact k x0 h0 h1
theorem e1_3.{u0} {α0 : Sort u0} {P0 P1 P2 : α0 → Prop} {R : Prop} (h : ∃ x0, P0 x0 ∧ P1 x0 ∧ P2 x0) (k : ∀ x0, P0 x0 → P1 x0 → P2 x0 → R) : R := by obtain ⟨x0, h0, h1, h2⟩ := h; exact k x0 h0 h1 h2
theorem e1_4.{u0} {α0 : Sort u0} {P0 P1 P2 P3 : α0 → Prop} {R : Prop} (h : ∃ x0, P0 x0 ∧ P1 x0 ∧ P2 x0 ∧ P3 x0) (k : ∀ x0, P0 x0 → P1 x0 → P2 x0 → P3 x0 → R) : R := by obtain ⟨x0, h0, h1, h2, h3⟩ := h; exact k x0 h0 h1 h2 h3
theorem e2_1.{u0, u1} {α0 : Sort u0} {α1 : Sort u1} {P0 : α0 → α1 → Prop} {R : Prop} (h : ∃ x0 x1, P0 x0 x1) (k : ∀ x0 x1, P0 x0 x1 → R) : R := by obtain ⟨x0, x1, h0⟩ := h; exact k x0 x1 h0
theorem e2_2.{u0, u1} {α0 : Sort u0} {α1 : Sort u1} {P0 P1 : α0 → α1 → Prop} {R : Prop} (h : ∃ x0 x1, P0 x0 x1 ∧ P1 x0 x1) (k : ∀ x0 x1, P0 x0 x1 → P1 x0 x1 → R) : R := by obtain ⟨x0, x1, h0, h1⟩ := h; exact k x0 x1 h0 h1
theorem e2_3.{u0, u1} {α0 : Sort u0} {α1 : Sort u1} {P0 P1 P2 : α0 → α1 → Prop} {R : Prop} (h : ∃ x0 x1, P0 x0 x1 ∧ P1 x0 x1 ∧ P2 x0 x1) (k : ∀ x0 x1, P0 x0 x1 → P1 x0 x1 → P2 x0 x1 → R) : R := by obtain ⟨x0, x1, h0, h1, h2⟩ := h; exact k x0 x1 h0 h1 h2
theorem e2_4.{u0, u1} {α0 : Sort u0} {α1 : Sort u1} {P0 P1 P2 P3 : α0 → α1 → Prop} {R : Prop} (h : ∃ x0 x1, P0 x0 x1 ∧ P1 x0 x1 ∧ P2 x0 x1 ∧ P3 x0 x1) (k : ∀ x0 x1, P0 x0 x1 → P1 x0 x1 → P2 x0 x1 → P3 x0 x1 → R) : R := by obtain ⟨x0, x1, h0, h1, h2, h3⟩ := h; exact k x0 x1 h0 h1 h2 h3
theorem e3_2.{u0, u1, u2} {α0 : Sort u0} {α1 : Sort u1} {α2 : Sort u2} {P0 P1 : α0 → α1 → α2 → Prop} {R : Prop} (h : ∃ x0 x1 x2, P0 x0 x1 x2 ∧ P1 x0 x1 x2) (k : ∀ x0 x1 x2, P0 x0 x1 x2 → P1 x0 x1 x2 → R) : R := by obtain ⟨x0, x1, x2, h0, h1⟩ := h; exact k x0 x1 x2 h0 h1
theorem e3_3.{u0, u1, u2} {α0 : Sort u0} {α1 : Sort u1} {α2 : Sort u2} {P0 P1 P2 : α0 → α1 → α2 → Prop} {R : Prop} (h : ∃ x0 x1 x2, P0 x0 x1 x2 ∧ P1 x0 x1 x2 ∧ P2 x0 x1 x2) (k : ∀ x0 x1 x2, P0 x0 x1 x2 → P1 x0 x1 x2 → P2 x0 x1 x2 → R) : R := by obtain ⟨x0, x1, x2, h0, h1, h2⟩ := h; exact k x0 x1 x2 h0 h1 h2
theorem e3_4.{u0, u1, u2} {α0 : Sort u0} {α1 : Sort u1} {α2 : Sort u2} {P0 P1 P2 P3 : α0 → α1 → α2 → Prop} {R : Prop} (h : ∃ x0 x1 x2, P0 x0 x1 x2 ∧ P1 x0 x1 x2 ∧ P2 x0 x1 x2 ∧ P3 x0 x1 x2) (k : ∀ x0 x1 x2, P0 x0 x1 x2 → P1 x0 x1 x2 → P2 x0 x1 x2 → P3 x0 x1 x2 → R) : R := by obtain ⟨x0, x1, x2, h0, h1, h2, h3⟩ := h; exact k x0 x1 x2 h0 h1 h2 h3
theorem e4_5.{u0, u1, u2, u3} {α0 : Sort u0} {α1 : Sort u1} {α2 : Sort u2} {α3 : Sort u3} {P0 P1 P2 P3 P4 : α0 → α1 → α2 → α3 → Prop} {R : Prop} (h : ∃ x0 x1 x2 x3, P0 x0 x1 x2 x3 ∧ P1 x0 x1 x2 x3 ∧ P2 x0 x1 x2 x3 ∧ P3 x0 x1 x2 x3 ∧ P4 x0 x1 x2 x3) (k : ∀ x0 x1 x2 x3, P0 x0 x1 x2 x3 → P1 x0 x1 x2 x3 → P2 x0 x1 x2 x3 → P3 x0 x1 x2 x3 → P4 x0 x1 x2 x3 → R) : R := by obtain ⟨x0, x1, x2, x3, h0, h1, h2, h3, h4⟩ := h; exact k x0 x1 x2 x3 h0 h1 h2 h3 h4
theorem e5_9.{u0, u1, u2, u3, u4} {α0 : Sort u0} {α1 : Sort u1} {α2 : Sort u2} {α3 : Sort u3} {α4 : Sort u4} {P0 P1 P2 P3 P4 P5 P6 P7 P8 : α0 → α1 → α2 → α3 → α4 → Prop} {R : Prop} (h : ∃ x0 x1 x2 x3 x4, P0 x0 x1 x2 x3 x4 ∧ P1 x0 x1 x2 x3 x4 ∧ P2 x0 x1 x2 x3 x4 ∧ P3 x0 x1 x2 x3 x4 ∧ P4 x0 x1 x2 x3 x4 ∧ P5 x0 x1 x2 x3 x4 ∧ P6 x0 x1 x2 x3 x4 ∧ P7 x0 x1 x2 x3 x4 ∧ P8 x0 x1 x2 x3 x4) (k : ∀ x0 x1 x2 x3 x4, P0 x0 x1 x2 x3 x4 → P1 x0 x1 x2 x3 x4 → P2 x0 x1 x2 x3 x4 → P3 x0 x1 x2 x3 x4 → P4 x0 x1 x2 x3 x4 → P5 x0 x1 x2 x3 x4 → P6 x0 x1 x2 x3 x4 → P7 x0 x1 x2 x3 x4 → P8 x0 x1 x2 x3 x4 → R) : R := by obtain ⟨x0, x1, x2, x3, x4, h0, h1, h2, h3, h4, h5, h6, h7, h8⟩ := h; exact k x0 x1 x2 x3 x4 h0 h1 h2 h3 h4 h5 h6 h7 h8
theorem e7_10.{u0, u1, u2, u3, u4, u5, u6} {α0 : Sort u0} {α1 : Sort u1} {α2 : Sort u2} {α3 : Sort u3} {α4 : Sort u4} {α5 : Sort u5} {α6 : Sort u6} {P0 P1 P2 P3 P4 P5 P6 P7 P8 P9 : α0 → α1 → α2 → α3 → α4 → α5 → α6 → Prop} {R : Prop} (h : ∃ x0 x1 x2 x3 x4 x5 x6, P0 x0 x1 x2 x3 x4 x5 x6 ∧ P1 x0 x1 x2 x3 x4 x5 x6 ∧ P2 x0 x1 x2 x3 x4 x5 x6 ∧ P3 x0 x1 x2 x3 x4 x5 x6 ∧ P4 x0 x1 x2 x3 x4 x5 x6 ∧ P5 x0 x1 x2 x3 x4 x5 x6 ∧ P6 x0 x1 x2 x3 x4 x5 x6 ∧ P7 x0 x1 x2 x3 x4 x5 x6 ∧ P8 x0 x1 x2 x3 x4 x5 x6 ∧ P9 x0 x1 x2 x3 x4 x5 x6) (k : ∀ x0 x1 x2 x3 x4 x5 x6, P0 x0 x1 x2 x3 x4 x5 x6 → P1 x0 x1 x2 x3 x4 x5 x6 → P2 x0 x1 x2 x3 x4 x5 x6 → P3 x0 x1 x2 x3 x4 x5 x6 → P4 x0 x1 x2 x3 x4 x5 x6 → P5 x0 x1 x2 x3 x4 x5 x6 → P6 x0 x1 x2 x3 x4 x5 x6 → P7 x0 x1 x2 x3 x4 x5 x6 → P8 x0 x1 x2 x3 x4 x5 x6 → P9 x0 x1 x2 x3 x4 x5 x6 → R) : R := by obtain ⟨x0, x1, x2, x3, x4, x5, x6, h0, h1, h2, h3, h4, h5, h6, h7, h8, h9⟩ := h; exact k x0 x1 x2 x3 x4 x5 x6 h0 h1 h2 h3 h4 h5 h6 h7 h8 h9
end Mine
set_option genSizeOf false
set_option genSizeOfSpec false
set_option genInjectivity false
set_option bootstrap.genMatcherCode false
namespace Mine
open PySem
inductive Ty where
 | int | bool | str | tuple | list | range | reversed
noncomputable def Ty.name : Ty → String
 | .int => "int" | .bool => "bool" | .str => "str" | .tuple => "tuple" | .list => "list" | .range => "range" | .reversed => "reversed"
inductive Bi where
 | len | isinstance | any | max | min
noncomputable def Bi.name : Bi → String
 | .len => "len" | .isinstance => "isinstance" | .any => "any" | .max => "max" | .min => "min"
inductive Mt where
 | append | count
noncomputable def Mt.name : Mt → Str
 | .append => "append" | .count => "count"
inductive V where
 | none
 | bool (b : Bool)
 | int (i : Int)
 | str (s : Str)
 | tup (l : List V)
 | ref (i : Nat)
 | fn (x : Str)
 | ty (n : Ty)
 | bi (n : Bi)
 | scr (ns : List Int)
 | bk
 | cls (x : Str) (ups : List Str)
inductive O where
 | list (xs : List V)
 | inst (j : Nat)
 | ns (fs : List (Str × V))
 | dict (es : List (Str × V))
noncomputable abbrev Hp := List O
noncomputable abbrev Lc := List (Option V)
structure Exc where
 cls : Str
 ups : List Str
inductive SrcK where
 | val | range | range2 | rev
inductive IE where
 | lit (v : V)
 | loc (i : Nat)
 | bin (op : Operator) (a b : IE)
 | neg (a : IE)
 | not (a : IE)
 | and (a b : IE)
 | or (a b : IE)
 | cmp (a : IE) (op : CmpOp) (b : IE)
 | cmp2 (a : IE) (op : CmpOp) (b : IE) (op' : CmpOp) (c : IE)
 | ite (t a b : IE)
 | tup (es : List IE)
 | lst (es : List IE)
 | call (f : V) (args : List IE)
 | meth (o : IE) (name : Mt) (args : List IE)
 | sub (o i : IE)
 | slice (o : IE) (lo hi : Option IE)
 | comp (elt : IE) (var : Nat) (k : SrcK) (src : IE)
 | comp2 (elt : IE) (var : Nat) (k : SrcK) (src : IE)
 | attr (o : IE) (x : Str)
 | mcall (o : IE) (x : Str) (args : List IE)
 | new
 | dct
inductive IS where
 | expr (e : IE)
 | assign (i : Nat) (e : IE)
 | setItem (o k v : IE)
 | ret (e : IE)
 | ite (t : IE) (a b : List IS)
 | while (t : IE) (b : List IS)
 | for (var : Nat) (k : SrcK) (src : IE) (b : List IS)
 | setAttr (o : IE) (x : Str) (e : IE)
 | fail
 | raise (x : Str) (ups : List Str)
 | tryR (b : List IS) (hs : List (Str × IE))
inductive Fl where
 | next
 | ret (v : V)
theorem bnot : ∀ {b : Bool}, (!b) = true → b = false
 | false, _ => rfl
theorem no_some {α : Type} {b : α} {P : Prop} (h : none = some b) : P := nomatch h
noncomputable def idx {α : Type} (l : List α) (k : Int) : Option α :=
 if 0 ≤ k then l[k.toNat]? else if 0 ≤ k + (l.length : Int) then l[(k + (l.length : Int)).toNat]? else none
noncomputable def idxP {α : Type} (l : List α) (k : Int) : Option α := if 0 ≤ k then l[k.toNat]? else none
theorem idxP_some {α : Type} {l : List α} {k : Int} {v : α} (h : idxP l k = some v) : 0 ≤ k ∧ l[k.toNat]? = some v := by
 unfold idxP at h
 by_cases hk : 0 ≤ k
 ·rw [if_pos hk] at h; exact ⟨hk, h⟩
 ·rw [if_neg hk] at h; exact no_some h
noncomputable def optI : V → Option (Option Int)
 | .none => some none
 | .int k => some (some k)
 | _ => none
noncomputable def cutA (u : Option Int) (d n : Nat) : Nat := match u with
 | none => d
 | some k => if k < 0 then n - (-k).toNat else min k.toNat n
noncomputable def cutL (lo hi : V) (l : List V) : Option (List V) := (optI lo).bind fun a => (optI hi).map fun b => (l.drop (cutA a 0 l.length)).take (cutA b l.length l.length - cutA a 0 l.length)
mutual
noncomputable def toPy : V → Option PyData
 | .none => some .none
 | .bool b => some (.bool b)
 | .int i => some (.int i)
 | .str x => some (.str x)
 | .tup l => (toPys l).map .tuple
 | _ => none
noncomputable def toPys : List V → Option (List PyData)
 | [] => some []
 | v :: r => (toPy v).bind fun d => (toPys r).map (d :: ·)
end
noncomputable def lstO : O → Option (List V)
 | .list xs => some xs
 | _ => none
noncomputable def listAt (H : Hp) (i : Nat) : Option (List V) := H[i]?.bind lstO
noncomputable def insO : O → Option Nat
 | .inst j => some j
 | _ => none
noncomputable def nsO : O → Option (List (Str × V))
 | .ns fs => some fs
 | _ => none
noncomputable def dctO : O → Option (List (Str × V))
 | .dict es => some es
 | _ => none
noncomputable def dictAt (H : Hp) (i : Nat) : Option (List (Str × V)) := H[i]?.bind dctO
noncomputable def nsAt (H : Hp) (i : Nat) : Option (Nat × List (Str × V)) := (H[i]?.bind insO).bind fun j => (H[j]?.bind nsO).map fun fs => (j, fs)
noncomputable def toPyH (H : Hp) : V → Option PyData
 | .ref i => ((listAt H i).bind toPys).map .list
 | v => toPy v
mutual
noncomputable def toPyT (H : Hp) : V → Option PyData
 | .none => some .none
 | .bool b => some (.bool b)
 | .int i => some (.int i)
 | .str x => some (.str x)
 | .ref i => ((listAt H i).bind toPys).map .list
 | .tup l => (toPysT H l).map .tuple
 | _ => none
noncomputable def toPysT (H : Hp) : List V → Option (List PyData)
 | [] => some []
 | v :: r => (toPyT H v).bind fun d => (toPysT H r).map (d :: ·)
end
noncomputable def eqH (H : Hp) (a b : V) : Option Bool :=
 (toPyT H a).bind fun d => (toPyT H b).bind fun e => if d.depth ≤ 60 then some (PyData.eqv d e) else none
noncomputable def memV (x : V) (l : List V) : Option Bool :=
 (toPy x).bind fun d => (toPys l).bind fun ds => if d.depth ≤ 60 then some (ds.any fun e => PyData.eqv e d) else none
noncomputable def oK {α : Type} (t : Option α) (P : α → Prop) : Prop := match t with | some v => P v | none => False
theorem oK_elim {α : Type} {t : Option α} {P : α → Prop} (h : oK t P) : ∃ v, t = some v ∧ P v := by cases t with | some v => exact ⟨v, rfl, h⟩ | none => exact h.elim
noncomputable def oKK {α : Type} (t : Option (Option α)) (P : α → Prop) : Prop := match t with | some (some v) => P v | _ => False
theorem oKK_elim {α : Type} {t : Option (Option α)} {P : α → Prop} (h : oKK t P) : ∃ v, t = some (some v) ∧ P v := by
 cases t with
 | none => exact h.elim
 | some u => cases u with | some v => exact ⟨v, rfl, h⟩ | none => exact h.elim
noncomputable def tX (v : V) (P : Bool → Prop) : Prop := match v with | .bool b => P b | _ => False
theorem tX_elim {v : V} {P : Bool → Prop} (h : tX v P) : ∃ c, v = .bool c ∧ P c := by
 cases v with
 | bool b => exact ⟨b, rfl, h⟩
 | _ => exact h.elim
noncomputable def intV : V → Option Int
 | .int i => some i
 | _ => none
theorem intV_some {v : V} {i : Int} (h : intV v = some i) : v = .int i := by
 cases v with
 | int _ => exact congrArg V.int (Option.some.inj h)
 | _ => exact no_some h
noncomputable def refV : V → Option Nat
 | .ref i => some i
 | _ => none
theorem refV_some {v : V} {i : Nat} (h : refV v = some i) : v = .ref i := by
 cases v with
 | ref _ => exact congrArg V.ref (Option.some.inj h)
 | _ => exact no_some h
noncomputable def tupV : V → Option (List V)
 | .tup l => some l
 | _ => none
theorem tupV_some {v : V} {l : List V} (h : tupV v = some l) : v = .tup l := by
 cases v with
 | tup _ => exact congrArg V.tup (Option.some.inj h)
 | _ => exact no_some h
noncomputable def strV : V → Option Str
 | .str x => some x
 | _ => none
theorem strV_some {v : V} {x : Str} (h : strV v = some x) : v = .str x := by
 cases v with
 | str _ => exact congrArg V.str (Option.some.inj h)
 | _ => exact no_some h
noncomputable def pAdd (a b : V) (H : Hp) (Q : V → Hp → Prop) : Prop := match a with
 | .int i => oK (intV b) fun j => Q (.int (i + j)) H
 | .str x => oK (strV b) fun y => x.length + y.length ≤ 1000000 ∧ Q (.str (x ++ y)) H
 | .ref i => oK (refV b) fun j => oK (listAt H i) fun xs => oK (listAt H j) fun ys => xs.length + ys.length ≤ 1000000 ∧ Q (.ref H.length) (H ++ [.list (xs ++ ys)])
 | _ => False
noncomputable def pInt (a b : V) (P : Int → Int → Prop) : Prop := oK (intV a) fun i => oK (intV b) fun j => P i j
theorem pInt_elim {a b : V} {P : Int → Int → Prop} (h : pInt a b P) : ∃ i j, a = .int i ∧ b = .int j ∧ P i j := by
 refine e1_2 (oK_elim h) fun i h1 h => ?_
 refine e1_2 (oK_elim h) fun j h2 h => ?_
 exact ⟨i, j, intV_some h1, intV_some h2, h⟩
noncomputable def on1P {α : Type} (l : List α) (P : α → Prop) : Prop := match l with
 | [] => False
 | a :: r => (match r with
  | [] => P a
  | _ :: _ => False)
theorem on1P_elim {α : Type} {l : List α} {P : α → Prop} (h : on1P l P) : ∃ a, l = [a] ∧ P a := by
 cases l with
 | nil => exact h.elim
 | cons a r => cases r with
  | nil => exact ⟨a, rfl, h⟩
  | cons _ _ => exact h.elim
noncomputable def on0P {α : Type} (l : List α) (P : Prop) : Prop := match l with
 | [] => P
 | _ :: _ => False
noncomputable def on2P {α : Type} (l : List α) (P : α → α → Prop) : Prop := match l with
 | [] => False
 | a :: r => on1P r (P a)
theorem on2P_elim {α : Type} {l : List α} {P : α → α → Prop} (h : on2P l P) : ∃ a b, l = [a, b] ∧ P a b := by
 cases l with
 | nil => exact h.elim
 | cons a r =>
  refine e1_2 (on1P_elim h) fun b e_1 h => ?_
  obtain rfl := e_1
  exact ⟨a, b, rfl, h⟩
noncomputable def pBin (op : Operator) (a b : V) (H : Hp) (Q : V → Hp → Prop) : Prop :=
 match op with
 | .Add => pAdd a b H Q
 | .Sub => pInt a b fun i j => Q (.int (i - j)) H
 | .Mult => pInt a b fun i j => ((-(2 ^ 64) < i ∧ i < 2 ^ 64) ∨ (-(2 ^ 64) < j ∧ j < 2 ^ 64)) ∧ Q (.int (i * j)) H
 | .FloorDiv => pInt a b fun i j => (0 < j ∧ j < 2 ^ 128) ∧ Q (.int (i / j)) H
 | .Mod => pInt a b fun i j => (0 < j ∧ j < 2 ^ 128) ∧ Q (.int (i % j)) H
 | .Pow => pInt a b fun i j => (0 ≤ j ∧ j ≤ 1000000 ∧ i.natAbs < 2 ^ 64) ∧ Q (.int (i ^ j.toNat)) H
 | _ => False
noncomputable def strsOf : List V → Option (List Str)
 | [] => some []
 | v :: r => (strV v).bind fun y => (strsOf r).map (y :: ·)
noncomputable def isNoneV : V → Bool
 | .none => true
 | _ => false
noncomputable def noneP (b : V) (P : Prop) : Prop := match b with | .none => P | _ => False
theorem noneP_elim {b : V} {P : Prop} (h : noneP b P) : b = .none ∧ P := by
 cases b with
 | none => exact ⟨rfl, h⟩
 | _ => exact h.elim
noncomputable def pIn (a b : V) (H : Hp) (P : Bool → Prop) : Prop := match b with
 | .str x => oK (strV a) fun y => P (Txt.contains x y)
 | .tup l => oK (memV a l) P
 | .ref i => oK (listAt H i) fun l => oK (memV a l) P
 | _ => False
noncomputable def pCmp (op : CmpOp) (a b : V) (H : Hp) (Q : V → Hp → Prop) : Prop :=
 match op with
 | .Eq => oK (eqH H a b) fun c => Q (.bool c) H
 | .NotEq => oK (eqH H a b) fun c => Q (.bool (!c)) H
 | .Lt => pInt a b fun i j => Q (.bool (decide (i < j))) H
 | .LtE => pInt a b fun i j => Q (.bool (decide (i ≤ j))) H
 | .Gt => pInt a b fun i j => Q (.bool (decide (j < i))) H
 | .GtE => pInt a b fun i j => Q (.bool (decide (j ≤ i))) H
 | .In => pIn a b H fun c => Q (.bool c) H
 | .NotIn => pIn a b H fun c => Q (.bool (!c)) H
 | .Is => noneP b (Q (.bool (isNoneV a)) H)
 | .IsNot => noneP b (Q (.bool (!isNoneV a)) H)
noncomputable def pSubI (o : V) (k : Int) (H : Hp) (Q : V → Hp → Prop) : Prop := match o with
 | .tup l => oK (idx l k) fun v => Q v H
 | .ref j => oK (listAt H j) fun l => oK (idx l k) fun v => Q v H
 | .scr ns => oK (idxP ns k) fun v => Q (.int v) H
 | .str x => oK (idxP x.cps.toList k) fun c => Q (.str ⟨#[c]⟩) H
 | _ => False
noncomputable def pSub (o i : V) (H : Hp) (Q : V → Hp → Prop) : Prop := match i with
 | .int k => pSubI o k H Q
 | .str x => oK (refV o) fun j => oK (dictAt H j) fun es => oK (es.lookup x) fun v => Q v H
 | _ => False
noncomputable def pSlice (o lo hi : V) (H : Hp) (Q : V → Hp → Prop) : Prop := oK (refV o) fun i => oK (listAt H i) fun xs => oK (cutL lo hi xs) fun ys => Q (.ref H.length) (H ++ [.list ys])
noncomputable def pSet (o k v : V) (H : Hp) (Q : Hp → Prop) : Prop := oK (refV o) fun i => (match k with
 | .int j => oK (listAt H i) fun l => (0 ≤ j ∧ j < (l.length : Int)) ∧ Q (H.set i (.list (l.set j.toNat v)))
 | .str x => oK (dictAt H i) fun es => es.length ≤ 100000 ∧ Q (H.set i (.dict ((x, v) :: es)))
 | _ => False)
noncomputable def fldOk (x : Str) : Bool := x == "names" || x == "free_rules" || x == "busy_rules" || x == "held" || x == "given"
noncomputable def pAttr (o : V) (x : Str) (H : Hp) (Q : V → Hp → Prop) : Prop := oK (refV o) fun i => oK (nsAt H i) fun p => oK (p.2.lookup x) fun v => Q v H
noncomputable def pSetA (o : V) (x : Str) (v : V) (H : Hp) (Q : Hp → Prop) : Prop := oK (refV o) fun i => oK (nsAt H i) fun p => p.2.length ≤ 100000 ∧ Q (H.set p.1 (.ns ((x, v) :: p.2)))
noncomputable def tyOf (H : Hp) : V → Option Ty
 | .bool _ => some .bool
 | .int _ => some .int
 | .str _ => some .str
 | .tup _ => some .tuple
 | .ref i => (listAt H i).map fun _ => .list
 | _ => none
noncomputable def subTy (a b : Ty) : Bool := match b with
 | .int => (match a with
  | .int => true
  | .bool => true
  | _ => false)
 | .bool => (match a with
  | .bool => true
  | _ => false)
 | .str => (match a with
  | .str => true
  | _ => false)
 | .tuple => (match a with
  | .tuple => true
  | _ => false)
 | .list => (match a with
  | .list => true
  | _ => false)
 | _ => false
noncomputable def isiTy : Ty → Bool
 | .int => true
 | .bool => true
 | .str => true
 | .tuple => true
 | .list => true
 | _ => false
noncomputable def isInstH (H : Hp) (v : V) (n : Ty) : Option Bool := match isiTy n with
 | true => (match v with
  | .none => some false
  | v => (tyOf H v).map fun t => subTy t n)
 | false => none
noncomputable def boolV : V → Option Bool
 | .bool b => some b
 | _ => none
noncomputable def allBools : List V → Option (List Bool)
 | [] => some []
 | v :: r => (boolV v).bind fun b => (allBools r).map (b :: ·)
noncomputable abbrev Orc := Str → List V → Hp → (V → Hp → Prop) → (Exc → Hp → Prop) → Prop
noncomputable def tyV : V → Option Ty
 | .ty t => some t
 | _ => none
theorem tyV_some {v : V} {t : Ty} (h : tyV v = some t) : v = .ty t := by
 cases v with
 | ty _ => exact congrArg V.ty (Option.some.inj h)
 | _ => exact no_some h
noncomputable def pLen (v : V) (H : Hp) (Q : V → Hp → Prop) : Prop := match v with
 | .tup l => Q (.int (l.length : Int)) H
 | .ref i => oK (listAt H i) fun l => Q (.int (l.length : Int)) H
 | .scr ns => Q (.int (ns.length : Int)) H
 | .str x => Q (.int (x.length : Int)) H
 | _ => False
noncomputable def pBi (b : Bi) (args : List V) (H : Hp) (Q : V → Hp → Prop) : Prop :=
 match b with
 | .len => on1P args fun v => pLen v H Q
 | .isinstance => on2P args fun v w => oK (tyV w) fun t => oK (isInstH H v t) fun c => Q (.bool c) H
 | .any => on1P args fun v => oK (refV v) fun i => oK (listAt H i) fun l => oK (allBools l) fun bs => Q (.bool (bs.any id)) H
 | .max => on2P args fun v w => pInt v w fun i j => Q (.int (max i j)) H
 | .min => on2P args fun v w => pInt v w fun i j => Q (.int (min i j)) H
noncomputable def pTy1 (b : Ty) (v : V) (H : Hp) (Q : V → Hp → Prop) : Prop := match b with
 | .int => oK (boolV v) fun b => Q (.int (if b then 1 else 0)) H
 | .tuple => oK (refV v) fun i => oK (listAt H i) fun l => Q (.tup l) H
 | .list => oK (refV v) fun i => oK (listAt H i) fun l => Q (.ref H.length) (H ++ [.list l])
 | _ => False
noncomputable def pTy (b : Ty) (args : List V) (H : Hp) (Q : V → Hp → Prop) : Prop := on1P args fun v => pTy1 b v H Q
noncomputable def pCall (Φ : Orc) (f : V) (args : List V) (H : Hp) (Q : V → Hp → Prop) (X : Exc → Hp → Prop) : Prop :=
 match f with
 | .fn x => Φ x args H Q X
 | .bi b => pBi b args H Q
 | .ty t => pTy t args H Q
 | _ => False
noncomputable def okMeth (H : Hp) (o : V) : Prop := match o with
 | .ref i => ∃ l, listAt H i = some l
 | _ => False
noncomputable def pMeth (o : V) (name : Mt) (args : List V) (H : Hp) (Q : V → Hp → Prop) : Prop :=
 oK (refV o) fun i => oK (listAt H i) fun l => (match name with
 | .append => on1P args fun v => l.length ≤ 1000000 ∧ Q .none (H.set i (.list (l ++ [v])))
 | .count => on1P args fun v => oK (strsOf l) fun ys => oK (strV v) fun y => Q (.int ((ys.count y : Nat) : Int)) H
)
noncomputable def rangeL (a b : Int) : List V := (List.range (b - a).toNat).map fun (k : Nat) => V.int (a + (k : Int))
noncomputable def pVal (v : V) (H : Hp) (Q : List V → (Hp → Prop) → Prop) : Prop := match v with
 | .tup l => Q l (fun _ => True)
 | .str x => x.cps.all (· < 128) = true ∧ Q (x.cps.toList.map fun c => V.str ⟨#[c]⟩) (fun _ => True)
 | .ref i => oK (listAt H i) fun l => Q l (fun H' => listAt H' i = some l)
 | _ => False
noncomputable def pSrc (k : SrcK) (v : V) (H : Hp) (Q : List V → (Hp → Prop) → Prop) : Prop :=
 match k with
 | .val => pVal v H Q
 | .range => oK (intV v) fun a => (-(2 ^ 62) ≤ a ∧ a ≤ 1000000) ∧ Q (rangeL 0 a) (fun _ => True)
 | .range2 => oK (tupV v) fun l => on2P l fun v w => pInt v w fun a b => (-(2 ^ 62) ≤ a ∧ a < 2 ^ 62 ∧ -(2 ^ 62) ≤ b ∧ b < 2 ^ 62 ∧ b - a ≤ 1000000) ∧ Q (rangeL a b) (fun _ => True)
 | .rev => oK (refV v) fun i => oK (listAt H i) fun l => Q l.reverse (fun H' => listAt H' i = some l)
noncomputable abbrev XL := Exc → Hp → Prop
noncomputable def ifP (c : Bool) (A B : Prop) : Prop := match c with | true => A | false => B
noncomputable def bd1 (j : Nat) (L : Lc) (x : V) : Option Lc := some (L.set j (some x))
noncomputable def two : List V → Option (V × V)
 | [] => none
 | a :: r => (match r with
  | [] => none
  | b :: r => (match r with
   | [] => some (a, b)
   | _ :: _ => none))
noncomputable def bd2 (j : Nat) (L : Lc) (x : V) : Option Lc := ((tupV x).bind two).map fun p => (L.set j (some p.1)).set (j + 1) (some p.2)
noncomputable def compGoB (el : Lc → Hp → (V → Hp → Prop) → Prop) (st : Hp → Prop) (bd : V → Option Lc) : List V → List V → Hp → (List V → Hp → Prop) → Prop
 | [], acc, H, Q => Q acc H
 | x :: r, acc, H, Q => oK (bd x) fun L => el L H (fun y H2 => st H2 ∧ compGoB el st bd r (acc ++ [y]) H2 Q)
noncomputable abbrev compGo (el : Lc → Hp → (V → Hp → Prop) → Prop) (st : Hp → Prop) (j : Nat) (L : Lc) : List V → List V → Hp → (List V → Hp → Prop) → Prop := compGoB el st (bd1 j L)
noncomputable abbrev noX : XL := fun _ _ => False
noncomputable abbrev noXS : Exc → Lc → Hp → Prop := fun _ _ _ => False
structure ET where
 E : Lc → Hp → (V → Hp → Prop) → XL → Prop
 T : Lc → Hp → (Bool → Hp → Prop) → XL → Prop
noncomputable def ET.of (E : Lc → Hp → (V → Hp → Prop) → XL → Prop) : ET :=
 ⟨E, fun L H Q X => E L H (fun v H1 => tX v fun c => Q c H1) X⟩
mutual
noncomputable def wp2 (Φ : Orc) : IE → ET
 | .lit v => .of fun _ H Q _ => Q v H
 | .loc i => .of fun L H Q _ => oKK L[i]? fun v => Q v H
 | .bin op a b => .of fun L H Q X => (wp2 Φ a).E L H (fun va H1 => (wp2 Φ b).E L H1 (fun vb H2 => pBin op va vb H2 Q) X) X
 | .neg a => .of fun L H Q X => (wp2 Φ a).E L H (fun v H1 => oK (intV v) fun i => Q (.int (-i)) H1) X
 | .not a => ⟨fun L H Q X => (wp2 Φ a).E L H (fun v H1 => tX v fun c => Q (.bool (!c)) H1) X,
   fun L H Q X => (wp2 Φ a).T L H (fun c H1 => Q (!c) H1) X⟩
 | .and a b => ⟨fun L H Q X => (wp2 Φ a).E L H (fun v H1 => tX v fun c => ifP c ((wp2 Φ b).E L H1 Q X) (Q v H1)) X,
   fun L H Q X => (wp2 Φ a).T L H (fun c H1 => ifP c ((wp2 Φ b).T L H1 Q X) (Q false H1)) X⟩
 | .or a b => ⟨fun L H Q X => (wp2 Φ a).E L H (fun v H1 => tX v fun c => ifP c (Q v H1) ((wp2 Φ b).E L H1 Q X)) X,
   fun L H Q X => (wp2 Φ a).T L H (fun c H1 => ifP c (Q true H1) ((wp2 Φ b).T L H1 Q X)) X⟩
 | .cmp a op b => .of fun L H Q X => (wp2 Φ a).E L H (fun va H1 => (wp2 Φ b).E L H1 (fun vb H2 => pCmp op va vb H2 Q) X) X
 | .cmp2 a op b op' c => .of fun L H Q X => (wp2 Φ a).E L H (fun va H1 => (wp2 Φ b).E L H1 (fun vb H2 => pCmp op va vb H2 (fun r H3 =>
   tX r fun t => ifP t ((wp2 Φ c).E L H3 (fun vc H4 => pCmp op' vb vc H4 Q) X) (Q r H3))) X) X
 | .ite t a b => ⟨fun L H Q X => (wp2 Φ t).T L H (fun c H1 => ifP c ((wp2 Φ a).E L H1 Q X) ((wp2 Φ b).E L H1 Q X)) X,
   fun L H Q X => (wp2 Φ t).T L H (fun c H1 => ifP c ((wp2 Φ a).T L H1 Q X) ((wp2 Φ b).T L H1 Q X)) X⟩
 | .tup es => .of fun L H Q X => wpEs Φ es L H (fun vs H1 => vs.length ≤ 1000000 ∧ Q (.tup vs) H1) X
 | .lst es => .of fun L H Q X => wpEs Φ es L H (fun vs H1 => vs.length ≤ 1000000 ∧ Q (.ref H1.length) (H1 ++ [.list vs])) X
 | .call f args => .of fun L H Q X => wpEs Φ args L H (fun vs H1 => pCall Φ f vs H1 Q X) X
 | .meth o name args => .of fun L H Q X => (wp2 Φ o).E L H (fun vo H1 => okMeth H1 vo ∧ wpEs Φ args L H1 (fun vs H2 => pMeth vo name vs H2 Q) X) X
 | .sub o i => .of fun L H Q X => (wp2 Φ o).E L H (fun vo H1 => (wp2 Φ i).E L H1 (fun vi H2 => pSub vo vi H2 Q) X) X
 | .slice o lo hi => .of fun L H Q X => (wp2 Φ o).E L H (fun vo H1 => wpO Φ lo L H1 (fun vl H2 => wpO Φ hi L H2 (fun vh H3 => pSlice vo vl vh H3 Q) X) X) X
 | .comp elt j k src => .of fun L H Q X => (wp2 Φ src).E L H (fun v H1 => pSrc k v H1 fun items st =>
   compGo (fun L' H' K => (wp2 Φ elt).E L' H' K noX) st j L items [] H1
    (fun ys H2 => ys.length ≤ 1000000 ∧ Q (.ref H2.length) (H2 ++ [.list ys]))) X
 | .comp2 elt j k src => .of fun L H Q X => (wp2 Φ src).E L H (fun v H1 => pSrc k v H1 fun items st =>
   compGoB (fun L' H' K => (wp2 Φ elt).E L' H' K noX) st (bd2 j L) items [] H1
    (fun ys H2 => ys.length ≤ 1000000 ∧ Q (.ref H2.length) (H2 ++ [.list ys]))) X
 | .attr o x => .of fun L H Q X => (wp2 Φ o).E L H (fun vo H1 => pAttr vo x H1 Q) X
 | .mcall o x args => .of fun L H Q X => (wp2 Φ o).E L H (fun vo H1 => oK (refV vo) fun i => oK (nsAt H1 i) fun _ => wpEs Φ args L H1 (fun vs H2 => Φ (Str.ofString "Book." ++ x) (.ref i :: vs) H2 Q X) X) X
 | .new => .of fun _ H Q X => Φ "Book.__init__" [.ref (H.length + 1)] (H ++ [.ns []] ++ [.inst H.length]) (fun v H1 => isNoneV v = true ∧ Q (.ref (H.length + 1)) H1) X
 | .dct => .of fun _ H Q _ => Q (.ref H.length) (H ++ [.dict []])
noncomputable def wpEs (Φ : Orc) : List IE → Lc → Hp → (List V → Hp → Prop) → XL → Prop
 | [], _, H, Q, _ => Q [] H
 | e :: r, L, H, Q, X => (wp2 Φ e).E L H (fun v H1 => wpEs Φ r L H1 (fun vs H2 => Q (v :: vs) H2) X) X
noncomputable def wpO (Φ : Orc) : Option IE → Lc → Hp → (V → Hp → Prop) → XL → Prop
 | none, _, H, Q, _ => Q .none H
 | some e, L, H, Q, X => (wp2 Φ e).E L H Q X
end
noncomputable abbrev QS := Fl → Lc → Hp → Prop
noncomputable abbrev XS := Exc → Lc → Hp → Prop
noncomputable def nxt (go : Lc → Hp → Prop) (Q : QS) : QS := fun fl L1 H1 => match fl with
 | .next => go L1 H1
 | .ret v => Q (.ret v) L1 H1
noncomputable def lop (go : Lc → Hp → Prop) (Q : QS) : QS := fun fl L1 H1 => match fl with
 | .next => go L1 H1
 | .ret v => Q (.ret v) L1 H1
noncomputable def forGo (body : Lc → Hp → QS → Prop) (st : Hp → Prop) (j : Nat) : List V → Lc → Hp → QS → Prop
 | [], L, H, Q => Q .next L H
 | x :: r, L, H, Q => body (L.set j (some x)) H (lop (fun L1 H1 => st H1 ∧ forGo body st j r L1 H1 Q) Q)
noncomputable def whileGo (test : Lc → Hp → (Bool → Hp → Prop) → Prop) (body : Lc → Hp → QS → Prop) : Nat → Lc → Hp → QS → Prop
 | 0, _, _, _ => False
 | n + 1, L, H, Q => test L H (fun c H1 => ifP c (body L H1 (lop (fun L1 H2 => whileGo test body n L1 H2 Q) Q)) (Q .next L H1))
noncomputable def evR (L : Lc) : IE → Option V
 | .lit v => some v
 | .loc i => L[i]?.bind id
 | _ => none
noncomputable def hndl (x : Exc) (L : Lc) (H : Hp) (Q : QS) : List (Str × IE) → Prop
 | [] => False
 | h :: r => ifP (x.ups.contains h.1) (oK (evR L h.2) fun v => Q (.ret v) L H) (hndl x L H Q r)
mutual
noncomputable def wpS (Φ : Orc) : IS → Lc → Hp → QS → XS → Prop
 | .expr e, L, H, Q, X => (wp2 Φ e).E L H (fun _ H1 => Q .next L H1) (fun x => X x L)
 | .assign i e, L, H, Q, X => (wp2 Φ e).E L H (fun v H1 => Q .next (L.set i (some v)) H1) (fun x => X x L)
 | .setItem o k v, L, H, Q, X => (wp2 Φ v).E L H (fun vv H1 => (wp2 Φ o).E L H1 (fun vo H2 => (wp2 Φ k).E L H2 (fun vk H3 => pSet vo vk vv H3 (Q .next L)) (fun x => X x L)) (fun x => X x L)) (fun x => X x L)
 | .ret e, L, H, Q, X => (wp2 Φ e).E L H (fun v H1 => Q (.ret v) L H1) (fun x => X x L)
 | .ite t a b, L, H, Q, X => (wp2 Φ t).T L H (fun c H1 => ifP c (wpSs Φ a L H1 Q X) (wpSs Φ b L H1 Q X)) (fun x => X x L)
 | .while t b, L, H, Q, X => ∃ n, whileGo (fun L' H' K => (wp2 Φ t).T L' H' K noX) (fun L' H' K => wpSs Φ b L' H' K noXS) n L H Q
 | .for j k src b, L, H, Q, X => (wp2 Φ src).E L H (fun v H1 => pSrc k v H1 fun items st =>
   forGo (fun L' H' K => wpSs Φ b L' H' K X) st j items L H1 Q) (fun x => X x L)
 | .setAttr o x e, L, H, Q, X => (wp2 Φ e).E L H (fun vv H1 => (wp2 Φ o).E L H1 (fun vo H2 => pSetA vo x vv H2 (Q .next L)) (fun x => X x L)) (fun x => X x L)
 | .fail, _, _, _, _ => False
 | .raise x ups, L, H, _, X => X ⟨x, ups⟩ L H
 | .tryR b hs, L, H, Q, X => wpSs Φ b L H Q (fun x L' H' => hndl x L' H' Q hs)
noncomputable def wpSs (Φ : Orc) : List IS → Lc → Hp → QS → XS → Prop
 | [], L, H, Q, _ => Q .next L H
 | s :: r, L, H, Q, X => wpS Φ s L H (nxt (fun L1 H1 => wpSs Φ r L1 H1 Q X) Q) X
end
noncomputable def bdy : IS → List IS
 | .while _ b => b
 | .for _ _ _ b => b
 | .ite _ a _ => a
 | _ => []
structure Fn where
 names : Nat
 params : Nat
 body : List IS
noncomputable def initL (f : Fn) (vs : List V) : Lc := vs.map some ++ List.replicate (f.names - f.params) none
noncomputable def retV : Fl → V
 | .ret v => v
 | _ => .none
noncomputable def wpFn (Φ : Orc) (f : Fn) (vs : List V) (H : Hp) (Q : V → Hp → Prop) (X : XL) : Prop :=
 vs.length = f.params ∧ wpSs Φ f.body (initL f vs) H (fun fl _ H1 => Q (retV fl) H1) (fun x _ H1 => X x H1)
end Mine
namespace Mine
open PySem
structure CC where
 G : List (Str × V)
 mts : List Str
 scope : Scope
 slots : List (Str × Nat)
 nxt : Nat
noncomputable def mapO {α β : Type} (f : α → Option β) : List α → Option (List β)
 | [] => some []
 | a :: r => (f a).bind fun b => (mapO f r).map (b :: ·)
noncomputable def constV : Const → Option V
 | .none => some .none
 | .bool b => some (.bool b)
 | .int i => some (.int i)
 | .str s => if s.length ≤ 2000000 ∧ PyData.strOk s = true then some (.str s) else none
 | _ => none
noncomputable def relab (scope outer : Scope) : Scope :=
 { scope with names := scope.names.map fun (n, k) => if (k == .free && outer.kind == .function && outer.names.lookup n == some .cell) then (n, .cell) else (n, k) }
noncomputable def isCell (y : Str × NameKind) : Bool := y.2 == .cell
noncomputable def okComp (scope outer : Scope) : Bool :=
 scope.kind == .function && (scope.names.all fun y => (y.2 != .local || scope.names.lookup y.1 == some .local) && (y.2 != .free || (outer.kind == .function && outer.names.lookup y.1 == some .cell)))
noncomputable def okVar (scope : Scope) (x : Str) : Bool := (scope.names.lookup x == some .local && (scope.names.filter isCell).isEmpty) || (scope.names.lookup x == some .cell && scope.names.filter isCell == [(x, .cell)])
noncomputable def isComp : Expr → Bool
 | .ListComp .. => true
 | .SetComp .. => true
 | .DictComp .. => true
 | _ => false
noncomputable def isStar : Expr → Bool
 | .Starred .. => true
 | _ => false
noncomputable def plainBase : Expr → Bool
 | .Call .. => false
 | _ => true
noncomputable def onlyIf {α : Type} (b : Bool) (x : Option α) : Option α := match b with | true => x | false => none
theorem onlyIf_some {α : Type} {b : Bool} {x : Option α} {y : α} (h : onlyIf b x = some y) : b = true ∧ x = some y := by cases b with | true => exact ⟨rfl, h⟩ | false => exact no_some h
noncomputable def mtOf (x : Str) : Option Mt := [Mt.append, .count].find? fun m => x == m.name
theorem mtOf_some {x : Str} {m : Mt} (h : mtOf x = some m) : x = m.name := eq_of_beq (List.find?_some (p := fun m : Mt => x == m.name) h)
noncomputable def kindV (c : CC) (x : Str) : Option NameKind := onlyIf (!(x == ("__debug__" : Str))) (c.scope.names.lookup x)
noncomputable def nameV (c : CC) (x : Str) : Option IE := (kindV c x).bind fun k => match k with
 | .globalImplicit => (c.G.lookup x).map .lit
 | .local => (c.slots.lookup x).map .loc
 | .cell => (c.slots.lookup x).map .loc
 | _ => none
noncomputable def globV (c : CC) (x : Str) : Option V := (kindV c x).bind fun k => match k with
 | .globalImplicit => c.G.lookup x
 | _ => none
noncomputable def boolGo (mk : IE → IE → IE) : List IE → Option IE
 | [] => none
 | a :: r => (match r with
  | [] => some a
  | b :: s => (boolGo mk (b :: s)).map (mk a))
noncomputable def oTwo {α β γ : Type} (f : α → β → γ) (x : Option α) (y : Option β) : Option γ := match x with | some a => (match y with | some b => some (f a b) | none => none) | none => none
theorem oTwo_some {α β γ : Type} {f : α → β → γ} {x : Option α} {y : Option β} {z : γ} (h : oTwo f x y = some z) : ∃ a b, x = some a ∧ y = some b ∧ z = f a b := by
 cases x with
 | none => exact no_some h
 | some a => cases y with
  | none => exact no_some h
  | some b => exact ⟨a, b, rfl, rfl, (Option.some.inj h).symm⟩
noncomputable def oThree {α β γ δ : Type} (f : α → β → γ → δ) (x : Option α) (y : Option β) (z : Option γ) : Option δ := match x with | some a => oTwo (f a) y z | none => none
theorem oThree_some {α β γ δ : Type} {f : α → β → γ → δ} {x : Option α} {y : Option β} {z : Option γ} {u : δ} (h : oThree f x y z = some u) : ∃ a b c, x = some a ∧ y = some b ∧ z = some c ∧ u = f a b c := by
 cases x with
 | none => exact no_some h
 | some a => obtain ⟨b, c, h1, h2, h3⟩ := oTwo_some h; exact ⟨a, b, c, rfl, h1, h2, h3⟩
noncomputable def onName {β : Type} (e : Expr) (k : Str → Option β) : Option β := match e with
 | .Name x _ => k x
 | _ => none
theorem onName_some {β : Type} {e : Expr} {k : Str → Option β} {b : β} (h : onName e k = some b) : ∃ x p, e = .Name x p ∧ k x = some b := by
 cases e with
 | Name x p => exact ⟨x, p, rfl, h⟩
 | _ => exact no_some h
noncomputable def on1 {α β : Type} (l : List α) (k : α → Option β) : Option β := match l with
 | [] => none
 | a :: r => (match r with
  | [] => k a
  | _ :: _ => none)
theorem on1_some {α β : Type} {l : List α} {k : α → Option β} {b : β} (h : on1 l k = some b) : ∃ a, l = [a] ∧ k a = some b := by
 cases l with
 | nil => exact no_some h
 | cons a r => cases r with
  | nil => exact ⟨a, rfl, h⟩
  | cons _ _ => exact no_some h
noncomputable def onConst {β : Type} (e : Expr) (k : Const → Option β) : Option β := match e with
 | .Constant c _ _ => k c
 | _ => none
theorem onConst_some {β : Type} {e : Expr} {k : Const → Option β} {b : β} (h : onConst e k = some b) : ∃ c n p, e = .Constant c n p ∧ k c = some b := by
 cases e with
 | Constant c n p => exact ⟨c, n, p, rfl, h⟩
 | _ => exact no_some h
noncomputable def onRet {β : Type} (s : Stmt) (k : Expr → Option β) : Option β := match s with
 | .Return v _ => v.bind k
 | _ => none
theorem onRet_some {β : Type} {s : Stmt} {k : Expr → Option β} {b : β} (h : onRet s k = some b) : ∃ e p, s = .Return (some e) p ∧ k e = some b := by
 cases s with
 | Return v p => cases v with
  | some e => exact ⟨e, p, rfl, h⟩
  | none => exact no_some h
 | _ => exact no_some h
noncomputable def onCall {β : Type} (e : Expr) (k : Expr → List Expr → Option β) : Option β := match e with
 | .Call f as ks _ => (match ks with
  | [] => k f as
  | _ :: _ => none)
 | _ => none
theorem onCall_some {β : Type} {e : Expr} {k : Expr → List Expr → Option β} {b : β} (h : onCall e k = some b) : ∃ f as p, e = .Call f as [] p ∧ k f as = some b := by
 cases e with
 | Call f as ks p => cases ks with
  | nil => exact ⟨f, as, p, rfl, h⟩
  | cons _ _ => exact no_some h
 | _ => exact no_some h
noncomputable def on2 {α β : Type} (l : List α) (k : α → α → Option β) : Option β := match l with
 | [] => none
 | a :: r => on1 r (k a)
theorem on2_some {α β : Type} {l : List α} {k : α → α → Option β} {b : β} (h : on2 l k = some b) : ∃ a c, l = [a, c] ∧ k a c = some b := by
 cases l with
 | nil => exact no_some h
 | cons a r =>
  refine e1_2 (on1_some h) fun c e_2 h => ?_
  obtain rfl := e_2
  exact ⟨a, c, rfl, h⟩
noncomputable def srcK : V → Option SrcK
 | .ty t => (match t with
  | .range => some .range
  | .reversed => some .rev
  | _ => none)
 | _ => none
noncomputable def srcE (f : Expr → Option IE) (k : SrcK) (as : List Expr) : Option (SrcK × IE) := match as with
 | [] => none
 | a :: r => onlyIf (!isStar a) (match k with
  | .range => (match r with
   | [] => (f a).map fun v => (k, v)
   | b :: s => onlyIf (!isStar b && s.isEmpty) (oTwo (fun v w => (.range2, .tup [v, w])) (f a) (f b)))
  | _ => onlyIf r.isEmpty ((f a).map fun v => (k, v)))
noncomputable def srcN (c : CC) (e : Expr) : Option (SrcK × List Expr) := onCall e fun f as => onName f fun g => ((globV c g).bind srcK).map fun k => (k, as)
noncomputable def compSrc (f : Expr → Option IE) (c : CC) (e : Expr) : Option (SrcK × IE) := match srcN c e with
 | some ka => srcE f ka.1 ka.2
 | none => (f e).map fun v => (SrcK.val, v)
noncomputable def methE (f : Expr → Option IE) (m : Mt) (args : List Expr) (o : Option IE) : Option IE := on1 args fun a => oTwo (fun v i => .meth v m [i]) o (f a)
noncomputable def innerC (c : CC) (scope : Scope) (x : Str) : CC := { c with scope := relab scope c.scope, slots := (x, c.nxt) :: c.slots, nxt := c.nxt + 1 }
noncomputable def optE (f : Expr → Option IE) : Option Expr → Option (Option IE)
 | none => some none
 | some e => (f e).map some
noncomputable def subE (f : Expr → Option IE) (o i : Expr) : Option IE := match i with
 | .Slice lo hi st _ => onlyIf st.isNone (oThree IE.slice (f o) (optE f lo) (optE f hi))
 | _ => oTwo IE.sub (f o) (f i)
noncomputable def cUn (op : UnaryOp) (x : Option IE) : Option IE := match op with
 | .USub => x.map .neg
 | .Not => x.map .not
 | _ => none
noncomputable def cBool (op : BoolOp) (vs : Option (List IE)) : Option IE := vs.bind fun vs => match op with
 | .And => boolGo .and vs
 | .Or => boolGo .or vs
noncomputable def cCmp (f : Expr → Option IE) (l : Option IE) (ops : List CmpOp) (rs : List Expr) : Option IE := match ops with
 | [] => none
 | op :: ops => (match ops with
  | [] => on1 rs fun r => oTwo (fun a b => .cmp a op b) l (f r)
  | op' :: _ => onlyIf (ops.length.beq 1) (on2 rs fun r r' => oThree (fun a b d => .cmp2 a op b op' d) l (f r) (f r')))
noncomputable def isBk : Option V → Bool
 | some v => (match v with
  | .bk => true
  | _ => false)
 | none => false
noncomputable def cCall (f : Expr → Option IE) (c : CC) (fn : Expr) (args : List Expr) (pos : Pos) : Option IE := onlyIf (!args.any isStar && args.length.ble 20) (match fn with
 | .Name x _ => (match isBk (globV c x) with
  | true => onlyIf args.isEmpty (some .new)
  | false => oTwo IE.call (globV c x) (mapO f args))
 | .Attribute o name apos => onlyIf (plainBase o && apos.endLine.beq pos.line) (match mtOf name with
  | some m => methE f m args (f o)
  | none => onlyIf (c.mts.contains name) (oTwo (fun v as => .mcall v name as) (f o) (mapO f args)))
 | _ => none)
noncomputable def okC (c : CC) (scope : Scope) (x : Str) (a : Int) : Bool := a == 0 && okComp scope c.scope && okVar scope x && (scope.names.all fun y => y.2 != .local || y.1 == x || (c.slots.lookup y.1).isNone) && (c.slots.all fun p => p.2 < c.nxt)
noncomputable def isTup : Expr → Bool
 | .Tuple .. => true
 | _ => false
noncomputable def onTup {β : Type} (e : Expr) (k : List Expr → Option β) : Option β := match e with
 | .Tuple es _ _ => k es
 | _ => none
theorem onTup_some {β : Type} {e : Expr} {k : List Expr → Option β} {b : β} (h : onTup e k = some b) : ∃ es n p, e = .Tuple es n p ∧ k es = some b := by
 cases e with
 | Tuple es n p => exact ⟨es, n, p, rfl, h⟩
 | _ => exact no_some h
noncomputable def innerC2 (c : CC) (scope : Scope) (x y : Str) : CC := { c with scope := relab scope c.scope, slots := (x, c.nxt) :: (y, c.nxt + 1) :: c.slots, nxt := c.nxt + 2 }
noncomputable def okC2 (c : CC) (scope : Scope) (x y : Str) (a : Int) : Bool := a == 0 && okComp scope c.scope && (scope.names.lookup x == some .local && scope.names.lookup y == some .local && !(x == y) && (scope.names.filter isCell).isEmpty) && (scope.names.all fun z => z.2 != .local || z.1 == x || z.1 == y || (c.slots.lookup z.1).isNone) && (c.slots.all fun p => p.2 < c.nxt)
noncomputable def cLc (f : CC → Expr → Option IE) (c : CC) (elt : Expr) (gens : List Comprehension) (scope : Scope) : Option IE := on1 gens fun g => match isTup g.target with
 | true => onTup g.target fun ts => on2 ts fun tx ty => onName tx fun x => onName ty fun y => onlyIf (okC2 c scope x y g.is_async && g.ifs.isEmpty) (oTwo (fun ks e => .comp2 e c.nxt ks.1 ks.2) (compSrc (f c) c g.iter) (f (innerC2 c scope x y) elt))
 | false => onName g.target fun x => onlyIf (okC c scope x g.is_async && g.ifs.isEmpty) (oTwo (fun ks e => .comp e c.nxt ks.1 ks.2) (compSrc (f c) c g.iter) (f (innerC c scope x) elt))
noncomputable def stepE (f : CC → Expr → Option IE) (c : CC) (e : Expr) : Option IE := match e with
 | .Constant k _ _ => (constV k).map .lit
 | .Name x _ => nameV c x
 | .BinOp l op r _ => oTwo (IE.bin op) (f c l) (f c r)
 | .UnaryOp op x _ => cUn op (f c x)
 | .BoolOp op vs _ => cBool op (mapO (f c) vs)
 | .IfExp t a b _ => oThree IE.ite (f c t) (f c a) (f c b)
 | .Compare l ops rs _ => cCmp (f c) (f c l) ops rs
 | .Tuple es _ _ => onlyIf (!es.any isStar) ((mapO (f c) es).map .tup)
 | .List es _ => onlyIf (!es.any isStar) ((mapO (f c) es).map .lst)
 | .Call fn args ks pos => onlyIf ks.isEmpty (cCall (f c) c fn args pos)
 | .Subscript o i _ => subE (f c) o i
 | .ListComp elt gens scope _ => cLc f c elt gens scope
 | .Attribute o x _ => onlyIf (fldOk x && plainBase o) ((f c o).map fun v => .attr v x)
 | .Dict ks vs _ => onlyIf (ks.isEmpty && vs.isEmpty) (some .dct)
 | _ => none
noncomputable def compE : Nat → CC → Expr → Option IE
 | 0 => fun _ _ => none
 | n + 1 => stepE (compE n)
noncomputable def slotV (c : CC) (x : Str) : Option Nat := (c.scope.names.lookup x).bind fun k => match k with
 | .local => c.slots.lookup x
 | .cell => c.slots.lookup x
 | _ => none
noncomputable def clsU : V → Option (Str × List Str)
 | .cls z ups => some (z, ups)
 | _ => none
noncomputable def ownC (c : CC) (y : Str) : Option (List Str) := ((globV c y).bind clsU).bind fun u => onlyIf (u.1 == y) (some u.2)
noncomputable def isNm : Expr → Bool
 | .Name .. => true
 | _ => false
noncomputable def compR (c : CC) (e : Expr) : Option IE := match isNm e with
 | true => onName e fun x => onlyIf (c.scope.names.lookup x == some .local && !(x == ("__debug__" : Str))) ((c.slots.lookup x).map .loc)
 | false => onConst e fun k => (constV k).map .lit
noncomputable def compH (c : CC) : ExceptHandler → Option (Str × IE)
 | .ExceptHandler ty nm body _ => onlyIf nm.isNone (ty.bind fun t => onName t fun y => (ownC c y).bind fun _ => on1 body fun st => onRet st fun e => (compR c e).map fun ie => (y, ie))
noncomputable def raiseOf (e d : Option Expr) : Option (Str × Const) := match d with
 | some _ => none
 | none => e.bind fun e => onCall e fun f as => onName f fun x => on1 as fun a => onConst a fun k => some (x, k)
theorem raiseOf_some {e d : Option Expr} {x : Str} {k : Const} (h : raiseOf e d = some (x, k)) : ∃ np kn kp cp, e = some (.Call (.Name x np) [.Constant k kn kp] [] cp) ∧ d = none := by
 cases d with
 | some _ => exact no_some h
 | none => cases e with
  | none => exact no_some h
  | some e =>
   refine e3_2 (onCall_some h) fun f as p e_3 h => ?_
   obtain rfl := e_3
   refine e2_2 (onName_some h) fun x' np e_4 h => ?_
   obtain rfl := e_4
   refine e1_2 (on1_some h) fun a e_5 h => ?_
   obtain rfl := e_5
   refine e3_2 (onConst_some h) fun k' kn kp e_6 h => ?_
   obtain rfl := e_6
   cases h
   exact ⟨np, kn, kp, p, rfl, rfl⟩
noncomputable def raiseE (c : CC) (o : Option (Str × Const)) : Option IS := o.bind fun u => onlyIf (constV u.2).isSome ((ownC c u.1).map fun ups => .raise u.1 ups)
noncomputable def cAsg (f : Expr → Option IE) (c : CC) (e t : Expr) : Option IS := match t with
 | .Name x _ => oTwo IS.assign (slotV c x) (f e)
 | .Subscript o i _ => onlyIf (!isComp e) (oThree (fun v o i => IS.setItem o i v) (f e) (f o) (f i))
 | .Attribute o x _ => onlyIf (!isComp e && fldOk x) (oTwo (fun v o => IS.setAttr o x v) (f e) (f o))
 | _ => none
noncomputable def cFor (f : Expr → Option IE) (c : CC) (t iter : Expr) (b : Option (List IS)) : Option IS := onName t fun x => oThree (fun i ks b => .for i ks.1 ks.2 b) (slotV c x) (compSrc f c iter) b
noncomputable def stepS (f : Expr → Option IE) (g : Stmt → Option IS) (c : CC) (st : Stmt) : Option IS := match st with
 | .Expr e _ => onlyIf (!isComp e) ((f e).map .expr)
 | .Assign ts e _ => on1 ts (cAsg f c e)
 | .Return v _ => v.bind fun e => (f e).map .ret
 | .If t a b _ => oThree IS.ite (f t) (mapO g a) (mapO g b)
 | .While t b els _ => onlyIf els.isEmpty (oTwo IS.while (f t) (mapO g b))
 | .For t iter b els _ => onlyIf els.isEmpty (cFor f c t iter (mapO g b))
 | .Raise e cause _ => raiseE c (raiseOf e cause)
 | .Try b hs els fin _ => onlyIf (els.isEmpty && fin.isEmpty && !hs.isEmpty) (oTwo IS.tryR (mapO g b) (mapO (compH c) hs))
 | _ => none
noncomputable def compS : Nat → CC → Stmt → Option IS
 | 0 => fun _ _ => none
 | n + 1 => fun c => stepS (compE n c) (compS n c) c
noncomputable def slotsGo : List Str → Nat → List (Str × Nat)
 | [], _ => []
 | x :: r, k => (x, k) :: slotsGo r (k + 1)
noncomputable def ownNames (params : List Str) (scope : Scope) : List Str :=
 params ++ ((scope.names.filter fun x => (x.2 == .local || x.2 == .cell) && !params.contains x.1).map (·.1))
noncomputable def compFn (G : List (Str × V)) (mts : List Str) (params : List Str) (body : List Stmt) (scope : Scope) : Option Fn :=
 let ns := ownNames params scope
 let c : CC := { G, mts, scope, slots := slotsGo ns 0, nxt := ns.length }
 (mapO (compS 40 c) body).map fun b => { names := ns.length + 3, params := params.length, body := b }
end Mine
namespace Mine
open PySem
section
variable {Φ : Orc} {L : Lc} {H : Hp} {Q : V → Hp → Prop} {P : Bool → Hp → Prop} {X : XL} {QF : QS} {XF : XS}
theorem X_lit {v : V} : (wp2 Φ (.lit v)).E L H Q X = Q v H := rfl
theorem X_loc {i : Nat} : (wp2 Φ (.loc i)).E L H Q X = oKK L[i]? fun v => Q v H := rfl
theorem X_bin {op : Operator} {a b : IE} : (wp2 Φ (.bin op a b)).E L H Q X = (wp2 Φ a).E L H (fun va H1 => (wp2 Φ b).E L H1 (fun vb H2 => pBin op va vb H2 Q) X) X := rfl
theorem X_neg {a : IE} : (wp2 Φ (.neg a)).E L H Q X = (wp2 Φ a).E L H (fun v H1 => oK (intV v) fun i => Q (.int (-i)) H1) X := rfl
theorem negX_int {i : Int} : intV (.int i) = some i := rfl
theorem X_not {a : IE} : (wp2 Φ (.not a)).E L H Q X = (wp2 Φ a).E L H (fun v H1 => tX v fun c => Q (.bool (!c)) H1) X := rfl
theorem Y_not {a : IE} : (wp2 Φ (.not a)).T L H P X = (wp2 Φ a).T L H (fun c H1 => P (!c) H1) X := rfl
theorem X_and {a b : IE} : (wp2 Φ (.and a b)).E L H Q X = (wp2 Φ a).E L H (fun v H1 => tX v fun c => ifP c ((wp2 Φ b).E L H1 Q X) (Q v H1)) X := rfl
theorem Y_and {a b : IE} : (wp2 Φ (.and a b)).T L H P X = (wp2 Φ a).T L H (fun c H1 => ifP c ((wp2 Φ b).T L H1 P X) (P false H1)) X := rfl
theorem X_or {a b : IE} : (wp2 Φ (.or a b)).E L H Q X = (wp2 Φ a).E L H (fun v H1 => tX v fun c => ifP c (Q v H1) ((wp2 Φ b).E L H1 Q X)) X := rfl
theorem Y_or {a b : IE} : (wp2 Φ (.or a b)).T L H P X = (wp2 Φ a).T L H (fun c H1 => ifP c (P true H1) ((wp2 Φ b).T L H1 P X)) X := rfl
theorem X_cmp {a b : IE} {op : CmpOp} : (wp2 Φ (.cmp a op b)).E L H Q X = (wp2 Φ a).E L H (fun va H1 => (wp2 Φ b).E L H1 (fun vb H2 => pCmp op va vb H2 Q) X) X := rfl
theorem X_cmp2 {a b c : IE} {op op' : CmpOp} : (wp2 Φ (.cmp2 a op b op' c)).E L H Q X = (wp2 Φ a).E L H (fun va H1 => (wp2 Φ b).E L H1 (fun vb H2 => pCmp op va vb H2 (fun r H3 =>
   tX r fun t => ifP t ((wp2 Φ c).E L H3 (fun vc H4 => pCmp op' vb vc H4 Q) X) (Q r H3))) X) X := rfl
theorem X_ite {t a b : IE} : (wp2 Φ (.ite t a b)).E L H Q X = (wp2 Φ t).T L H (fun c H1 => ifP c ((wp2 Φ a).E L H1 Q X) ((wp2 Φ b).E L H1 Q X)) X := rfl
theorem Y_ite {t a b : IE} : (wp2 Φ (.ite t a b)).T L H P X = (wp2 Φ t).T L H (fun c H1 => ifP c ((wp2 Φ a).T L H1 P X) ((wp2 Φ b).T L H1 P X)) X := rfl
theorem X_tup {es : List IE} : (wp2 Φ (.tup es)).E L H Q X = wpEs Φ es L H (fun vs H1 => vs.length ≤ 1000000 ∧ Q (.tup vs) H1) X := rfl
theorem X_lst {es : List IE} : (wp2 Φ (.lst es)).E L H Q X = wpEs Φ es L H (fun vs H1 => vs.length ≤ 1000000 ∧ Q (.ref H1.length) (H1 ++ [.list vs])) X := rfl
theorem X_call {f : V} {args : List IE} : (wp2 Φ (.call f args)).E L H Q X = wpEs Φ args L H (fun vs H1 => pCall Φ f vs H1 Q X) X := rfl
theorem X_meth {o : IE} {name : Mt} {args : List IE} : (wp2 Φ (.meth o name args)).E L H Q X = (wp2 Φ o).E L H (fun vo H1 => okMeth H1 vo ∧ wpEs Φ args L H1 (fun vs H2 => pMeth vo name vs H2 Q) X) X := rfl
theorem X_sub {o i : IE} : (wp2 Φ (.sub o i)).E L H Q X = (wp2 Φ o).E L H (fun vo H1 => (wp2 Φ i).E L H1 (fun vi H2 => pSub vo vi H2 Q) X) X := rfl
noncomputable def coEX (Φ : Orc) (elt : IE) (X : XL) : Lc → Hp → (V → Hp → Prop) → Prop := fun L' H' K => (wp2 Φ elt).E L' H' K X
theorem X_comp {elt : IE} {j : Nat} {k : SrcK} {src : IE} : (wp2 Φ (.comp elt j k src)).E L H Q X = (wp2 Φ src).E L H (fun v H1 => pSrc k v H1 fun items st =>
   compGo (coEX Φ elt noX) st j L items [] H1 (fun ys H2 => ys.length ≤ 1000000 ∧ Q (.ref H2.length) (H2 ++ [.list ys]))) X := rfl
theorem Y_lit {v : V} : (wp2 Φ (.lit v)).T L H P X = tX v fun c => P c H := rfl
theorem Y_loc {i : Nat} : (wp2 Φ (.loc i)).T L H P X = oKK L[i]? fun v => tX v fun c => P c H := rfl
theorem Y_cmp {a b : IE} {op : CmpOp} : (wp2 Φ (.cmp a op b)).T L H P X = (wp2 Φ (.cmp a op b)).E L H (fun v H1 => tX v fun c => P c H1) X := rfl
theorem Y_cmp2 {a b c : IE} {op op' : CmpOp} : (wp2 Φ (.cmp2 a op b op' c)).T L H P X = (wp2 Φ (.cmp2 a op b op' c)).E L H (fun v H1 => tX v fun c => P c H1) X := rfl
theorem Y_call {f : V} {args : List IE} : (wp2 Φ (.call f args)).T L H P X = (wp2 Φ (.call f args)).E L H (fun v H1 => tX v fun c => P c H1) X := rfl
theorem Y_sub {o i : IE} : (wp2 Φ (.sub o i)).T L H P X = (wp2 Φ (.sub o i)).E L H (fun v H1 => tX v fun c => P c H1) X := rfl
theorem XEs_nil {R : List V → Hp → Prop} : wpEs Φ [] L H R X = R [] H := rfl
theorem XEs_cons {e : IE} {r : List IE} {R : List V → Hp → Prop} : wpEs Φ (e :: r) L H R X = (wp2 Φ e).E L H (fun v H1 => wpEs Φ r L H1 (fun vs H2 => R (v :: vs) H2) X) X := rfl
theorem Z_expr {e : IE} : wpS Φ (.expr e) L H QF XF = (wp2 Φ e).E L H (fun _ H1 => QF .next L H1) (fun x => XF x L) := rfl
theorem Z_assign {i : Nat} {e : IE} : wpS Φ (.assign i e) L H QF XF = (wp2 Φ e).E L H (fun v H1 => QF .next (L.set i (some v)) H1) (fun x => XF x L) := rfl
theorem Z_ret {e : IE} : wpS Φ (.ret e) L H QF XF = (wp2 Φ e).E L H (fun v H1 => QF (.ret v) L H1) (fun x => XF x L) := rfl
theorem Z_ite {t : IE} {a b : List IS} : wpS Φ (.ite t a b) L H QF XF = (wp2 Φ t).T L H (fun c H1 => ifP c (wpSs Φ a L H1 QF XF) (wpSs Φ b L H1 QF XF)) (fun x => XF x L) := rfl
noncomputable def whTX (Φ : Orc) (t : IE) (XF : XL) : Lc → Hp → (Bool → Hp → Prop) → Prop := fun L' H' K => (wp2 Φ t).T L' H' K XF
noncomputable def whBX (Φ : Orc) (b : List IS) (XF : XS) : Lc → Hp → QS → Prop := fun L' H' K => wpSs Φ b L' H' K XF
theorem Z_while {t : IE} {b : List IS} : wpS Φ (.while t b) L H QF XF = ∃ n, whileGo (whTX Φ t noX) (whBX Φ b noXS) n L H QF := rfl
theorem Z_for {j : Nat} {k : SrcK} {src : IE} {b : List IS} : wpS Φ (.for j k src b) L H QF XF = (wp2 Φ src).E L H (fun v H1 => pSrc k v H1 fun items st =>
   forGo (whBX Φ b XF) st j items L H1 QF) (fun x => XF x L) := rfl
theorem Zs_nil : wpSs Φ [] L H QF XF = QF .next L H := rfl
noncomputable def sqX (Φ : Orc) (r : List IS) (QF : QS) (XF : XS) : QS := nxt (fun L1 H1 => wpSs Φ r L1 H1 QF XF) QF
theorem sqX_next {r : List IS} : sqX Φ r QF XF .next L H = wpSs Φ r L H QF XF := rfl
theorem Z_raise {x : Str} {ups : List Str} : wpS Φ (.raise x ups) L H QF XF = XF ⟨x, ups⟩ L H := rfl
noncomputable def hnX (hs : List (Str × IE)) (QF : QS) : XS := fun x L' H' => hndl x L' H' QF hs
theorem Z_try {b : List IS} {hs : List (Str × IE)} : wpS Φ (.tryR b hs) L H QF XF = wpSs Φ b L H QF (hnX hs QF) := rfl
theorem sqX_ret {r : List IS} {v : V} : sqX Φ r QF XF (.ret v) L H = QF (.ret v) L H := rfl
theorem Zs_cons {s : IS} {r : List IS} : wpSs Φ (s :: r) L H QF XF = wpS Φ s L H (sqX Φ r QF XF) XF := rfl
theorem zs_cons {s : IS} {r : List IS} (h : wpS Φ s L H (sqX Φ r QF XF) XF) : wpSs Φ (s :: r) L H QF XF := h
noncomputable def wkX (test : Lc → Hp → (Bool → Hp → Prop) → Prop) (body : Lc → Hp → QS → Prop) (n : Nat) (Q : QS) : QS := lop (fun L1 H2 => whileGo test body n L1 H2 Q) Q
noncomputable def fkX (body : Lc → Hp → QS → Prop) (st : Hp → Prop) (j : Nat) (r : List V) (Q : QS) : QS := lop (fun L1 H1 => st H1 ∧ forGo body st j r L1 H1 Q) Q
end
section
variable {Φ : Orc} {t : IE} {b : List IS} {XF : XS} {X : XL} {test : Lc → Hp → (Bool → Hp → Prop) → Prop} {body : Lc → Hp → QS → Prop} {n : Nat} {Q : QS} {L : Lc} {H : Hp} {st : Hp → Prop} {j : Nat} {x : V} {r : List V} {v : V} {acc : List V} {QL : List V → Hp → Prop} {elt : IE}
theorem whX_s : whileGo (whTX Φ t X) (whBX Φ b XF) (n + 1) L H Q = (wp2 Φ t).T L H (fun c H1 => ifP c (wpSs Φ b L H1 (wkX (whTX Φ t X) (whBX Φ b XF) n Q) XF) (Q .next L H1)) X := rfl
theorem wkX_next : wkX test body n Q .next L H = whileGo test body n L H Q := rfl
theorem wkX_ret : wkX test body n Q (.ret v) L H = Q (.ret v) L H := rfl
theorem foX_nil : forGo body st j [] L H Q = Q .next L H := rfl
theorem foX_cons : forGo (whBX Φ b XF) st j (x :: r) L H Q = wpSs Φ b (L.set j (some x)) H (fkX (whBX Φ b XF) st j r Q) XF := rfl
theorem fkX_next : fkX body st j r Q .next L H = (st H ∧ forGo body st j r L H Q) := rfl
theorem fkX_ret : fkX body st j r Q (.ret v) L H = Q (.ret v) L H := rfl
theorem coX_cons : compGo (coEX Φ elt X) st j L (x :: r) acc H QL = (wp2 Φ elt).E (L.set j (some x)) H (fun y H2 => st H2 ∧ compGo (coEX Φ elt X) st j L r (acc ++ [y]) H2 QL) X := rfl
theorem X_comp2 {Q : V → Hp → Prop} {k : SrcK} {src : IE} : (wp2 Φ (.comp2 elt j k src)).E L H Q X = (wp2 Φ src).E L H (fun v H1 => pSrc k v H1 fun items st =>
   compGoB (coEX Φ elt noX) st (bd2 j L) items [] H1 (fun ys H2 => ys.length ≤ 1000000 ∧ Q (.ref H2.length) (H2 ++ [.list ys]))) X := rfl
theorem co2_cons {a b : V} : compGoB (coEX Φ elt X) st (bd2 j L) (.tup [a, b] :: r) acc H QL = (wp2 Φ elt).E ((L.set j (some a)).set (j + 1) (some b)) H (fun y H2 => st H2 ∧ compGoB (coEX Φ elt X) st (bd2 j L) r (acc ++ [y]) H2 QL) X := rfl
theorem oKK_some {α : Type} {a : α} {P : α → Prop} : oKK (some (some a)) P = P a := rfl
theorem oK_some {α : Type} {a : α} {P : α → Prop} : oK (some a) P = P a := rfl
theorem tX_bool {b : Bool} {P : Bool → Prop} : tX (.bool b) P = P b := rfl
theorem iX_t {A B : Prop} : ifP true A B = A := rfl
theorem iX_f {A B : Prop} : ifP false A B = B := rfl
theorem iX_d {p : Prop} [Decidable p] {A B : Prop} : ifP (decide p) A B = ((p → A) ∧ (¬ p → B)) := by by_cases h : p <;> simp [ifP, h]
theorem iX_p {p : Prop} [Decidable p] {A B : Prop} (h1 : p → A) (h2 : ¬ p → B) : ifP (decide p) A B := by by_cases h : p <;> simp only [h, decide_true, decide_false, ifP]; exact h1 h; exact h2 h
theorem iX_b {c : Bool} {A B : Prop} (h1 : c = true → A) (h2 : c = false → B) : ifP c A B := by cases c; exact h2 rfl; exact h1 rfl
end
section
variable {Φ : Orc} {H : Hp} {Q : V → Hp → Prop} {X : XL} {i j : Int} {m n : Nat} {x y : Str} {l : List V} {ns : List Int} {a v : V} {b c : Bool}
theorem q_add : pBin .Add (.int i) (.int j) H Q = Q (.int (i + j)) H := rfl
theorem q_sub : pBin .Sub (.int i) (.int j) H Q = Q (.int (i - j)) H := rfl
theorem q_mul : pBin .Mult (.int i) (.int j) H Q = (((-(2 ^ 64) < i ∧ i < 2 ^ 64) ∨ (-(2 ^ 64) < j ∧ j < 2 ^ 64)) ∧ Q (.int (i * j)) H) := rfl
theorem q_div : pBin .FloorDiv (.int i) (.int j) H Q = ((0 < j ∧ j < 2 ^ 128) ∧ Q (.int (i / j)) H) := rfl
theorem q_mod : pBin .Mod (.int i) (.int j) H Q = ((0 < j ∧ j < 2 ^ 128) ∧ Q (.int (i % j)) H) := rfl
theorem q_pow : pBin .Pow (.int i) (.int j) H Q = ((0 ≤ j ∧ j ≤ 1000000 ∧ i.natAbs < 2 ^ 64) ∧ Q (.int (i ^ j.toNat)) H) := rfl
theorem q_list : pBin .Add (.ref m) (.ref n) H Q = oK (listAt H m) fun xs => oK (listAt H n) fun ys => xs.length + ys.length ≤ 1000000 ∧ Q (.ref H.length) (H ++ [.list (xs ++ ys)]) := rfl
theorem q_eq : pCmp .Eq (.int i) (.int j) H Q = Q (.bool (decide (i = j))) H := rfl
theorem q_ne : pCmp .NotEq (.int i) (.int j) H Q = Q (.bool (decide (i ≠ j))) H := by
 show Q (.bool (!decide (i = j))) H = _
 rw [decide_not]
theorem q_is : pCmp .Is a .none H Q = Q (.bool (isNoneV a)) H := rfl
theorem q_isnot : pCmp .IsNot a .none H Q = Q (.bool (!isNoneV a)) H := rfl
theorem q_eqs : pCmp .Eq (.str x) (.str y) H Q = Q (.bool (x == y)) H := rfl
theorem q_nes : pCmp .NotEq (.str x) (.str y) H Q = Q (.bool (!(x == y))) H := rfl
theorem q_lt : pCmp .Lt (.int i) (.int j) H Q = Q (.bool (decide (i < j))) H := rfl
theorem q_le : pCmp .LtE (.int i) (.int j) H Q = Q (.bool (decide (i ≤ j))) H := rfl
theorem q_gt : pCmp .Gt (.int i) (.int j) H Q = Q (.bool (decide (j < i))) H := rfl
theorem q_ge : pCmp .GtE (.int i) (.int j) H Q = Q (.bool (decide (j ≤ i))) H := rfl
theorem q_in : pCmp .In a (.tup l) H Q = oK (memV a l) fun c => Q (.bool c) H := rfl
theorem q_inl : pCmp .In a (.ref n) H Q = oK (listAt H n) fun l => oK (memV a l) fun c => Q (.bool c) H := rfl
theorem q_nin : pCmp .NotIn a (.tup l) H Q = oK (memV a l) fun c => Q (.bool (!c)) H := rfl
theorem q_stup : pSub (.tup l) (.int i) H Q = oK (idx l i) fun v => Q v H := rfl
theorem q_sref : pSub (.ref n) (.int i) H Q = oK (listAt H n) fun l => oK (idx l i) fun v => Q v H := rfl
theorem q_sscr : pSub (.scr ns) (.int i) H Q = oK (idxP ns i) fun v => Q (.int v) H := rfl
theorem q_fn {vs : List V} : pCall Φ (.fn x) vs H Q X = Φ x vs H Q X := rfl
theorem q_lentup : pCall Φ (.bi .len) [.tup l] H Q X = Q (.int (l.length : Int)) H := rfl
theorem q_lenref : pCall Φ (.bi .len) [.ref n] H Q X = oK (listAt H n) fun l => Q (.int (l.length : Int)) H := rfl
theorem q_lenscr : pCall Φ (.bi .len) [.scr ns] H Q X = Q (.int (ns.length : Int)) H := rfl
theorem q_isi {t : Ty} : pCall Φ (.bi .isinstance) [v, .ty t] H Q X = oK (isInstH H v t) fun c => Q (.bool c) H := rfl
theorem q_max : pCall Φ (.bi .max) [.int i, .int j] H Q X = Q (.int (max i j)) H := rfl
theorem q_any : pCall Φ (.bi .any) [.ref n] H Q X = oK (listAt H n) fun l => oK (allBools l) fun bs => Q (.bool (bs.any id)) H := rfl
theorem q_min : pCall Φ (.bi .min) [.int i, .int j] H Q X = Q (.int (min i j)) H := rfl
theorem q_listc : pCall Φ (.ty .list) [.ref n] H Q X = oK (listAt H n) fun l => Q (.ref H.length) (H ++ [.list l]) := rfl
theorem q_sdict : pSub (.ref n) (.str x) H Q = oK (dictAt H n) fun es => oK (es.lookup x) fun v => Q v H := rfl
theorem q_setd {QH : Hp → Prop} : pSet (.ref n) (.str x) v H QH = oK (dictAt H n) fun es => es.length ≤ 100000 ∧ QH (H.set n (.dict ((x, v) :: es))) := rfl
theorem q_count : pMeth (.ref n) .count [v] H Q = oK (listAt H n) fun l => oK (strsOf l) fun ys => oK (strV v) fun y => Q (.int ((ys.count y : Nat) : Int)) H := rfl
theorem q_attr : pAttr (.ref n) x H Q = oK (nsAt H n) fun p => oK (p.2.lookup x) fun v => Q v H := rfl
theorem q_seta {QH : Hp → Prop} : pSetA (.ref n) x v H QH = oK (nsAt H n) fun p => p.2.length ≤ 100000 ∧ QH (H.set p.1 (.ns ((x, v) :: p.2))) := rfl
theorem u_range2 {R : List V → (Hp → Prop) → Prop} : pSrc .range2 (.tup [.int i, .int j]) H R = ((-(2 ^ 62) ≤ i ∧ i < 2 ^ 62 ∧ -(2 ^ 62) ≤ j ∧ j < 2 ^ 62 ∧ j - i ≤ 1000000) ∧ R (rangeL i j) (fun _ => True)) := rfl
theorem rV_ref : refV (.ref n) = some n := rfl
theorem X_attr {L : Lc} {o : IE} : (wp2 Φ (.attr o x)).E L H Q X = (wp2 Φ o).E L H (fun vo H1 => pAttr vo x H1 Q) X := rfl
theorem X_mcall {L : Lc} {o : IE} {args : List IE} : (wp2 Φ (.mcall o x args)).E L H Q X = (wp2 Φ o).E L H (fun vo H1 => oK (refV vo) fun i => oK (nsAt H1 i) fun _ => wpEs Φ args L H1 (fun vs H2 => Φ (Str.ofString "Book." ++ x) (.ref i :: vs) H2 Q X) X) X := rfl
theorem X_new {L : Lc} : (wp2 Φ .new).E L H Q X = Φ "Book.__init__" [.ref (H.length + 1)] (H ++ [.ns []] ++ [.inst H.length]) (fun v H1 => isNoneV v = true ∧ Q (.ref (H.length + 1)) H1) X := rfl
theorem X_dct {L : Lc} : (wp2 Φ .dct).E L H Q X = Q (.ref H.length) (H ++ [.dict []]) := rfl
theorem Z_seta {L : Lc} {QF : QS} {XF : XS} {o e : IE} : wpS Φ (.setAttr o x e) L H QF XF = (wp2 Φ e).E L H (fun vv H1 => (wp2 Φ o).E L H1 (fun vo H2 => pSetA vo x vv H2 (QF .next L)) (fun x => XF x L)) (fun x => XF x L) := rfl
theorem Y_attr {L : Lc} {o : IE} {P : Bool → Hp → Prop} : (wp2 Φ (.attr o x)).T L H P X = (wp2 Φ (.attr o x)).E L H (fun v H1 => tX v fun c => P c H1) X := rfl
theorem Y_mcall {L : Lc} {o : IE} {args : List IE} {P : Bool → Hp → Prop} : (wp2 Φ (.mcall o x args)).T L H P X = (wp2 Φ (.mcall o x args)).E L H (fun v H1 => tX v fun c => P c H1) X := rfl
theorem q_int : pCall Φ (.ty .int) [.bool b] H Q X = Q (.int (if b then 1 else 0)) H := rfl
theorem q_tuple : pCall Φ (.ty .tuple) [.ref n] H Q X = oK (listAt H n) fun l => Q (.tup l) H := rfl
theorem q_append : pMeth (.ref n) .append [v] H Q = oK (listAt H n) fun l => l.length ≤ 1000000 ∧ Q .none (H.set n (.list (l ++ [v]))) := rfl
theorem q_set {QH : Hp → Prop} : pSet (.ref n) (.int i) v H QH = oK (listAt H n) fun l => (0 ≤ i ∧ i < (l.length : Int)) ∧ QH (H.set n (.list (l.set i.toNat v))) := rfl
theorem Z_set {L : Lc} {QF : QS} {XF : XS} {o k e : IE} : wpS Φ (.setItem o k e) L H QF XF = (wp2 Φ e).E L H (fun vv H1 => (wp2 Φ o).E L H1 (fun vo H2 => (wp2 Φ k).E L H2 (fun vk H3 => pSet vo vk vv H3 (QF .next L)) (fun x => XF x L)) (fun x => XF x L)) (fun x => XF x L) := rfl
theorem q_ninl : pCmp .NotIn a (.ref n) H Q = oK (listAt H n) fun l => oK (memV a l) fun c => Q (.bool (!c)) H := rfl
theorem u_tup {R : List V → (Hp → Prop) → Prop} : pSrc .val (.tup l) H R = R l (fun _ => True) := rfl
theorem u_ref {R : List V → (Hp → Prop) → Prop} : pSrc .val (.ref n) H R = oK (listAt H n) fun l => R l (fun H' => listAt H' n = some l) := rfl
theorem q_slice {lo hi : V} : pSlice (.ref n) lo hi H Q = oK (listAt H n) fun xs => oK (cutL lo hi xs) fun ys => Q (.ref H.length) (H ++ [.list ys]) := rfl
theorem X_slice {L : Lc} {o : IE} {lo hi : Option IE} : (wp2 Φ (.slice o lo hi)).E L H Q X = (wp2 Φ o).E L H (fun vo H1 => wpO Φ lo L H1 (fun vl H2 => wpO Φ hi L H2 (fun vh H3 => pSlice vo vl vh H3 Q) X) X) X := rfl
theorem XO_none {L : Lc} : wpO Φ none L H Q X = Q .none H := rfl
theorem XO_some {L : Lc} {e : IE} : wpO Φ (some e) L H Q X = (wp2 Φ e).E L H Q X := rfl
theorem u_rev {R : List V → (Hp → Prop) → Prop} : pSrc .rev (.ref n) H R = oK (listAt H n) fun l => R l.reverse (fun H' => listAt H' n = some l) := rfl
theorem u_range {R : List V → (Hp → Prop) → Prop} : pSrc .range (.int i) H R = ((-(2 ^ 62) ≤ i ∧ i ≤ 1000000) ∧ R (rangeL 0 i) (fun _ => True)) := rfl
end
theorem fn_of {Φ : Orc} {f : Fn} {vs : List V} {H : Hp} {Q : V → Hp → Prop} {X : XL} (h1 : vs.length = f.params) (h : wpSs Φ f.body (initL f vs) H (fun fl _ H1 => Q (retV fl) H1) (fun x _ H1 => X x H1)) : wpFn Φ f vs H Q X := ⟨h1, h⟩
theorem retV_ret {v : V} : retV (.ret v) = v := rfl
theorem retV_next : retV .next = .none := rfl
theorem idx_0 {α : Type} {l : List α} : idx l 0 = l[0]? := rfl
theorem idx_1 {α : Type} {l : List α} : idx l 1 = l[1]? := rfl
theorem idx_2 {α : Type} {l : List α} : idx l 2 = l[2]? := rfl
theorem idx_3 {α : Type} {l : List α} : idx l 3 = l[3]? := rfl
theorem idx_4 {α : Type} {l : List α} : idx l 4 = l[4]? := rfl
theorem idx_5 {α : Type} {l : List α} : idx l 5 = l[5]? := rfl
theorem iP_0 {α : Type} {l : List α} : idxP l 0 = l[0]? := rfl
theorem iP_1 {α : Type} {l : List α} : idxP l 1 = l[1]? := rfl
theorem iP_2 {α : Type} {l : List α} : idxP l 2 = l[2]? := rfl
theorem iP_3 {α : Type} {l : List α} : idxP l 3 = l[3]? := rfl
noncomputable def ext (n : Str) (C : List V → Hp → (V → Hp → Prop) → XL → Prop) (Φ : Orc) : Orc := fun x vs H Q X => if x == n then C vs H Q X else Φ x vs H Q X
noncomputable def noΦ : Orc := fun _ _ _ _ _ => False
section
variable {H : Hp} {Q : V → Hp → Prop} {Φ : Orc} {X : XL} {x : Str} {v : V} {R : List V → (Hp → Prop) → Prop}
theorem q_lenstr : pCall Φ (.bi .len) [.str x] H Q X = Q (.int (x.length : Int)) H := rfl
theorem q_sstr {i : Int} : pSub (.str x) (.int i) H Q = oK (idxP x.cps.toList i) fun c => Q (.str ⟨#[c]⟩) H := rfl
theorem q_ins : pCmp .In v (.str x) H Q = oK (strV v) fun y => Q (.bool (Txt.contains x y)) H := rfl
theorem q_nins : pCmp .NotIn v (.str x) H Q = oK (strV v) fun y => Q (.bool (!Txt.contains x y)) H := rfl
theorem q_adds {y : Str} : pBin .Add (.str x) (.str y) H Q = (x.length + y.length ≤ 1000000 ∧ Q (.str (x ++ y)) H) := rfl
theorem sV_str : strV (.str x) = some x := rfl
theorem u_str : pSrc .val (.str x) H R = (x.cps.all (· < 128) = true ∧ R (x.cps.toList.map fun c => V.str ⟨#[c]⟩) (fun _ => True)) := rfl
end
theorem nsAt_some {H : Hp} {i : Nat} {p : Nat × List (Str × V)} (h : nsAt H i = some p) : H[i]? = some (.inst p.1) ∧ H[p.1]? = some (.ns p.2) := by
 refine e1_2 (Option.bind_eq_some_iff.mp h) fun j h1 h => ?_
 refine e1_2 (Option.map_eq_some_iff.mp h) fun fs h2 e_7 => ?_
 obtain rfl := e_7
 refine e1_2 (Option.bind_eq_some_iff.mp h1) fun o e1 h1 => ?_
 refine e1_2 (Option.bind_eq_some_iff.mp h2) fun o2 e2 h2 => ?_
 have o1 : o = .inst j := by
  cases o with
  | inst _ => exact congrArg O.inst (Option.some.inj h1)
  | _ => exact no_some h1
 have o2' : o2 = .ns fs := by
  cases o2 with
  | ns _ => exact congrArg O.ns (Option.some.inj h2)
  | _ => exact no_some h2
 exact ⟨by rw [e1, o1], by rw [e2, o2']⟩
theorem listAt_pre {H H' : Hp} {i : Nat} {l : List V} (p : H <+: H') (h : listAt H i = some l) : listAt H' i = some l := by
 obtain ⟨Δ, rfl⟩ := p
 refine e1_2 (Option.bind_eq_some_iff.mp h) fun o e h => ?_
 unfold listAt
 rw [List.getElem?_append_left (List.getElem?_eq_some_iff.mp e).1, e]
 exact h
theorem listAt_new {H : Hp} {l : List V} : listAt (H ++ [.list l]) H.length = some l := by simp [listAt, lstO]
theorem set_new {H : Hp} {l m : List V} : (H ++ [O.list l]).set H.length (.list m) = H ++ [.list m] := by simp
theorem pre_new {H : Hp} {o : O} : H <+: H ++ [o] := List.prefix_append _ _
end Mine
set_option compiler.extract_closed false in
local macro_rules
 | `(tactic| simp_arith only [$a,*]) => do
  let p ← ("Mine.X_lit Mine.X_loc Mine.X_bin Mine.negX_int Mine.X_neg Mine.X_not Mine.Y_not Mine.X_and Mine.Y_and Mine.X_or Mine.Y_or Mine.X_cmp Mine.X_cmp2 Mine.X_ite Mine.Y_ite Mine.X_tup Mine.X_lst Mine.X_call Mine.X_meth Mine.X_sub Mine.X_comp Mine.Y_lit Mine.Y_loc Mine.Y_cmp Mine.Y_cmp2 Mine.Y_call Mine.Y_sub Mine.XEs_nil Mine.XEs_cons Mine.Z_expr Mine.Z_assign Mine.Z_ret Mine.Z_ite Mine.Z_for Mine.Z_raise Mine.Zs_nil Mine.sqX_next Mine.sqX_ret Mine.Zs_cons Mine.wkX_next Mine.wkX_ret Mine.fkX_next Mine.fkX_ret Mine.oKK_some Mine.oK_some Mine.tX_bool Mine.iX_t Mine.iX_f Mine.iX_d Mine.q_add Mine.q_sub Mine.q_mul Mine.q_div Mine.q_mod Mine.q_pow Mine.q_list Mine.q_eq Mine.q_ne Mine.q_eqs Mine.q_nes Mine.q_lt Mine.q_le Mine.q_gt Mine.q_ge Mine.q_in Mine.q_inl Mine.q_nin Mine.q_stup Mine.q_sref Mine.q_sscr Mine.q_fn Mine.q_lentup Mine.q_lenref Mine.q_lenscr Mine.q_isi Mine.q_int Mine.q_tuple Mine.q_append Mine.q_set Mine.Z_set Mine.q_ninl Mine.u_tup Mine.u_ref Mine.u_range Mine.q_slice Mine.X_slice Mine.XO_none Mine.XO_some Mine.u_rev Mine.q_is Mine.q_isnot Mine.Z_try Mine.q_any Mine.q_max Mine.X_comp2 Mine.q_min Mine.q_listc Mine.q_sdict Mine.q_setd Mine.q_count Mine.q_attr Mine.q_seta Mine.u_range2 Mine.rV_ref Mine.X_attr Mine.X_mcall Mine.X_new Mine.X_dct Mine.Z_seta Mine.Y_attr Mine.Y_mcall Mine.retV_ret Mine.retV_next".splitOn " ").toArray.mapM fun n => `(Lean.Parser.Tactic.simpLemma| ↓ $(Lean.mkIdent n.toName):term)
  let q ← ("List.getElem?_cons_zero List.getElem?_cons_succ List.set_cons_zero List.set_cons_succ Bool.not_true Bool.not_false Mine.idx_0 Mine.idx_1 Mine.idx_2 Mine.idx_3 Mine.idx_4 Mine.idx_5 Mine.iP_0 Mine.iP_1 Mine.iP_2 Mine.iP_3 Int.reduceAdd Int.reduceSub Int.reduceMul Int.reduceNeg Int.reducePow Int.reduceLT Int.reduceLE Int.reduceEq Int.reduceNe Int.reduceToNat Int.reduceAbs Nat.reduceAdd Nat.reduceLT Nat.reduceLeDiff Nat.reducePow Nat.reduceLT List.length_cons List.length_nil true_implies false_implies not_true_eq_false not_false_eq_true and_true true_and and_self or_true true_or decide_true decide_false exists_eq_left' Option.some.injEq".splitOn " ").toArray.mapM fun n => `(Lean.Parser.Tactic.simpLemma| $(Lean.mkIdent n.toName):term)
  `(tactic| simp only [$[$p],*, $[$q],*, $a,*])
namespace Mine
open PySem
theorem sw_once_once : ((Str.ofString "once") == (Str.ofString "once")) = true := by decide
theorem sw_once_every : ((Str.ofString "once") == (Str.ofString "every")) = false := by decide
theorem sw_once_week : ((Str.ofString "once") == (Str.ofString "week")) = false := by decide
theorem sw_once_month : ((Str.ofString "once") == (Str.ofString "month")) = false := by decide
theorem sw_once_but : ((Str.ofString "once") == (Str.ofString "but")) = false := by decide
theorem sw_every_once : ((Str.ofString "every") == (Str.ofString "once")) = false := by decide
theorem sw_every_every : ((Str.ofString "every") == (Str.ofString "every")) = true := by decide
theorem sw_every_week : ((Str.ofString "every") == (Str.ofString "week")) = false := by decide
theorem sw_every_month : ((Str.ofString "every") == (Str.ofString "month")) = false := by decide
theorem sw_every_but : ((Str.ofString "every") == (Str.ofString "but")) = false := by decide
theorem sw_week_once : ((Str.ofString "week") == (Str.ofString "once")) = false := by decide
theorem sw_week_every : ((Str.ofString "week") == (Str.ofString "every")) = false := by decide
theorem sw_week_week : ((Str.ofString "week") == (Str.ofString "week")) = true := by decide
theorem sw_week_month : ((Str.ofString "week") == (Str.ofString "month")) = false := by decide
theorem sw_week_but : ((Str.ofString "week") == (Str.ofString "but")) = false := by decide
theorem sw_month_once : ((Str.ofString "month") == (Str.ofString "once")) = false := by decide
theorem sw_month_every : ((Str.ofString "month") == (Str.ofString "every")) = false := by decide
theorem sw_month_week : ((Str.ofString "month") == (Str.ofString "week")) = false := by decide
theorem sw_month_month : ((Str.ofString "month") == (Str.ofString "month")) = true := by decide
theorem sw_month_but : ((Str.ofString "month") == (Str.ofString "but")) = false := by decide
theorem sw_from_from : ((Str.ofString "from") == (Str.ofString "from")) = true := by decide
theorem sw_from_until : ((Str.ofString "from") == (Str.ofString "until")) = false := by decide
theorem sw_from_also : ((Str.ofString "from") == (Str.ofString "also")) = false := by decide
theorem sw_from_but : ((Str.ofString "from") == (Str.ofString "but")) = false := by decide
theorem sw_until_from : ((Str.ofString "until") == (Str.ofString "from")) = false := by decide
theorem sw_until_until : ((Str.ofString "until") == (Str.ofString "until")) = true := by decide
theorem sw_until_also : ((Str.ofString "until") == (Str.ofString "also")) = false := by decide
theorem sw_until_but : ((Str.ofString "until") == (Str.ofString "but")) = false := by decide
theorem sw_also_from : ((Str.ofString "also") == (Str.ofString "from")) = false := by decide
theorem sw_also_until : ((Str.ofString "also") == (Str.ofString "until")) = false := by decide
theorem sw_also_also : ((Str.ofString "also") == (Str.ofString "also")) = true := by decide
theorem sw_also_but : ((Str.ofString "also") == (Str.ofString "but")) = false := by decide
theorem sw_but_from : ((Str.ofString "but") == (Str.ofString "from")) = false := by decide
theorem sw_but_until : ((Str.ofString "but") == (Str.ofString "until")) = false := by decide
theorem sw_but_also : ((Str.ofString "but") == (Str.ofString "also")) = false := by decide
theorem sw_but_but : ((Str.ofString "but") == (Str.ofString "but")) = true := by decide
end Mine
namespace Mine
open PySem
structure Wd where
 prog : Program
 w : World
 hB : Heap
 mg : Str → Option Value
 mb : Str → Option Value
 bk : Addr
 mt : Str → Option Value
 ex : List (Str × List Str)
 fr : List Env
noncomputable def strip (x : Str) : Option Str := if x.cps.toList.take 5 = (Str.ofString "Book.").cps.toList then some ⟨(x.cps.toList.drop 5).toArray⟩ else none
noncomputable def refA : Option Value → Option Addr
 | some v => (match v with
  | .ref a => some a
  | _ => none)
 | none => none
noncomputable def Wd.fa (D : Wd) (x : Str) : Option Addr := match strip x with
 | some m => refA (D.mt m)
 | none => refA (D.mg x)
theorem fa_fn {D : Wd} {x : Str} {a : Addr} (h : strip x = none) (e : D.mg x = some (.ref a)) : D.fa x = some a := by unfold Wd.fa; rw [h]; show refA (D.mg x) = _; rw [e]; rfl
theorem fa_mt {D : Wd} {m : Str} {a : Addr} (e : D.mt m = some (.ref a)) : D.fa (Str.ofString "Book." ++ m) = some a := by
 have hl : (Str.ofString "Book." ++ m).cps.toList = (Str.ofString "Book.").cps.toList ++ m.cps.toList := Array.toList_append
 have hn : (Str.ofString "Book.").cps.toList.length = 5 := by decide +kernel
 have h : strip (Str.ofString "Book." ++ m) = some m := by
  unfold strip
  rw [hl, List.take_left' hn, if_pos rfl, List.drop_left' hn]
 unfold Wd.fa
 rw [h]
 show refA (D.mt m) = some a
 rw [e]; rfl
noncomputable def TupAt (h : Heap) (a : Addr) (vs : List Value) : Prop := ∃ n, h.get? a = some { cls := .type "tuple", data := .seq vs.toArray n } ∧ vs.length ≤ 2000000
noncomputable def StrFine (x : Str) : Prop := x.length ≤ 2000000 ∧ PyData.strOk x = true
mutual
noncomputable def Rep (mg : Wd) (γ : List Addr) (h : Heap) (v : Value) : V → Prop
 | .none => v = .none
 | .bool b => v = .bool b
 | .int i => ∃ t, v = .int i t
 | .str s => ∃ t, v = .str s t ∧ StrFine s
 | .tup l => ∃ a vs, v = .ref a ∧ TupAt h a vs ∧ Reps mg γ h vs l
 | .ref i => ∃ a, γ[i]? = some a ∧ v = .ref a
 | .fn x => ∃ a, v = .ref a ∧ mg.fa x = some a
 | .ty n => v = .type n.name
 | .bi n => v = .builtin n.name
 | .scr ns => ∃ (a : Addr) (vs : List Value), v = .ref a ∧ mg.hB.IsList a vs.toArray ∧ vs.length ≤ 2000000 ∧ vs.length = ns.length ∧ ∀ (k : Nat) (i : Int), ns[k]? = some i → ∃ t, vs[k]? = some (.int i t)
 | .bk => v = .ref mg.bk
 | .cls x _ => ∃ a, v = .ref a ∧ mg.mg x = some (.ref a)
noncomputable def Reps (mg : Wd) (γ : List Addr) (h : Heap) (vs : List Value) : List V → Prop
 | [] => vs = []
 | V :: l => ∃ v r, vs = v :: r ∧ Rep mg γ h v V ∧ Reps mg γ h r l
end
noncomputable def FsRep (mg : Wd) (γ : List Addr) (h : Heap) (fs : List (Str × V)) (m : Str → Option Value) : Prop :=
 (∀ x V, fs.lookup x = some V → ∃ v, m x = some v ∧ Rep mg γ h v V) ∧ ∀ x, fs.lookup x = none → m x = none
noncomputable def ORep (mg : Wd) (γ : List Addr) (h : Heap) (a : Addr) : O → Prop
 | .list xs => ∃ vs n, h.get? a = some { cls := .type "list", data := .seq vs.toArray n } ∧ Reps mg γ h vs xs ∧ vs.length ≤ 2000000
 | .inst j => ∃ o dx, h.get? a = some o ∧ γ[j]? = some dx ∧ o.cls = .ref mg.bk ∧ (∀ c, o.data ≠ .cls c) ∧ o.dict = some dx ∧ dx ≠ a
 | .ns fs => ∃ m, h.Ns1 a m ∧ FsRep mg γ h fs m ∧ ∀ x, fldOk x = false → m x = none
 | .dict es => ∃ kvs, h.DictOf (strKind mg.prog mg.w) a kvs ∧ FsRep mg γ h es (valueAt kvs) ∧ kvs.length ≤ es.length
noncomputable def NotD (o : Obj) : Prop := ∀ es n, o.data ≠ .dict es n
noncomputable def FrsOk (D : Wd) (γ : List Addr) (h : Heap) : Prop := ∀ e ∈ D.fr, e.scope.kind = .function ∧ ∃ (L : Addr) (o : Obj), e.frame = some L ∧ D.hB.get? L = none ∧ L ∉ γ ∧ h.get? L = some o ∧ ¬ NotD o
theorem FrsOk.but {D : Wd} {γ : List Addr} {h h' : Heap} (f : FrsOk D γ h) (hk : ∀ b o, b ∉ γ → h.get? b = some o → ¬ NotD o → ∃ o', h'.get? b = some o' ∧ ¬ NotD o') : FrsOk D γ h' := fun e he => by
 obtain ⟨k, L, o, a, b, n, c, d⟩ := f e he
 refine e1_2 (hk L o n c d) fun o' c' d' => ?_
 exact ⟨k, L, o', a, b, n, c', d'⟩
theorem FrsOk.grow {D : Wd} {γ : List Addr} {h h' : Heap} (f : FrsOk D γ h) (hk : ∀ b o, h.get? b = some o → h'.get? b = some o) : FrsOk D γ h' := f.but fun b o _ e d => ⟨o, hk b o e, d⟩
theorem FrsOk.ne {D : Wd} {γ : List Addr} {h : Heap} {I : Addr} (f : FrsOk D γ h) (hn : h.get? I = none) : ∀ e ∈ D.fr, e.frame ≠ some I := fun e he q => by
 obtain ⟨k, L, o, a, b, n, c, d⟩ := f e he
 rw [q] at a; cases a
 rw [hn] at c; exact no_some c
theorem FrsOk.more {D : Wd} {γ : List Addr} {h : Heap} {I : Addr} (f : FrsOk D γ h) (hn : ∀ e ∈ D.fr, e.frame ≠ some I) : FrsOk D (γ ++ [I]) h := fun e he => by
 obtain ⟨k, L, o, a, b, n, c, d⟩ := f e he
 exact ⟨k, L, o, a, b, fun m => (List.mem_append.mp m).elim n fun m => hn e he (by rw [a, List.mem_singleton.mp m]), c, d⟩
structure HRel (D : Wd) (γ : List Addr) (H : Hp) (h : Heap) : Prop where
 len : γ.length = H.length
 nodup : γ.Nodup
 objs : ∀ (i : Nat) (a : Addr) (o : O), γ[i]? = some a → H[i]? = some o → ORep D γ h a o
 fresh : ∀ a ∈ γ, D.hB.get? a = none
 base : ∀ b o, D.hB.get? b = some o → h.get? b = some o
 frs : FrsOk D γ h
structure Stp (wr γ γ' : List Addr) (s s' : Shared) : Prop where
 same : ∃ h' tk, s' = { s with heap := h', toks := tk }
 keepS : ∀ b o, b ∉ γ → b ∉ wr → s.heap.get? b = some o → ∃ sl, s'.heap.get? b = some { o with slots := sl } ∧ (NotD o → sl = o.slots)
 ext : ∃ δ, γ' = γ ++ δ ∧ ∀ a ∈ δ, s.heap.get? a = none
theorem Stp.keep {wr γ γ' : List Addr} {s s' : Shared} (t : Stp wr γ γ' s s') (b : Addr) (o : Obj) (h1 : b ∉ γ) (h2 : b ∉ wr) (nd : NotD o) (e : s.heap.get? b = some o) : s'.heap.get? b = some o := by
 refine e1_2 (t.keepS b o h1 h2 e) fun sl e' q => ?_
 rw [q nd] at e'; exact e'
theorem Stp.of {wr γ γ' : List Addr} {s s' : Shared} (h1 : ∃ h' tk, s' = { s with heap := h', toks := tk }) (h2 : ∀ b o, b ∉ γ → b ∉ wr → s.heap.get? b = some o → s'.heap.get? b = some o) (h3 : ∃ δ, γ' = γ ++ δ ∧ ∀ a ∈ δ, s.heap.get? a = none) : Stp wr γ γ' s s' :=
 ⟨h1, fun b o a c e => ⟨o.slots, h2 b o a c e, fun _ => rfl⟩, h3⟩
theorem Stp.ns {wr γ γ' : List Addr} {s s' : Shared} (t : Stp wr γ γ' s s') {b : Addr} {m : Str → Option Value} (h1 : b ∉ γ) (h2 : b ∉ wr) (n : s.heap.Ns b m) : s'.heap.Ns b m := by
 refine e3_2 n fun o es ep ho r => ?_
 refine e1_2 (t.keepS b o h1 h2 ho) fun sl e' _ => ?_
 exact ⟨_, es, ep, e', r⟩
theorem Stp.live {wr γ γ' : List Addr} {s s' : Shared} (t : Stp wr γ γ' s s') {b : Addr} {o : Obj} (h1 : b ∉ γ) (h2 : b ∉ wr) (e : s.heap.get? b = some o) : ∃ o', s'.heap.get? b = some o' := by
 refine e1_2 (t.keepS b o h1 h2 e) fun sl e' _ => ?_
 exact ⟨_, e'⟩
theorem notD_seq {o : Obj} {vs : Array Value} {n : Nat} (h : o.data = .seq vs n) : NotD o := fun es m q => by rw [h] at q; cases q
theorem notD_fields {o : Obj} {vs : Array Value} (h : o.data = .fields vs) : NotD o := fun es m q => by rw [h] at q; cases q
theorem isD_ns {h : Heap} {b : Addr} {m : Str → Option Value} (n : h.Ns b m) : ∃ o, h.get? b = some o ∧ ¬ NotD o := by
 refine e3_3 n fun o es ep ho hd _ => ?_
 exact ⟨o, ho, fun q => q es ep hd⟩
theorem ORep.there {D : Wd} {γ : List Addr} {h : Heap} {a : Addr} : ∀ {o : O}, ORep D γ h a o → (∃ ob, h.get? a = some ob) ∧ ∀ ws, ¬ TupAt h a ws
 | .list _, ⟨vs, n, e, _⟩ => ⟨⟨_, e⟩, fun ws ⟨m, e', _⟩ => by
  rw [e] at e'
  exact absurd (congrArg Obj.cls (Option.some.inj e')) (show ¬ Value.type "list" = Value.type "tuple" by decide)⟩
 | .inst _, ⟨o, dx, e, _, c, _⟩ => ⟨⟨_, e⟩, fun ws ⟨m, e', _⟩ => by
  rw [e] at e'
  rw [Option.some.inj e'] at c; cases c⟩
 | .ns _, ⟨m, ⟨o, es, ep, e, d, _⟩, _⟩ => ⟨⟨_, e⟩, fun ws ⟨m, e', _⟩ => by
  rw [e] at e'
  rw [Option.some.inj e'] at d; cases d⟩
 | .dict _, ⟨kvs, ⟨o, es, ep, e, _, d, _⟩, _⟩ => ⟨⟨_, e⟩, fun ws ⟨m, e', _⟩ => by
  rw [e] at e'
  rw [Option.some.inj e'] at d; cases d⟩
theorem HRel.obj {D : Wd} {γ : List Addr} {H : Hp} {h : Heap} (R : HRel D γ H h) {i : Nat} {a : Addr} (e : γ[i]? = some a) : ∃ o, H[i]? = some o ∧ ORep D γ h a o := by
 have hi : i < H.length := R.len ▸ (List.getElem?_eq_some_iff.mp e).1
 exact ⟨_, List.getElem?_eq_getElem hi, R.objs i a _ e (List.getElem?_eq_getElem hi)⟩
theorem HRel.alive {D : Wd} {γ : List Addr} {H : Hp} {h : Heap} (R : HRel D γ H h) {a : Addr} (ha : a ∈ γ) : (∃ o, h.get? a = some o) ∧ ∀ ws, ¬ TupAt h a ws := by
 obtain ⟨i, hi, e⟩ := List.getElem_of_mem ha
 obtain ⟨o, _, r⟩ := R.obj (i := i) (a := a) (by rw [← e]; exact List.getElem?_eq_getElem hi)
 exact r.there
theorem Stp.refl {wr γ : List Addr} {s : Shared} : Stp wr γ γ s s := .of ⟨s.heap, s.toks, rfl⟩ (fun _ _ _ _ e => e) ⟨[], by simp, by simp⟩
theorem Stp.trans {D : Wd} {wr γ γ1 γ2 : List Addr} {s s1 s2 : Shared} {H1 : Hp} (R1 : HRel D γ1 H1 s1.heap) (a : Stp wr γ γ1 s s1) (b : Stp wr γ1 γ2 s1 s2)
  (hw : ∀ x ∈ wr, ∀ o, s.heap.get? x = some o → ∃ o', s1.heap.get? x = some o') : Stp wr γ γ2 s s2 := by
 refine e1_2 (a.ext) fun δ1 e1 f1 => ?_
 refine e1_2 (b.ext) fun δ2 e2 f2 => ?_
 refine ⟨?_, ?_, ⟨δ1 ++ δ2, by rw [e2, e1, List.append_assoc], ?_⟩⟩
 ·refine e2_1 (a.same) fun h1 t1 q1 => ?_
  refine e2_1 (b.same) fun h2 t2 q2 => ?_
  exact ⟨h2, t2, by rw [q2, q1]⟩
 ·intro x o hx hxw e
  refine e1_2 (a.keepS x o hx hxw e) fun sl1 k1 q1 => ?_
  have hx2 : x ∉ γ1 := fun hm => by
   rw [e1] at hm
   rcases List.mem_append.mp hm with q | q
   ·exact hx q
   ·rw [f1 x q] at e; exact no_some e
  refine e1_2 (b.keepS x _ hx2 hxw k1) fun sl2 k2 q2 => ?_
  exact ⟨sl2, k2, fun nd => (q2 nd).trans (q1 nd)⟩
 ·intro x hx
  rcases List.mem_append.mp hx with q | q
  ·exact f1 x q
  ·cases e : s.heap.get? x with
   | none => rfl
   | some o =>
    have hn := f2 x q
    by_cases hg : x ∈ γ
    ·obtain ⟨⟨o', e'⟩, _⟩ := R1.alive (a := x) (by rw [e1]; exact List.mem_append_left _ hg)
     rw [hn] at e'; exact no_some e'
    ·by_cases hxw : x ∈ wr
     ·obtain ⟨o', e'⟩ := hw x hxw o e
      rw [hn] at e'; exact no_some e'
     ·obtain ⟨o', e'⟩ := a.live hg hxw e
      rw [hn] at e'; exact no_some e'
theorem Stp.trans0 {D : Wd} {γ γ1 γ2 : List Addr} {s s1 s2 : Shared} {H1 : Hp} (R1 : HRel D γ1 H1 s1.heap) (a : Stp [] γ γ1 s s1) (b : Stp [] γ1 γ2 s1 s2) : Stp [] γ γ2 s s2 :=
 a.trans R1 b (fun _ h => nomatch h)
theorem Stp.weak {wr γ γ' : List Addr} {s s' : Shared} (a : Stp [] γ γ' s s') : Stp wr γ γ' s s' := ⟨a.same, fun b o h1 _ e => a.keepS b o h1 (fun h => nomatch h) e, a.ext⟩
theorem getElem?_ext {γ γ' : List Addr} {i : Nat} {a : Addr} (h : ∃ δ, γ' = γ ++ δ) (e : γ[i]? = some a) : γ'[i]? = some a := by
 obtain ⟨δ, rfl⟩ := h
 rw [List.getElem?_append_left]
 ·exact e
 ·obtain ⟨h1, _⟩ := List.getElem?_eq_some_iff.mp e; exact h1
theorem nodup_inj {l : List Addr} (hn : l.Nodup) {i j : Nat} (hi : i < l.length) (hj : j < l.length) (e : l[i] = l[j]) : i = j := by
 have p := List.pairwise_iff_getElem.mp hn
 rcases Nat.lt_trichotomy i j with q | q | q
 ·exact absurd e (p i j hi hj q)
 ·exact q
 ·exact absurd e.symm (p j i hj hi q)
mutual
theorem Rep.mono {mg : Wd} {γ γ' : List Addr} {h h' : Heap} (hg : ∃ δ, γ' = γ ++ δ) (hk : ∀ a vs, TupAt h a vs → TupAt h' a vs) {v : Value} : ∀ {V : V}, Rep mg γ h v V → Rep mg γ' h' v V
 | .none, x => x
 | .bool _, x => x
 | .int _, x => x
 | .str _, x => x
 | .tup l, x => by
  refine e2_3 x fun a vs e t r => ?_
  exact Exists.intro a ⟨vs, e, hk _ _ t, Reps.mono hg hk r⟩
 | .ref _, x => by
  refine e1_2 x fun a e r => ?_
  exact Exists.intro a ⟨getElem?_ext hg e, r⟩
 | .fn _, x => x
 | .ty _, x => x
 | .bi _, x => x
 | .scr _, x => x
 | .bk, x => x
 | .cls _ _, x => x
theorem Reps.mono {mg : Wd} {γ γ' : List Addr} {h h' : Heap} (hg : ∃ δ, γ' = γ ++ δ) (hk : ∀ a vs, TupAt h a vs → TupAt h' a vs) {vs : List Value} : ∀ {l : List V}, Reps mg γ h vs l → Reps mg γ' h' vs l
 | [], x => x
 | V :: l, x => by
  refine e2_3 x fun v r e a b => ?_
  exact Exists.intro v ⟨r, e, Rep.mono hg hk a, Reps.mono hg hk b⟩
end
theorem FsRep.mono {mg : Wd} {γ γ' : List Addr} {h h' : Heap} (hg : ∃ δ, γ' = γ ++ δ) (hk : ∀ a vs, TupAt h a vs → TupAt h' a vs) {fs : List (Str × V)} {m : Str → Option Value} (x : FsRep mg γ h fs m) : FsRep mg γ' h' fs m :=
 ⟨fun y V e => let ⟨v, q, r⟩ := x.1 y V e; ⟨v, q, Rep.mono hg hk r⟩, x.2⟩
theorem ORep.mono {mg : Wd} {γ γ' : List Addr} {h h' : Heap} {a : Addr} (hg : ∃ δ, γ' = γ ++ δ) (ht : ∀ a vs, TupAt h a vs → TupAt h' a vs) (hk : ∀ o, h.get? a = some o → h'.get? a = some o) : ∀ {o : O}, ORep mg γ h a o → ORep mg γ' h' a o
 | .list _, ⟨vs, n, e, r, z⟩ => ⟨vs, n, hk _ e, Reps.mono hg ht r, z⟩
 | .inst _, ⟨o, dx, e, j, r⟩ => ⟨o, dx, hk _ e, getElem?_ext hg j, r⟩
 | .ns _, ⟨m, n, r, q⟩ => ⟨m, n.at hk, r.mono hg ht, q⟩
 | .dict _, ⟨kvs, n, r, z⟩ => ⟨kvs, n.at hk, r.mono hg ht, z⟩
theorem Reps.length {mg : Wd} {γ : List Addr} {h : Heap} : ∀ {vs : List Value} {l : List V}, Reps mg γ h vs l → vs.length = l.length
 | vs, [], x => by obtain rfl := x; rfl
 | vs, V :: l, x => by
  refine e2_3 x fun v r e_8 _ b => ?_
  obtain rfl := e_8
  exact congrArg (· + 1) (Reps.length b)
theorem Reps.get {mg : Wd} {γ : List Addr} {h : Heap} : ∀ {vs : List Value} {l : List V} {k : Nat} {V : V}, Reps mg γ h vs l → l[k]? = some V → ∃ v, vs[k]? = some v ∧ Rep mg γ h v V
 | vs, [], _, _, _, e => no_some e
 | vs, V :: l, 0, W, x, e => by
  refine e2_3 x fun v r e_9 a b => ?_
  obtain rfl := e_9
  obtain rfl := Option.some.inj e
  exact ⟨v, rfl, a⟩
 | vs, V :: l, k + 1, W, x, e => by
  refine e2_3 x fun v r e_10 a b => ?_
  obtain rfl := e_10
  exact Reps.get (k := k) b e
theorem Reps.append {mg : Wd} {γ : List Addr} {h : Heap} : ∀ {vs : List Value} {l : List V} {ws : List Value} {m : List V}, Reps mg γ h vs l → Reps mg γ h ws m → Reps mg γ h (vs ++ ws) (l ++ m)
 | vs, [], ws, m, x, y => by obtain rfl := x; exact y
 | vs, V :: l, ws, m, x, y => by
  refine e2_3 x fun v r e_11 a b => ?_
  obtain rfl := e_11
  exact Exists.intro v ⟨r ++ ws, rfl, a, Reps.append b y⟩
theorem Reps.drop {mg : Wd} {γ : List Addr} {h : Heap} : ∀ {vs : List Value} {l : List V} (n : Nat), Reps mg γ h vs l → Reps mg γ h (vs.drop n) (l.drop n)
 | vs, l, 0, x => x
 | vs, [], n + 1, x => by obtain rfl := x; exact rfl
 | vs, V :: l, n + 1, x => by
  refine e2_3 x fun v r e_12 a b => ?_
  obtain rfl := e_12
  exact Reps.drop n b
theorem Reps.take {mg : Wd} {γ : List Addr} {h : Heap} : ∀ {vs : List Value} {l : List V} (n : Nat), Reps mg γ h vs l → Reps mg γ h (vs.take n) (l.take n)
 | vs, l, 0, x => rfl
 | vs, [], n + 1, x => by obtain rfl := x; exact rfl
 | vs, V :: l, n + 1, x => by
  refine e2_3 x fun v r e_13 a b => ?_
  obtain rfl := e_13
  exact Exists.intro v ⟨_, rfl, a, Reps.take n b⟩
theorem Reps.one {mg : Wd} {γ : List Addr} {h : Heap} {v : Value} {V : V} (x : Rep mg γ h v V) : Reps mg γ h [v] [V] := Exists.intro v ⟨[], rfl, x, rfl⟩
theorem Reps.reverse {mg : Wd} {γ : List Addr} {h : Heap} : ∀ {vs : List Value} {l : List V}, Reps mg γ h vs l → Reps mg γ h vs.reverse l.reverse
 | vs, [], x => by obtain rfl := x; exact rfl
 | vs, V :: l, x => by
  refine e2_3 x fun v r e_14 a b => ?_
  obtain rfl := e_14
  rw [List.reverse_cons, List.reverse_cons]
  exact (Reps.reverse b).append (Reps.one a)
theorem Reps.of_get {mg : Wd} {γ : List Addr} {h : Heap} : ∀ {vs : List Value} {l : List V}, vs.length = l.length → (∀ (k : Nat) (v : Value) (V : V), vs[k]? = some v → l[k]? = some V → Rep mg γ h v V) → Reps mg γ h vs l
 | [], [], _, _ => rfl
 | [], _ :: _, e, _ => Nat.noConfusion e
 | _ :: _, [], e, _ => Nat.noConfusion e
 | v :: vs, V :: l, e, f => Exists.intro v ⟨vs, rfl, f 0 v V rfl rfl, Reps.of_get (Nat.succ.inj e) fun k u U h1 h2 => f (k + 1) u U h1 h2⟩
section
variable {D : Wd} {wr γ γ' : List Addr} {H : Hp} {s s' : Shared}
theorem TupAt.stp (R : HRel D γ H s.heap) (t : Stp wr γ γ' s s') (hw : ∀ x ∈ wr, ∀ ws, ¬ TupAt s.heap x ws) {a : Addr} {vs : List Value} (x : TupAt s.heap a vs) : TupAt s'.heap a vs := by
 refine e1_2 (id x) fun n e f => ?_
 exact ⟨n, t.keep a _ (fun hm => (R.alive hm).2 _ x) (fun hm => hw a hm _ x) (notD_seq rfl) e, f⟩
theorem Rep.stp (R : HRel D γ H s.heap) (t : Stp wr γ γ' s s') (hw : ∀ x ∈ wr, ∀ ws, ¬ TupAt s.heap x ws) {v : Value} {V : V} (x : Rep D γ s.heap v V) : Rep D γ' s'.heap v V :=
 Rep.mono (let ⟨δ, e, _⟩ := t.ext; ⟨δ, e⟩) (fun _ _ q => q.stp R t hw) x
theorem Reps.stp (R : HRel D γ H s.heap) (t : Stp wr γ γ' s s') (hw : ∀ x ∈ wr, ∀ ws, ¬ TupAt s.heap x ws) {vs : List Value} {l : List V} (x : Reps D γ s.heap vs l) : Reps D γ' s'.heap vs l :=
 Reps.mono (let ⟨δ, e, _⟩ := t.ext; ⟨δ, e⟩) (fun _ _ q => q.stp R t hw) x
theorem Rep.stp0 (R : HRel D γ H s.heap) (t : Stp [] γ γ' s s') {v : Value} {V : V} (x : Rep D γ s.heap v V) : Rep D γ' s'.heap v V := x.stp R t (fun _ h => nomatch h)
theorem Reps.stp0 (R : HRel D γ H s.heap) (t : Stp [] γ γ' s s') {vs : List Value} {l : List V} (x : Reps D γ s.heap vs l) : Reps D γ' s'.heap vs l := x.stp R t (fun _ h => nomatch h)
theorem stp_grow {h' : Heap} {tk : Nat} (hk : ∀ b o, s.heap.get? b = some o → h'.get? b = some o) : Stp wr γ γ s { s with heap := h', toks := tk } :=
 .of ⟨h', tk, rfl⟩ (fun b o _ _ e => hk b o e) ⟨[], by simp, by simp⟩
theorem tupAt_grow {h h' : Heap} (hk : ∀ b o, h.get? b = some o → h'.get? b = some o) {a : Addr} {vs : List Value} (x : TupAt h a vs) : TupAt h' a vs := by
 obtain ⟨n, e, r⟩ := x; exact ⟨n, hk _ _ e, r⟩
theorem HRel.grow {h h' : Heap} (R : HRel D γ H h) (hk : ∀ b o, h.get? b = some o → h'.get? b = some o) : HRel D γ H h' :=
 ⟨R.len, R.nodup, fun i a o e1 e2 => (R.objs i a o e1 e2).mono ⟨[], by simp⟩ (fun _ _ => tupAt_grow hk) (hk a), R.fresh, fun b o e => hk _ _ (R.base b o e), R.frs.grow hk⟩
theorem HRel.adopt {o : O} {h : Heap} {a : Addr} (R : HRel D γ H h) (hn : a ∉ γ) (hB : D.hB.get? a = none) (hf : ∀ e ∈ D.fr, e.frame ≠ some a) (ho : ORep D (γ ++ [a]) h a o) : HRel D (γ ++ [a]) (H ++ [o]) h where
 len := by rw [List.length_append, List.length_append, R.len]; rfl
 nodup := by
  refine List.nodup_append.mpr ⟨R.nodup, by simp, fun b hb c hc => ?_⟩
  rw [List.mem_singleton.mp hc]
  intro e
  exact hn (e ▸ hb)
 objs := fun i b ob e1 e2 => by
  by_cases hi : i < γ.length
  ·rw [List.getElem?_append_left hi] at e1
   rw [List.getElem?_append_left (R.len ▸ hi)] at e2
   exact (R.objs i b ob e1 e2).mono ⟨[a], rfl⟩ (fun _ _ x => x) (fun _ x => x)
  ·have hge := Nat.le_of_not_lt hi
   rw [List.getElem?_append_right hge] at e1
   rw [List.getElem?_append_right (R.len ▸ hge), ← R.len] at e2
   have h0 : i - γ.length = 0 := by
    have := (List.getElem?_eq_some_iff.mp e1).1
    exact Nat.lt_one_iff.mp this
   rw [h0] at e1 e2
   obtain rfl := Option.some.inj e1
   obtain rfl := Option.some.inj e2
   exact ho
 fresh := fun b hb => by
  rcases List.mem_append.mp hb with q | q
  ·exact R.fresh b q
  ·rw [List.mem_singleton.mp q]; exact hB
 base := R.base
 frs := R.frs.more hf
theorem HRel.nin {h : Heap} {a : Addr} (R : HRel D γ H h) (hn : h.get? a = none) : a ∉ γ ∧ D.hB.get? a = none := by
 refine ⟨fun hm => ?_, ?_⟩
 ·obtain ⟨⟨o, e⟩, _⟩ := R.alive hm
  rw [hn] at e; exact no_some e
 ·cases e : D.hB.get? a with
  | none => rfl
  | some o => have := R.base _ _ e; rw [hn] at this; exact no_some this
theorem HRel.add {o : O} {h h' : Heap} {a : Addr} (R : HRel D γ H h) (hk : ∀ b ob, h.get? b = some ob → h'.get? b = some ob) (hn : h.get? a = none) (ho : ORep D (γ ++ [a]) h' a o) : HRel D (γ ++ [a]) (H ++ [o]) h' :=
 (R.grow hk).adopt (R.nin hn).1 (R.nin hn).2 (R.frs.ne hn) ho
theorem HRel.addList {vs : List Value} {l : List V} {h h' : Heap} {a : Addr} {n : Nat} (R : HRel D γ H h) (r : Reps D γ h vs l) (hz : l.length ≤ 2000000)
  (hk : ∀ b o, h.get? b = some o → h'.get? b = some o) (hn : h.get? a = none) (ha : h'.get? a = some { cls := .type "list", data := .seq vs.toArray n }) :
  HRel D (γ ++ [a]) (H ++ [.list l]) h' := R.add hk hn ⟨vs, n, ha, Reps.mono ⟨_, rfl⟩ (fun _ _ => tupAt_grow hk) r, by rw [r.length]; exact hz⟩
theorem none_end (h : Heap) : h.get? h.objs.size = none := by
 cases e : h.get? h.objs.size with
 | none => rfl
 | some o => exact absurd (Heap.lt_size e) (Nat.lt_irrefl _)
theorem Stp.add {h' : Heap} {tk : Nat} {a : Addr} (hk : ∀ b o, s.heap.get? b = some o → h'.get? b = some o) (hn : s.heap.get? a = none) : Stp wr γ (γ ++ [a]) s { s with heap := h', toks := tk } :=
 .of ⟨_, _, rfl⟩ (fun b o _ _ e => hk b o e) ⟨[a], rfl, fun b hb => by rw [List.mem_singleton.mp hb]; exact hn⟩
theorem HRel.setObj {i : Nat} {a : Addr} {o : O} {h h' : Heap} (R : HRel D γ H h) (hi : γ[i]? = some a) (hk : ∀ b o, b ≠ a → h.get? b = some o → h'.get? b = some o)
  (ho : (∀ b ws, TupAt h b ws → TupAt h' b ws) → ORep D γ h' a o) : HRel D γ (H.set i o) h' := by
 have ha : a ∈ γ := List.mem_of_getElem? hi
 have ht : ∀ b ws, TupAt h b ws → TupAt h' b ws := fun b ws x => by
  refine e1_2 (id x) fun m q d => ?_
  exact ⟨m, hk _ _ (fun e => (R.alive ha).2 ws (e ▸ x)) q, d⟩
 refine ⟨by rw [List.length_set]; exact R.len, R.nodup, fun j b ob e1 e2 => ?_, R.fresh, fun b ob q => hk b ob (fun e => ?_) (R.base b ob q), R.frs.but fun b ob hb e d => ⟨ob, hk b ob (fun q => hb (q ▸ ha)) e, d⟩⟩
 ·by_cases hj : i = j
  ·subst hj
   rw [hi] at e1
   obtain rfl := Option.some.inj e1
   rw [List.getElem?_set_self (R.len ▸ (List.getElem?_eq_some_iff.mp hi).1)] at e2
   obtain rfl := Option.some.inj e2
   exact ho ht
  ·rw [List.getElem?_set_ne hj] at e2
   refine (R.objs j b ob e1 e2).mono ⟨[], by simp⟩ ht fun o q => hk b o (fun e => ?_) q
   subst e
   obtain ⟨h1, q1⟩ := List.getElem?_eq_some_iff.mp hi
   obtain ⟨h2, q2⟩ := List.getElem?_eq_some_iff.mp e1
   exact hj (nodup_inj R.nodup h1 h2 (q1.trans q2.symm))
 ·rw [e, R.fresh _ ha] at q; exact no_some q
theorem HRel.setList {i : Nat} {a : Addr} {vs : List Value} {l : List V} {n : Nat} {h h' : Heap} (R : HRel D γ H h) (hi : γ[i]? = some a) (r : Reps D γ h vs l) (hz : l.length ≤ 2000000)
  (e : h'.get? a = some { cls := .type "list", data := .seq vs.toArray n }) (hk : ∀ b o, b ≠ a → h.get? b = some o → h'.get? b = some o) :
  HRel D γ (H.set i (.list l)) h' := R.setObj hi hk fun ht => ⟨vs, n, e, Reps.mono ⟨[], by simp⟩ ht r, by rw [r.length]; exact hz⟩
end
end Mine
namespace Mine
open PySem
noncomputable def XNew (D : Wd) (γ : List Addr) (s : Shared) (h : Heap) (e : Value) (x : Exc) : Prop := ∃ a oe vs C a0, e = .ref a ∧ s.heap.get? a = none ∧ h.get? a = some oe ∧ oe.cls = .ref C ∧ D.mg x.cls = some (.ref C) ∧ oe.data = .fields vs ∧ vs[0]? = some a0 ∧ vs[1]? = some .none ∧ a ∉ γ
noncomputable def XFly (D : Wd) (γ : List Addr) (s : Shared) (h : Heap) (e : Value) (x : Exc) : Prop := ∃ a oe vs C a0 T oT ts, e = .ref a ∧ s.heap.get? a = none ∧ h.get? a = some oe ∧ oe.cls = .ref C ∧ D.mg x.cls = some (.ref C) ∧ oe.data = .fields vs ∧ vs[0]? = some a0 ∧
 vs[1]? = some (.ref T) ∧ s.heap.get? T = none ∧ T ≠ a ∧ h.get? T = some oT ∧ oT.data = .fields ts ∧ a ∉ γ ∧ T ∉ γ ∧ ∃ fl, ts[3]? = some fl
noncomputable def PostV (D : Wd) (γ : List Addr) (s : Shared) (Q : V → Hp → Prop) (v : Value) (s' : Shared) : Prop :=
 ∃ γ' V H', Stp [] γ γ' s s' ∧ HRel D γ' H' s'.heap ∧ Rep D γ' s'.heap v V ∧ Q V H'
noncomputable def PostL (D : Wd) (γ : List Addr) (s : Shared) (Q : List V → Hp → Prop) (vs : List Value) (s' : Shared) : Prop :=
 ∃ γ' Vs H', Stp [] γ γ' s s' ∧ HRel D γ' H' s'.heap ∧ Reps D γ' s'.heap vs Vs ∧ Q Vs H'
noncomputable def PostB (D : Wd) (γ : List Addr) (s : Shared) (Q : Bool → Hp → Prop) (c : Bool) (s' : Shared) : Prop :=
 ∃ γ' H', Stp [] γ γ' s s' ∧ HRel D γ' H' s'.heap ∧ Q c H'
noncomputable def PostX (D : Wd) (γ : List Addr) (s : Shared) (X : XL) (e : Value) (s' : Shared) : Prop :=
 ∃ γ' H' x, Stp [] γ γ' s s' ∧ HRel D γ' H' s'.heap ∧ (XFly D γ' s s'.heap e x ∧ (x.cls, x.ups) ∈ D.ex) ∧ X x H'
theorem PostX.no {D : Wd} {γ : List Addr} {s : Shared} {e : Value} {s' : Shared} (h : PostX D γ s noX e s') : False := by
 obtain ⟨_, _, _, _, _, _, x⟩ := h; exact x
noncomputable abbrev Wd.M (D : Wd) : Model := model D.prog D.w
structure AOkC (D : Wd) (k : Nat) (A : Around) : Prop where
 frames : A.frames = some D.fr
 handled : A.handled = none
 depth : A.depth + 3 * k < 900
 units : A.units + 16 * k < 9000
 guards : A.guards = some []
structure AOk (D : Wd) (k : Nat) (A : Around) : Prop where
 frames : A.frames = some D.fr
 handled : A.handled = none
 depth : A.depth + 3 * k + 2 < 900
 units : A.units + 16 * k + 8 < 9000
 guards : A.guards = some []
noncomputable abbrev Wd.push (D : Wd) (env : Env) : Wd := { D with fr := env :: D.fr }
theorem AOk.c {D : Wd} {k : Nat} {A : Around} (h : AOk D k A) : AOkC D k A := ⟨h.frames, h.handled, by have := h.depth; lia, by have := h.units; lia, h.guards⟩
theorem AOkC.mono {D : Wd} {k k' : Nat} {A : Around} (h : AOkC D k A) (hk : k' ≤ k) : AOkC D k' A := ⟨h.frames, h.handled, by have := h.depth; lia, by have := h.units; lia, h.guards⟩
theorem AOkC.deeper {D : Wd} {k : Nat} {A : Around} (h : AOkC D (k + 1) A) (env : Env) : AOk (D.push env) k (A.deeper env) :=
 ⟨Around.frames_deeper h.frames, h.handled, by have := h.depth; show A.depth + 1 + 3 * k + 2 < 900; lia, by have := h.units; show A.units + 3 + 16 * k + 8 < 9000; lia, h.guards⟩
theorem under_guards (A : Around) (c : Code) : (A.under c).guards = pushGuards c.guards A.guards := rfl
theorem AOk.under {D : Wd} {k : Nat} {A : Around} (h : AOk D k A) (C : Addr) : AOkC D k (A.under (.builtin "type.__call__" ⟨[.ref C], []⟩)) := by
 have e1 : (Code.builtin "type.__call__" ⟨[.ref C], []⟩).weight = 1 := by with_unfolding_all rfl
 have e2 : (Code.builtin "type.__call__" ⟨[.ref C], []⟩).guards = [] := by with_unfolding_all rfl
 exact ⟨by show pushEnvs (Code.builtin "type.__call__" ⟨[.ref C], []⟩).envs A.frames = _; rw [h.frames]; with_unfolding_all rfl, h.handled, by have := h.depth; show A.depth + (Code.builtin "type.__call__" ⟨[.ref C], []⟩).weight + 3 * k < 900; lia, by have := h.units; show A.units + 1 + 16 * k < 9000; lia, by rw [under_guards, e2, h.guards]; rfl⟩
theorem fresh_back {D : Wd} {γ γ1 : List Addr} {H1 : Hp} {s s1 : Shared} (t : Stp [] γ γ1 s s1) (R : HRel D γ1 H1 s1.heap) {a : Addr} (h : s1.heap.get? a = none) : s.heap.get? a = none := by
 cases e : s.heap.get? a with
 | none => rfl
 | some o =>
  by_cases hg : a ∈ γ
  ·refine e1_2 (t.ext) fun δ e1 _ => ?_
   obtain ⟨⟨o', e'⟩, _⟩ := R.alive (a := a) (by rw [e1]; exact List.mem_append_left _ hg)
   rw [h] at e'; exact no_some e'
  ·obtain ⟨o', e'⟩ := t.live hg (fun h => nomatch h) e
   rw [h] at e'; exact no_some e'
theorem XFly.from {D : Wd} {γ : List Addr} {s s1 : Shared} {h : Heap} {e : Value} {x : Exc} (f : ∀ a, s1.heap.get? a = none → s.heap.get? a = none) (q : XFly D γ s1 h e x) : XFly D γ s h e x := by
 obtain ⟨a, oe, vs, C, a0, T, oT, ts, h1, h2, h3, h4, h5, h6, h7, h8, h9, h10⟩ := q
 exact ⟨a, oe, vs, C, a0, T, oT, ts, h1, f a h2, h3, h4, h5, h6, h7, h8, f T h9, h10⟩
theorem XNew.from {D : Wd} {γ : List Addr} {s s1 : Shared} {h : Heap} {e : Value} {x : Exc} (f : ∀ a, s1.heap.get? a = none → s.heap.get? a = none) (q : XNew D γ s1 h e x) : XNew D γ s h e x := by
 obtain ⟨a, oe, vs, C, a0, h1, h2, h3⟩ := q
 exact ⟨a, oe, vs, C, a0, h1, f a h2, h3⟩
section
variable {D : Wd} {γ γ1 : List Addr} {H H1 : Hp} {s s1 : Shared} {A : Around}
theorem PostV.back {Q : V → Hp → Prop} {v : Value} {s' : Shared} (t : Stp [] γ γ1 s s1) (R : HRel D γ1 H1 s1.heap) (h : PostV D γ1 s1 Q v s') : PostV D γ s Q v s' := by
 refine e3_4 h fun γ' V H' a b c d => ?_
 exact ⟨γ', V, H', t.trans0 R a, b, c, d⟩
theorem PostL.back {Q : List V → Hp → Prop} {v : List Value} {s' : Shared} (t : Stp [] γ γ1 s s1) (R : HRel D γ1 H1 s1.heap) (h : PostL D γ1 s1 Q v s') : PostL D γ s Q v s' := by
 refine e3_4 h fun γ' V H' a b c d => ?_
 exact ⟨γ', V, H', t.trans0 R a, b, c, d⟩
theorem PostB.back {Q : Bool → Hp → Prop} {v : Bool} {s' : Shared} (t : Stp [] γ γ1 s s1) (R : HRel D γ1 H1 s1.heap) (h : PostB D γ1 s1 Q v s') : PostB D γ s Q v s' := by
 refine e2_3 h fun γ' H' a b d => ?_
 exact ⟨γ', H', t.trans0 R a, b, d⟩
theorem PostX.back {X : XL} {v : Value} {s' : Shared} (t : Stp [] γ γ1 s s1) (R : HRel D γ1 H1 s1.heap) (h : PostX D γ1 s1 X v s') : PostX D γ s X v s' := by
 refine e3_4 h fun γ' H' x a b e_15 d => ?_
 obtain ⟨c, m⟩ := e_15
 exact ⟨γ', H', x, t.trans0 R a, b, ⟨c.from fun _ => fresh_back t R, m⟩, d⟩
theorem backV {t : Sem Value} {Q : V → Hp → Prop} {X : XL} (st : Stp [] γ γ1 s s1) (R : HRel D γ1 H1 s1.heap) (h : wpAny D.M A t (PostV D γ1 s1 Q) (PostX D γ1 s1 X) s1) :
  wpAny D.M A t (PostV D γ s Q) (PostX D γ s X) s1 := wpAny_mono h (fun _ _ x => x.back st R) (fun _ _ x => x.back st R)
theorem backB {t : Sem Bool} {Q : Bool → Hp → Prop} {X : XL} (st : Stp [] γ γ1 s s1) (R : HRel D γ1 H1 s1.heap) (h : wpAny D.M A t (PostB D γ1 s1 Q) (PostX D γ1 s1 X) s1) :
  wpAny D.M A t (PostB D γ s Q) (PostX D γ s X) s1 := wpAny_mono h (fun _ _ x => x.back st R) (fun _ _ x => x.back st R)
theorem andThen {t : Sem Value} {Q : V → Hp → Prop} {P : Value → Shared → Prop} {X : XL} (h : wpAny D.M A t (PostV D γ s Q) (PostX D γ s X) s)
  (k : ∀ v s1 γ1 V H1, Stp [] γ γ1 s s1 → HRel D γ1 H1 s1.heap → Rep D γ1 s1.heap v V → Q V H1 → P v s1) : wpAny D.M A t P (PostX D γ s X) s :=
 wpAny_mono h (fun v s1 ⟨γ1, V, H1, a, b, c, d⟩ => k v s1 γ1 V H1 a b c d) (fun _ _ x => x)
theorem andThenB {t : Sem Bool} {Q : Bool → Hp → Prop} {P : Bool → Shared → Prop} {X : XL} (h : wpAny D.M A t (PostB D γ s Q) (PostX D γ s X) s)
  (k : ∀ v s1 γ1 H1, Stp [] γ γ1 s s1 → HRel D γ1 H1 s1.heap → Q v H1 → P v s1) : wpAny D.M A t P (PostX D γ s X) s :=
 wpAny_mono h (fun v s1 ⟨γ1, H1, a, b, d⟩ => k v s1 γ1 H1 a b d) (fun _ _ x => x)
theorem thenV {t : Sem Value} {Q : V → Hp → Prop} {P : Value → Shared → Prop} {X : XL} (st : Stp [] γ γ1 s s1) (R : HRel D γ1 H1 s1.heap) (h : wpAny D.M A t (PostV D γ1 s1 Q) (PostX D γ1 s1 X) s1)
  (k : ∀ v s2 γ2 V H2, Stp [] γ1 γ2 s1 s2 → HRel D γ2 H2 s2.heap → Rep D γ2 s2.heap v V → Q V H2 → P v s2) : wpAny D.M A t P (PostX D γ s X) s1 :=
 wpAny_mono h (fun v s2 ⟨γ2, V, H2, a, b, c, d⟩ => k v s2 γ2 V H2 a b c d) (fun _ _ x => x.back st R)
theorem PostV.now {Q : V → Hp → Prop} {v : Value} {V : V} (R : HRel D γ H s.heap) (r : Rep D γ s.heap v V) (h : Q V H) {tk : Nat} : PostV D γ s Q v { s with toks := tk } :=
 ⟨γ, V, H, stp_grow fun _ _ e => e, R, r, h⟩
theorem PostV.here {Q : V → Hp → Prop} {v : Value} {V : V} (R : HRel D γ H s.heap) (r : Rep D γ s.heap v V) (h : Q V H) : PostV D γ s Q v s :=
 ⟨γ, V, H, Stp.refl, R, r, h⟩
theorem PostB.now {Q : Bool → Hp → Prop} {c : Bool} (R : HRel D γ H s.heap) (h : Q c H) {tk : Nat} : PostB D γ s Q c { s with toks := tk } :=
 ⟨γ, H, stp_grow fun _ _ e => e, R, h⟩
theorem PostB.here {Q : Bool → Hp → Prop} {c : Bool} (R : HRel D γ H s.heap) (h : Q c H) : PostB D γ s Q c s := ⟨γ, H, Stp.refl, R, h⟩
theorem PostV.grown {Q : V → Hp → Prop} {v : Value} {V : V} {h' : Heap} {tk : Nat} (R : HRel D γ H s.heap) (hk : ∀ b o, s.heap.get? b = some o → h'.get? b = some o) (r : Rep D γ h' v V) (h : Q V H) :
  PostV D γ s Q v { s with heap := h', toks := tk } := ⟨γ, V, H, stp_grow hk, R.grow hk, r, h⟩
theorem rep_new {h : Heap} {a : Addr} (R : HRel D γ H s.heap) : Rep D (γ ++ [a]) h (.ref a) (.ref H.length) :=
 Exists.intro a ⟨by rw [← R.len, List.getElem?_concat_length], rfl⟩
theorem PostV.addList {Q : V → Hp → Prop} {vs : List Value} {l : List V} {h' : Heap} {a : Addr} {n tk : Nat} (R : HRel D γ H s.heap) (r : Reps D γ s.heap vs l) (hz : l.length ≤ 2000000)
  (hk : ∀ b o, s.heap.get? b = some o → h'.get? b = some o) (hn : s.heap.get? a = none) (ha : h'.get? a = some { cls := .type "list", data := .seq vs.toArray n }) (h : Q (.ref H.length) (H ++ [.list l])) :
  PostV D γ s Q (.ref a) { s with heap := h', toks := tk } :=
 ⟨γ ++ [a], .ref H.length, H ++ [.list l], Stp.add hk hn, R.addList r hz hk hn ha, rep_new R, h⟩
theorem PostV.newList {Q : V → Hp → Prop} {vs : List Value} {l : List V} (R : HRel D γ H s.heap) (r : Reps D γ s.heap vs l) (hz : l.length ≤ 2000000) (h : Q (.ref H.length) (H ++ [.list l])) :
  PostV D γ s Q (.ref s.heap.objs.size) { s with heap := s.heap.push { cls := .type "list", data := .seq vs.toArray } } :=
 PostV.addList (tk := s.toks) R r hz (fun _ _ e => Heap.get?_push_of_some _ e) (none_end _) (Heap.get?_push_size _ rfl) h
theorem stp_set {i : Nat} {a : Addr} {h' : Heap} {tk : Nat} (hi : γ[i]? = some a) (hk : ∀ b o, b ≠ a → s.heap.get? b = some o → h'.get? b = some o) : Stp [] γ γ s { s with heap := h', toks := tk } :=
 .of ⟨_, _, rfl⟩ (fun b o hb _ e => hk b o (fun q => hb (q ▸ List.mem_of_getElem? hi)) e) ⟨[], by simp, by simp⟩
theorem PostV.setList {Q : V → Hp → Prop} {vs : List Value} {l : List V} {h' : Heap} {i : Nat} {a : Addr} {n tk : Nat} {v : Value} {V : V} (R : HRel D γ H s.heap) (hi : γ[i]? = some a) (r : Reps D γ s.heap vs l) (hz : l.length ≤ 2000000)
  (hk : ∀ b o, b ≠ a → s.heap.get? b = some o → h'.get? b = some o) (ha : h'.get? a = some { cls := .type "list", data := .seq vs.toArray n }) (rv : Rep D γ h' v V) (h : Q V (H.set i (.list l))) :
  PostV D γ s Q v { s with heap := h', toks := tk } :=
 ⟨γ, V, H.set i (.list l), stp_set hi hk, R.setList hi r hz ha hk, rv, h⟩
theorem PostV.newTuple {Q : V → Hp → Prop} {vs : List Value} {l : List V} (R : HRel D γ H s.heap) (r : Reps D γ s.heap vs l) (hz : l.length ≤ 2000000) (h : Q (.tup l) H) :
  PostV D γ s Q (.ref s.heap.objs.size) { s with heap := s.heap.push { cls := .type "tuple", data := .seq vs.toArray } } :=
 have hk : ∀ b o, s.heap.get? b = some o → (s.heap.push { cls := .type "tuple", data := .seq vs.toArray }).get? b = some o := fun _ _ e => Heap.get?_push_of_some _ e
 PostV.grown (V := .tup l) (tk := s.toks) R hk (Exists.intro _ ⟨vs, rfl, ⟨0, Heap.get?_push_size _ rfl, by rw [r.length]; exact hz⟩, Reps.mono ⟨[], by simp⟩ (fun _ _ => tupAt_grow hk) r⟩) h
end
noncomputable def TopA (D : Wd) (env : Env) : Prop := ∃ e0 outer, D.fr = e0 :: outer ∧ env.frame = e0.frame
structure LRel (D : Wd) (γ : List Addr) (env : Env) (slots : List (Str × Nat)) (h : Heap) (L : Lc) : Prop where
 ns : ∃ m, h.Ns env.locals m ∧ ∀ (x : Str) (i : Nat) (V : V), env.kindOf x = some .local → slots.lookup x = some i → L[i]? = some (some V) → ∃ v, m x = some v ∧ Rep D γ h v V
 cel : ∀ (x : Str), env.kindOf x = some .cell → ∃ c u, env.cells.lookup x = some c ∧ h.IsCell c u ∧ c ∉ γ ∧
  ∀ (i : Nat) (V : V), slots.lookup x = some i → L[i]? = some (some V) → ∃ v, u = some v ∧ Rep D γ h v V
 nin : env.locals ∉ γ
 tp : TopA D env
structure EnvOk (c : CC) (env : Env) : Prop where
 scope : env.scope = c.scope
 kind : c.scope.kind = .function
 globals : env.globals = mainGlobals
 builtins : env.builtins = builtinsNs
noncomputable abbrev bmV : List Value := [.type "ValueError", .type "Exception", .type "BaseException", .type "object"]
noncomputable def ClsAt (h : Heap) (C : Addr) (bm : List Value) : Prop :=
 ∃ N nm q bs hdct sn sub ab col dd k0 k1 k2 k3 k5 mN, h.get? C = some (excClassObj nm q C N bs bm hdct sn sub ab col dd k0 k1 k2 k3 k5 "ValueError.__new__") ∧ h.Ns N mN ∧ mN "__init__" = none ∧ OwnTail h bmV bm
theorem ClsAt.keeps {h h' : Heap} {C : Addr} {bm : List Value} (x : ClsAt h C bm) (hk : ∀ b o, h.get? b = some o → h'.get? b = some o) : ClsAt h' C bm := by
 obtain ⟨N, nm, q, bs, hdct, sn, sub, ab, col, dd, k0, k1, k2, k3, k5, mN, hC, hN, hq, T⟩ := x
 exact ⟨N, nm, q, bs, hdct, sn, sub, ab, col, dd, k0, k1, k2, k3, k5, mN, hk _ _ hC, hN.keeps hk, hq, T.keeps hk⟩
noncomputable def ClsOk (D : Wd) (x : Str) (ups : List Str) (C : Addr) : Prop :=
 ∃ bm, D.mg x = some (.ref C) ∧ ClsAt D.hB C bm ∧
  (∀ (y : Str) (ups' : List Str) (Cy : Addr), (y, ups') ∈ D.ex → D.mg y = some (.ref Cy) → (Value.ref C :: bm).contains (.ref Cy) = ups.contains y)
structure BkOk (D : Wd) (mts : List Str) : Prop where
 cls : ∃ N nm q bs sn sub col dd k0 k1 k2 k3 k5, D.hB.get? D.bk = some (excClassObj nm q D.bk N bs [.type "object"] true sn sub false col dd k0 k1 k2 k3 k5 "object.__new__") ∧ D.hB.Ns N D.mt
 noG : D.mt "__getattribute__" = none
 noH : D.mt "__getattr__" = none
 noS : D.mt "__setattr__" = none
 noF : ∀ x, fldOk x = true → D.mt x = none
 mts : ∀ m, mts.contains m = true → fldOk m = false ∧ (∃ y, typeLookup (.type "object") m = pure y) ∧ ∃ a o, D.mt m = some (.ref a) ∧ D.hB.get? a = some o ∧ o.cls = .type "function" ∧ (∃ fd, o.data = .func fd) ∧ D.fa (Str.ofString "Book." ++ m) = some a
 init : ∃ a o, D.mt "__init__" = some (.ref a) ∧ D.hB.get? a = some o ∧ o.cls = .type "function" ∧ D.fa "Book.__init__" = some a
structure GOk (D : Wd) (G : List (Str × V)) (mts : List Str) : Prop where
 gns : D.hB.Ns mainGlobals D.mg
 bns : D.hB.Ns builtinsNs D.mb
 val : ∀ (x : Str) (V : V), G.lookup x = some V → ∃ v, (D.mg x = some v ∨ (D.mg x = none ∧ D.mb x = some v)) ∧ ∀ γ, Rep D γ D.hB v V
 lim : D.hB.NoLimit
 bk : BkOk D mts
 cls : ∀ (x z : Str) (ups : List Str), G.lookup x = some (.cls z ups) → (z, ups) ∈ D.ex
 exs : ∀ (x : Str) (ups : List Str), (x, ups) ∈ D.ex → ∃ C, ClsOk D x ups C
section
variable {D : Wd} {γ γ1 : List Addr} {H H1 : Hp} {s s1 : Shared} {env : Env} {slots : List (Str × Nat)} {L : Lc}
theorem notin_ext (t : Stp [] γ γ1 s s1) {a : Addr} {o : Obj} (h : a ∉ γ) (e : s.heap.get? a = some o) : a ∉ γ1 := by
 refine e1_2 (t.ext) fun δ e_16 f => ?_
 obtain rfl := e_16
 intro q
 rcases List.mem_append.mp q with q | q
 ·exact h q
 ·rw [f a q] at e; exact no_some e
theorem LRel.stp (l : LRel D γ env slots s.heap L) (R : HRel D γ H s.heap) (t : Stp [] γ γ1 s s1) : LRel D γ1 env slots s1.heap L where
 ns := by
  refine e1_2 (l.ns) fun m n f => ?_
  refine ⟨m, t.ns l.nin (fun h => nomatch h) n, fun x i V a b c => ?_⟩
  refine e1_2 (f x i V a b c) fun v e q => ?_
  exact ⟨v, e, q.stp0 R t⟩
 cel := fun x hx => by
  refine e2_4 (l.cel x hx) fun c u a e_17 hc f => ?_
  obtain ⟨o, ho, hd⟩ := e_17
  refine ⟨c, u, a, ⟨o, t.keep _ _ hc (fun h => nomatch h) (fun es n q => by rw [hd] at q; cases q) ho, hd⟩, notin_ext t hc ho, fun i V b d => ?_⟩
  refine e1_2 (f i V b d) fun v e q => ?_
  exact ⟨v, e, q.stp0 R t⟩
 nin := by
  refine e1_2 (l.ns) fun m e_18 f => ?_
  obtain ⟨o, es, ep, ho, r⟩ := e_18
  exact notin_ext t l.nin ho
 tp := l.tp
theorem LRel.grow {h h' : Heap} (l : LRel D γ env slots h L) (hk : ∀ b o, h.get? b = some o → h'.get? b = some o) : LRel D γ env slots h' L where
 ns := by
  refine e1_2 (l.ns) fun m n f => ?_
  refine ⟨m, n.keeps hk, fun x i V a b c => ?_⟩
  refine e1_2 (f x i V a b c) fun v e q => ?_
  exact ⟨v, e, Rep.mono ⟨[], by simp⟩ (fun _ _ => tupAt_grow hk) q⟩
 cel := fun x hx => by
  refine e2_4 (l.cel x hx) fun c u a q hc f => ?_
  refine ⟨c, u, a, q.keeps hk, hc, fun i V b d => ?_⟩
  refine e1_2 (f i V b d) fun v e q => ?_
  exact ⟨v, e, Rep.mono ⟨[], by simp⟩ (fun _ _ => tupAt_grow hk) q⟩
 nin := l.nin
 tp := l.tp
end
noncomputable def OrcOk (D : Wd) (k : Nat) (Φ : Orc) : Prop := ∀ fr x vs H Q X, Φ x vs H Q X → ∀ A γ s vals a, AOkC { D with fr := fr } k A → HRel { D with fr := fr } γ H s.heap → Reps { D with fr := fr } γ s.heap vals vs → D.fa x = some a →
 (∃ o fd, D.hB.get? a = some o ∧ o.data = .func fd) ∧ wpAny D.M A (call (.ref a) vals) (PostV { D with fr := fr } γ s Q) (PostX { D with fr := fr } γ s X) s
noncomputable def SEP (P : Around → Prop) (D : Wd) (Φ : Orc) (c : CC) (e : Expr) (ie : IE) : Prop := ∀ env A γ H s L Q X, EnvOk c env → P A → HRel D γ H s.heap → LRel D γ env c.slots s.heap L →
 (wp2 Φ ie).E L H Q X → wpAny D.M A (eval e env) (PostV D γ s Q) (PostX D γ s X) s
noncomputable def STP (P : Around → Prop) (D : Wd) (Φ : Orc) (c : CC) (e : Expr) (ie : IE) : Prop := ∀ env A γ H s L Q X, EnvOk c env → P A → HRel D γ H s.heap → LRel D γ env c.slots s.heap L →
 (wp2 Φ ie).T L H Q X → wpAny D.M A (isTrue e env (eval e env)) (PostB D γ s Q) (PostX D γ s X) s
noncomputable abbrev SE (D : Wd) (Φ : Orc) (k : Nat) (c : CC) (e : Expr) (ie : IE) : Prop := SEP (AOk D k) D Φ c e ie
noncomputable abbrev ST (D : Wd) (Φ : Orc) (k : Nat) (c : CC) (e : Expr) (ie : IE) : Prop := STP (AOk D k) D Φ c e ie
end Mine
namespace Mine
open PySem PyProof.Rows
theorem strOk_iff {x : Str} : PyData.strOk x = true ↔ ∀ c ∈ x.cps.toList, c < 0x110000 := by
 unfold PyData.strOk
 rw [← Array.all_toList, List.all_eq_true]
 simp
section
variable {D : Wd} {γ : List Addr} {H : Hp} {s : Shared} {A : Around} {E : Value → Shared → Prop} {Q : V → Hp → Prop} {x : Str} {t : Tok}
theorem rep_b {h : Heap} {b : Bool} : Rep D γ h (.bool b) (.bool b) := rfl
theorem rep_i {h : Heap} {i : Int} {t : Tok} : Rep D γ h (.int i t) (.int i) := Exists.intro t rfl
theorem rep_s {h : Heap} {x : Str} {t : Tok} (f : StrFine x) : Rep D γ h (.str x t) (.str x) := Exists.intro t ⟨rfl, f⟩
theorem lstO_some {o : O} {l : List V} (h : lstO o = some l) : o = .list l := by
 cases o with
 | list _ => exact congrArg O.list (Option.some.inj h)
 | _ => exact no_some h
theorem listAt_at {H : Hp} {i : Nat} {l : List V} (h : listAt H i = some l) : H[i]? = some (.list l) := by
 refine e1_2 (Option.bind_eq_some_iff.mp h) fun o e h => ?_
 rw [e, lstO_some h]
theorem HRel.list {i : Nat} {a : Addr} {l : List V} (R : HRel D γ H s.heap) (hi : γ[i]? = some a) (hl : listAt H i = some l) : ∃ vs n, s.heap.get? a = some { cls := .type "list", data := .seq vs.toArray n } ∧ Reps D γ s.heap vs l ∧ vs.length ≤ 2000000 := R.objs i a _ hi (listAt_at hl)
theorem lenStr_ok (R : HRel D γ H s.heap) (f : StrFine x) (q : Q (.int x.length) H) : wpAny D.M A (call (.builtin "len") [.str x t]) (PostV D γ s Q) E s :=
 PySem.P.len_str (by have := f.1; lia) (PostV.now R rep_i q)
end
end Mine
namespace Mine
open PySem PyProof.Rows
section
variable {D : Wd} {γ : List Addr} {H : Hp} {s : Shared} {A : Around} {E : Value → Shared → Prop}
theorem TupAt.isTup {h : Heap} {a : Addr} {vs : List Value} (x : TupAt h a vs) : IsTup h a vs.toArray := by
 obtain ⟨n, e, _⟩ := x; exact ⟨_, e, rfl, n, rfl⟩
theorem TupAt.isTuple {h : Heap} {a : Addr} {vs : List Value} (x : TupAt h a vs) : h.IsTuple a vs.toArray := by
 obtain ⟨n, e, _⟩ := x; exact ⟨_, e, rfl, n, rfl⟩
theorem TupAt.size {h : Heap} {a : Addr} {vs : List Value} (x : TupAt h a vs) : vs.length ≤ 2000000 := by
 obtain ⟨n, e, z⟩ := x; exact z
theorem strFine_append {x y : Str} (f : StrFine x) (g : StrFine y) (h : x.length + y.length ≤ 1000000) : StrFine (x ++ y) := by
 refine ⟨by rw [strLen_append]; lia, ?_⟩
 have a := f.2; have b := g.2
 unfold PyData.strOk at a b ⊢
 show (x.cps ++ y.cps).all _ = true
 rw [Array.all_append, a, b]; rfl
theorem truth_ok {v : Value} {c : Bool} {Q : Bool → Hp → Prop} (R : HRel D γ H s.heap) (r : Rep D γ s.heap v (.bool c)) (q : Q c H) :
  wpAny D.M A (truthy v) (PostB D γ s Q) E s := by
 obtain rfl := r
 exact wpAny_truthy_bool (PostB.here R q)
theorem neg_ok {v : Value} {i : Int} {Q : V → Hp → Prop} (R : HRel D γ H s.heap) (r : Rep D γ s.heap v (.int i)) (q : Q (.int (-i)) H) :
  wpAny D.M A (unaryOp .USub v) (PostV D γ s Q) E s := by
 obtain ⟨t, rfl⟩ := r
 exact neg_int (PostV.now R rep_i q)
theorem ints_of {D : Wd} {γ : List Addr} {h : Heap} {a b : Value} {Va Vb : V} {P : Int → Int → Prop} {R : Value → Value → Prop} (w : pInt Va Vb P) (ra : Rep D γ h a Va) (rb : Rep D γ h b Vb) (k : ∀ i j t u, P i j → R (.int i t) (.int j u)) : R a b := by
 refine e1_2 (oK_elim w) fun i e1 w => ?_
 refine e1_2 (oK_elim w) fun j e2 w => ?_
 rw [intV_some e1] at ra
 rw [intV_some e2] at rb
 obtain ⟨t, rfl⟩ := ra
 obtain ⟨u, rfl⟩ := rb
 exact k i j t u w
theorem bin_ok {op : Operator} {a b : Value} {Va Vb : V} {Q : V → Hp → Prop} (R : HRel D γ H s.heap) (ra : Rep D γ s.heap a Va) (rb : Rep D γ s.heap b Vb) (h : pBin op Va Vb H Q) :
  wpAny D.M A (binaryOp op a b) (PostV D γ s Q) E s := by
 cases op with
 | Add =>
  replace h : pAdd Va Vb H Q := h
  cases Va with
  | int i =>
   refine e1_2 (oK_elim (show oK (intV Vb) _ from h)) fun j e h => ?_
   rw [intV_some e] at rb
   obtain ⟨t, rfl⟩ := ra; obtain ⟨u, rfl⟩ := rb
   exact add_int (PostV.now R rep_i h)
  | str x =>
   refine e1_2 (oK_elim (show oK (strV Vb) _ from h)) fun y e h => ?_
   rw [strV_some e] at rb
   obtain ⟨t, rfl, f⟩ := ra; obtain ⟨u, rfl, g⟩ := rb
   refine PyProof.Rows.add_str (fun t' tk => PostV.now R (rep_s (strFine_append f g h.1)) h.2) (by rw [sizeLine_eq]; lia)
  | ref i =>
   refine e1_2 (oK_elim (show oK (refV Vb) _ from h)) fun j e h => ?_
   rw [refV_some e] at rb
   obtain ⟨x, hx, rfl⟩ := ra; obtain ⟨y, hy, rfl⟩ := rb
   refine e1_2 (oK_elim h) fun xs h1 h => ?_
   refine e1_3 (oK_elim h) fun ys h2 h3 h4 => ?_
   refine e2_3 (R.list hx h1) fun vs n e rs z => ?_
   refine e2_3 (R.list hy h2) fun ws m e' rs' z' => ?_
   have := rs.length; have := rs'.length
   refine P.add_list (items := vs.toArray) (items2 := ws.toArray) (n := n) (n2 := m) e e' ?_ (by simp [sizeLine_eq]; lia)
   rw [List.append_toArray]
   exact PostV.newList R (rs.append rs') (by simp; lia) h4
  | _ => exact h.elim
 | Sub => exact ints_of (R := fun a b => wpAny D.M A (binaryOp .Sub a b) (PostV D γ s Q) E s) (show pInt Va Vb _ from h) ra rb fun i j t u h => sub_int (PostV.now R rep_i h)
 | Mult =>
  refine ints_of (R := fun a b => wpAny D.M A (binaryOp .Mult a b) (PostV D γ s Q) E s) (show pInt Va Vb _ from h) ra rb fun i j t u h => mul_int (PostV.now R rep_i h.2) ?_
  rcases h.1 with q | q
  ·exact IntMulOk.of_left (intBits_le_64 q.1 q.2)
  ·exact IntMulOk.of_right (intBits_le_64 q.1 q.2)
 | FloorDiv =>
  refine ints_of (R := fun a b => wpAny D.M A (binaryOp .FloorDiv a b) (PostV D γ s Q) E s) (show pInt Va Vb _ from h) ra rb fun i j t u h => ?_
  have hj : j ≠ 0 := by have := h.1.1; lia
  refine floordiv_int hj (PostV.now (V := .int (i.fdiv j)) R rep_i ?_) (.inl (PyProof.noPylong_of_log2 ?_))
  ·rw [Int.fdiv_eq_ediv_of_nonneg _ (by lia)]; exact h.2
  ·have h1 := h.1
   have h2 : j.natAbs < 2 ^ 128 := by lia
   have h3 : j.natAbs ≠ 0 := by lia
   have := (Nat.log2_lt h3).mpr h2
   lia
 | Mod =>
  refine ints_of (R := fun a b => wpAny D.M A (binaryOp .Mod a b) (PostV D γ s Q) E s) (show pInt Va Vb _ from h) ra rb fun i j t u h => ?_
  have hj : j ≠ 0 := by have := h.1.1; lia
  refine mod_int' hj (PostV.now (V := .int (i.fmod j)) R rep_i ?_)
  rw [Int.fmod_eq_emod_of_nonneg _ (by lia)]; exact h.2
 | Pow => exact ints_of (R := fun a b => wpAny D.M A (binaryOp .Pow a b) (PostV D γ s Q) E s) (show pInt Va Vb _ from h) ra rb fun i j t u h => pow_int_small h.1.1 h.1.2.1 h.1.2.2 (PostV.now R rep_i h.2)
 | _ => exact h.elim
theorem seq_pos {k : Int} {n : Nat} (h0 : 0 ≤ k) (h1 : k < (n : Int)) : seqIndex? k n = some k.toNat := by
 have e : (if k < 0 then k + (n : Int) else k) = k := if_neg (by lia)
 show (if (0 ≤ (if k < 0 then k + (n : Int) else k) && decide ((if k < 0 then k + (n : Int) else k) < (n : Int))) = true then some (if k < 0 then k + (n : Int) else k).toNat else none) = _
 rw [e, if_pos (by rw [Bool.and_eq_true, decide_eq_true_eq, decide_eq_true_eq]; exact ⟨h0, h1⟩)]
theorem seq_neg {k : Int} {n : Nat} (h0 : k < 0) (h1 : 0 ≤ k + (n : Int)) : seqIndex? k n = some (k + (n : Int)).toNat := by
 have e : (if k < 0 then k + (n : Int) else k) = k + (n : Int) := if_pos h0
 show (if (0 ≤ (if k < 0 then k + (n : Int) else k) && decide ((if k < 0 then k + (n : Int) else k) < (n : Int))) = true then some (if k < 0 then k + (n : Int) else k).toNat else none) = _
 rw [e, if_pos (by rw [Bool.and_eq_true, decide_eq_true_eq, decide_eq_true_eq]; lia)]
theorem seq_at {α : Type} {l : List α} {k : Int} {v : α} (h : idx l k = some v) : ∃ j, seqIndex? k l.length = some j ∧ l[j]? = some v ∧ -(l.length : Int) ≤ k ∧ k < (l.length : Int) := by
 unfold idx at h
 by_cases h0 : 0 ≤ k
 ·rw [if_pos h0] at h
  have := (List.getElem?_eq_some_iff.mp h).1
  exact ⟨_, seq_pos h0 (by lia), h, by lia, by lia⟩
 ·rw [if_neg h0] at h
  by_cases h1 : 0 ≤ k + (l.length : Int)
  ·rw [if_pos h1] at h
   exact ⟨_, seq_neg (by lia) h1, h, by lia, by lia⟩
  ·rw [if_neg h1] at h; exact no_some h
theorem dctO_some {o : O} {l : List (Str × V)} (h : dctO o = some l) : o = .dict l := by
 cases o with
 | dict _ => exact congrArg O.dict (Option.some.inj h)
 | _ => exact no_some h
theorem HRel.dict {i : Nat} {a : Addr} {es : List (Str × V)} (R : HRel D γ H s.heap) (hi : γ[i]? = some a) (h : dictAt H i = some es) : ∃ kvs, s.heap.DictOf (strKind D.prog D.w) a kvs ∧ FsRep D γ s.heap es (valueAt kvs) ∧ kvs.length ≤ es.length := by
 refine e1_2 (Option.bind_eq_some_iff.mp h) fun o e h => ?_
 rw [dctO_some h] at e
 exact R.objs i a _ hi e
theorem isStr {x : Str} {t : Tok} : Value.isStrOf x (.str x t) = true := beq_self_eq_true x
theorem subI_ok {value slice : Expr} {a b : Value} {Va : V} {k : Int} {Q : V → Hp → Prop} (R : HRel D γ H s.heap) (ra : Rep D γ s.heap a Va) (rb : Rep D γ s.heap b (.int k)) (h : pSubI Va k H Q)
  (hs' : subscripted slice false a b = operate [a, b] (getItem a b)) : wpAny D.M A (subscriptTail value slice a b) (PostV D γ s Q) E s := by
 obtain ⟨u, rfl⟩ := rb
 cases Va with
 | tup l =>
  refine e2_3 ra fun t vs e_19 ta rs => ?_
  obtain rfl := e_19
  refine e1_2 (oK_elim h) fun v hv q => ?_
  have hz := ta.size
  have hn := rs.length
  refine e1_4 (seq_at hv) fun j h0 hv l1 l2 => ?_
  refine e1_2 (rs.get hv) fun w hw rw_ => ?_
  exact item_tupleT (j := j) ta.isTup (by lia) (by lia) (by rw [hn]; exact h0) hw (PostV.here R rw_ q) hs'
 | ref i =>
  refine e1_2 ra fun x hx e_20 => ?_
  obtain rfl := e_20
  refine e1_2 (oK_elim h) fun l hl h => ?_
  refine e1_2 (oK_elim h) fun v hv q => ?_
  refine e2_3 (R.list hx hl) fun vs n e rs hz => ?_
  have hL : s.heap.IsList x vs.toArray := ⟨_, e, rfl, n, rfl⟩
  have hlen := rs.length
  unfold idx at hv
  by_cases h0 : 0 ≤ k
  ·rw [if_pos h0] at hv
   refine e1_2 (rs.get hv) fun w hw rw_ => ?_
   have hlt := (List.getElem?_eq_some_iff.mp hw).1
   exact tail_any hL.typeIs slot_list_getitem.lookup (wpAny_getItem_list hL h0 (by lia) (by rw [List.getElem?_toArray]; exact hw) (PostV.here R rw_ q)) hs'
  ·rw [if_neg h0] at hv
   by_cases h1 : 0 ≤ k + (l.length : Int)
   ·rw [if_pos h1, ← hlen] at hv
    refine e1_2 (rs.get hv) fun w hw rw_ => ?_
    have hsz : vs.toArray.size = vs.length := List.size_toArray
    exact tail_any hL.typeIs slot_list_getitem.lookup (wpAny_getItem_list_neg hL (by lia) (by rw [hsz]; lia) (by lia) (by rw [hsz, List.getElem?_toArray]; exact hw) (PostV.here R rw_ q)) hs'
   ·rw [if_neg h1] at hv; exact no_some hv
 | scr ns =>
  obtain ⟨x, vs, rfl, e, hz, hlen, hI⟩ := ra
  refine e1_2 (oK_elim h) fun v hv q => ?_
  have hL : s.heap.IsList x vs.toArray := let ⟨o, h1, h2, n, h3⟩ := e; ⟨o, R.base _ _ h1, h2, n, h3⟩
  obtain ⟨h0, hv⟩ := idxP_some hv
  obtain ⟨t, hw⟩ := hI _ _ hv
  have hlt := (List.getElem?_eq_some_iff.mp hw).1
  exact tail_any hL.typeIs slot_list_getitem.lookup (wpAny_getItem_list hL h0 (by lia) (by rw [List.getElem?_toArray]; exact hw) (PostV.here (v := .int v t) (V := .int v) R rep_i q)) hs'
 | str x =>
  refine e1_2 ra fun t e_22 fx => ?_
  obtain rfl := e_22
  refine e1_2 (oK_elim h) fun v hv q => ?_
  have hz := fx.1
  have hl : x.cps.toList.length = x.length := Array.length_toList
  obtain ⟨h0, hv⟩ := idxP_some hv
  have hlt := (List.getElem?_eq_some_iff.mp hv).1
  refine tail_any (typeIs_str s x t) F.slot_str_getitem.lookup (P.getItem_str (c := v) (by simp; lia) (by rw [seq_pos h0 (by lia)]; simpa using hv) (PostV.now R (V := .str ⟨#[v]⟩) ?_ q)) hs'
  exact rep_s ⟨by show 1 ≤ _; lia, strOk_iff.mpr fun c hc => by simp at hc; subst hc; exact strOk_iff.mp fx.2 _ (List.mem_of_getElem? hv)⟩
 | _ => exact h.elim
theorem sub_ok {value slice : Expr} {a b : Value} {Va Vb : V} {Q : V → Hp → Prop} (R : HRel D γ H s.heap) (ra : Rep D γ s.heap a Va) (rb : Rep D γ s.heap b Vb) (h : pSub Va Vb H Q)
  (hs : ∀ lo hi st p, slice ≠ .Slice lo hi st p) : wpAny D.M A (subscriptTail value slice a b) (PostV D γ s Q) E s := by
 have hs' : ∀ o i, subscripted slice false o i = operate [o, i] (getItem o i) := fun o i => by
  unfold subscripted
  split
  ·rename_i lo hi p _ _; exact absurd rfl (hs _ _ _ _)
  ·rename_i h1; cases h1
  ·rfl
 cases Vb with
 | str x =>
  refine e1_2 (oK_elim (show oK (refV Va) _ from h)) fun j hj h => ?_
  rw [refV_some hj] at ra
  refine e1_2 (oK_elim h) fun es he h => ?_
  refine e1_2 (oK_elim h) fun v hv q => ?_
  refine e1_2 rb fun t e_23 _ => ?_
  obtain rfl := e_23
  refine e1_2 ra fun a ha e_24 => ?_
  obtain rfl := e_24
  refine e1_3 (R.dict ha he) fun kvs hd hf _ => ?_
  refine e1_2 (hf.1 x v hv) fun w hw rw_ => ?_
  exact tail_any hd.mapOf.typeIs slot_dict_getitem.lookup (wpAny_getItem_of (knd := strKind D.prog D.w) (k := x) (isStr (t := t)) hd.mapOf hw (PostV.now R rw_ q)) (hs' _ _)
 | int k => exact subI_ok R ra rb h (hs' _ _)
 | _ => exact h.elim
end
end Mine
namespace Mine
open PySem PyProof.Rows PySem.SeqAt
mutual
theorem toPy_reads {mg : Wd} {γ : List Addr} {h : Heap} {v : Value} : ∀ {V : V} {d : PyData}, Rep mg γ h v V → toPy V = some d → ∃ as, Reads h v d as ∧ d.canLay0 = true
 | .none, d, r, e => by obtain rfl := r; obtain rfl := Option.some.inj e; exact ⟨_, .none, rfl⟩
 | .bool b, d, r, e => by obtain rfl := r; obtain rfl := Option.some.inj e; exact ⟨_, .bool b, rfl⟩
 | .int i, d, r, e => by obtain ⟨t, rfl⟩ := r; obtain rfl := Option.some.inj e; exact ⟨_, .int i t, rfl⟩
 | .str x, d, r, e => by obtain ⟨t, rfl, f⟩ := r; obtain rfl := Option.some.inj e; exact ⟨_, .str x t, f.2⟩
 | .tup l, d, r, e => by
  refine e2_3 r fun a vs e_25 e_26 rs => ?_
  obtain rfl := e_25
  obtain ⟨n, q, z⟩ := e_26
  refine e1_2 (Option.map_eq_some_iff.mp (show (toPys l).map _ = some d from e)) fun ds hd e_27 => ?_
  obtain rfl := e_27
  refine e1_2 (toPys_reads rs hd) fun as ra c => ?_
  exact ⟨as, .tuple q rfl rfl ra, c⟩
 | .ref i, d, r, e => no_some e
 | .fn i, d, r, e => no_some e
 | .ty i, d, r, e => no_some e
 | .bi i, d, r, e => no_some e
 | .scr i, d, r, e => no_some e
 | .bk, d, r, e => no_some e
 | .cls _ _, d, r, e => no_some e
theorem toPys_reads {mg : Wd} {γ : List Addr} {h : Heap} {vs : List Value} : ∀ {l : List V} {ds : List PyData}, Reps mg γ h vs l → toPys l = some ds → ∃ as, ReadsAll h vs ds as ∧ PyData.canLayAll0 ds = true
 | [], ds, r, e => by obtain rfl := r; obtain rfl := Option.some.inj e; exact ⟨_, .nil, rfl⟩
 | V :: l, ds, r, e => by
  refine e2_3 r fun v r' e_28 a b => ?_
  obtain rfl := e_28
  refine e1_2 (Option.bind_eq_some_iff.mp (show (toPy V).bind _ = some ds from e)) fun d h1 e => ?_
  refine e1_2 (Option.map_eq_some_iff.mp e) fun ds' h2 e_29 => ?_
  obtain rfl := e_29
  refine e1_2 (toPy_reads a h1) fun as q1 c1 => ?_
  refine e1_2 (toPys_reads b h2) fun bs q2 c2 => ?_
  exact ⟨_, .cons q1 q2, by show (d.canLay0 && PyData.canLayAll0 ds') = true; rw [c1, c2]; rfl⟩
end
section
variable {D : Wd} {γ : List Addr} {H : Hp} {s : Shared} {A : Around} {E : Value → Shared → Prop} {k : Nat}
theorem toPyH_reads {v : Value} {V : V} {d : PyData} (R : HRel D γ H s.heap) (r : Rep D γ s.heap v V) (e : toPyH H V = some d) : ∃ as, Reads s.heap v d as ∧ d.canLay0 = true := by
 cases V with
 | ref i =>
  refine e1_2 (Option.map_eq_some_iff.mp (show ((listAt H i).bind toPys).map _ = some d from e)) fun ds hb e_30 => ?_
  obtain rfl := e_30
  refine e1_2 (Option.bind_eq_some_iff.mp hb) fun l hl hd => ?_
  refine e1_2 r fun a hi e_31 => ?_
  obtain rfl := e_31
  refine e2_3 (R.list hi hl) fun vs n q rs z => ?_
  refine e1_2 (toPys_reads rs hd) fun as ra c => ?_
  exact ⟨_, .list q rfl rfl ra, c⟩
 | _ => exact toPy_reads r e
mutual
theorem toPyT_reads {v : Value} (R : HRel D γ H s.heap) : ∀ {V : V} {d : PyData}, Rep D γ s.heap v V → toPyT H V = some d → ∃ as, Reads s.heap v d as ∧ d.canLay0 = true
 | .none, d, r, e => toPy_reads r e
 | .bool b, d, r, e => toPy_reads r e
 | .int i, d, r, e => toPy_reads r e
 | .str x, d, r, e => toPy_reads r e
 | .ref i, d, r, e => toPyH_reads R r e
 | .tup l, d, r, e => by
  refine e2_3 r fun a vs e_32 e_33 rs => ?_
  obtain rfl := e_32
  obtain ⟨n, q, z⟩ := e_33
  refine e1_2 (Option.map_eq_some_iff.mp (show (toPysT H l).map _ = some d from e)) fun ds hd e_34 => ?_
  obtain rfl := e_34
  refine e1_2 (toPysT_reads R rs hd) fun as ra c => ?_
  exact ⟨as, .tuple q rfl rfl ra, c⟩
 | .fn i, d, r, e => no_some e
 | .ty i, d, r, e => no_some e
 | .bi i, d, r, e => no_some e
 | .scr i, d, r, e => no_some e
 | .bk, d, r, e => no_some e
theorem toPysT_reads {vs : List Value} (R : HRel D γ H s.heap) : ∀ {l : List V} {ds : List PyData}, Reps D γ s.heap vs l → toPysT H l = some ds → ∃ as, ReadsAll s.heap vs ds as ∧ PyData.canLayAll0 ds = true
 | [], ds, r, e => by obtain rfl := r; obtain rfl := Option.some.inj e; exact ⟨_, .nil, rfl⟩
 | V :: l, ds, r, e => by
  refine e2_3 r fun v r' e_35 a b => ?_
  obtain rfl := e_35
  refine e1_2 (Option.bind_eq_some_iff.mp (show (toPyT H V).bind _ = some ds from e)) fun d h1 e => ?_
  refine e1_2 (Option.map_eq_some_iff.mp e) fun ds' h2 e_36 => ?_
  obtain rfl := e_36
  refine e1_2 (toPyT_reads R a h1) fun as q1 c1 => ?_
  refine e1_2 (toPysT_reads R b h2) fun bs q2 c2 => ?_
  exact ⟨_, .cons q1 q2, by show (d.canLay0 && PyData.canLayAll0 ds') = true; rw [c1, c2]; rfl⟩
end
theorem room (hA : AOk D k A) {n m : Nat} (h : n ≤ 60) : A.units + min n m < cLine := by
 have := hA.units
 have : min n m ≤ n := Nat.min_le_left _ _
 show _ < 9900
 lia
theorem room1 (hA : AOk D k A) {n m : Nat} (h : n ≤ 60) : A.units + 1 + min m n < cLine := by
 have := hA.units
 have : min m n ≤ n := Nat.min_le_right _ _
 show _ < 9900
 lia
theorem eqH_some {a b : V} {c : Bool} (h : eqH H a b = some c) : ∃ d e, toPyT H a = some d ∧ toPyT H b = some e ∧ d.depth ≤ 60 ∧ c = PyData.eqv d e := by
 refine e1_2 (Option.bind_eq_some_iff.mp h) fun d h1 h => ?_
 refine e1_2 (Option.bind_eq_some_iff.mp h) fun e h2 h => ?_
 by_cases hd : d.depth ≤ 60
 ·rw [if_pos hd] at h; exact ⟨d, e, h1, h2, hd, (Option.some.inj h).symm⟩
 ·rw [if_neg hd] at h; exact no_some h
theorem memV_some {a : V} {l : List V} {c : Bool} (h : memV a l = some c) : ∃ d ds, toPy a = some d ∧ toPys l = some ds ∧ d.depth ≤ 60 ∧ c = ds.any fun e => PyData.eqv e d := by
 refine e1_2 (Option.bind_eq_some_iff.mp h) fun d h1 h => ?_
 refine e1_2 (Option.bind_eq_some_iff.mp h) fun e h2 h => ?_
 by_cases hd : d.depth ≤ 60
 ·rw [if_pos hd] at h; exact ⟨d, e, h1, h2, hd, (Option.some.inj h).symm⟩
 ·rw [if_neg hd] at h; exact no_some h
theorem in_ok {n : Bool} {a b : Value} {Va Vb : V} {P : Bool → Prop} {Q : Value → Shared → Prop} (hA : AOk D k A) (R : HRel D γ H s.heap) (ra : Rep D γ s.heap a Va) (rb : Rep D γ s.heap b Vb) (h : pIn Va Vb H P) (hq : ∀ c, P c → Q (.bool (if n then !c else c)) s) :
  wpAny D.M A (compareOp (if n then .NotIn else .In) a b) Q E s := by
 cases Vb with
 | str x =>
  refine e1_2 (oK_elim h) fun y hy q => ?_
  rw [strV_some hy] at ra
  refine e1_2 ra fun u e_37 _ => ?_
  obtain rfl := e_37
  refine e1_2 rb fun t e_38 _ => ?_
  obtain rfl := e_38
  cases n with
  | true => exact PySem.P.notIn_str (hq _ q)
  | false => exact PySem.P.in_str (hq _ q)
 | tup l =>
  refine e1_2 (oK_elim h) fun c hc q => ?_
  refine e2_4 (memV_some hc) fun d ds h1 h2 hd e_39 => ?_
  obtain rfl := e_39
  refine e1_2 (toPy_reads ra h1) fun as r1 c1 => ?_
  obtain ⟨bs, r2, c2⟩ := toPy_reads (d := .tuple ds) rb (show (toPys l).map PyData.tuple = _ by rw [h2]; rfl)
  cases n with
  | true => exact notIn_tuple_reads r2 r1 c2 c1 (room1 hA hd) (hq _ q)
  | false => exact in_tuple_reads r2 r1 c2 c1 (room1 hA hd) (hq _ q)
 | ref i =>
  refine e1_2 (oK_elim h) fun l hl h => ?_
  refine e1_2 (oK_elim h) fun c hc q => ?_
  refine e2_4 (memV_some hc) fun d ds h1 h2 hd e_40 => ?_
  obtain rfl := e_40
  refine e1_2 (toPy_reads ra h1) fun as r1 c1 => ?_
  obtain ⟨bs, r2, c2⟩ := toPyH_reads (d := .list ds) R rb (show ((listAt H i).bind toPys).map PyData.list = _ by rw [hl]; show (toPys l).map _ = _; rw [h2]; rfl)
  cases n with
  | true => exact notIn_list_reads r2 r1 c2 c1 (room1 hA hd) (hq _ q)
  | false => exact in_list_reads r2 r1 c2 c1 (room1 hA hd) (hq _ q)
 | _ => exact h.elim
theorem isNoneV_eq {v : V} (h : isNoneV v = true) : v = .none := by
 cases v with
 | none => rfl
 | _ => exact Bool.noConfusion h
theorem none_rep {v : Value} : ∀ {V : V}, Rep D γ s.heap v V → (v == Value.none) = isNoneV V
 | .none, r => by obtain rfl := r; rfl
 | .bool _, r => by obtain rfl := r; rfl
 | .int _, ⟨t, e⟩ => by rw [e]; rfl
 | .str _, ⟨t, e, _⟩ => by rw [e]; rfl
 | .tup _, ⟨a, vs, e, _⟩ => by rw [e]; rfl
 | .ref _, ⟨a, _, e⟩ => by rw [e]; rfl
 | .fn _, ⟨a, e, _⟩ => by rw [e]; rfl
 | .ty _, r => by obtain rfl := r; rfl
 | .bi _, r => by obtain rfl := r; rfl
 | .scr _, ⟨a, vs, e, _⟩ => by rw [e]; rfl
 | .bk, r => by obtain rfl := r; rfl
 | .cls _ _, ⟨a, e, _⟩ => by rw [e]; rfl
theorem isnot_none {M : Model} {v : Value} {Q : Value → Shared → Prop} (h : Q (.bool (!(v == .none))) s) : wpAny M A (compareOp .IsNot v .none) Q E s := by
 show wpAny M A (do return .bool (!(← isSame v .none))) Q E s
 rw [isSame_none]; exact wpAny_bind (wpAny_pure (wpAny_pure h))
theorem cmp_ok {op : CmpOp} {a b : Value} {Va Vb : V} {Q : V → Hp → Prop} (hA : AOk D k A) (R : HRel D γ H s.heap) (ra : Rep D γ s.heap a Va) (rb : Rep D γ s.heap b Vb) (h : pCmp op Va Vb H Q) :
  wpAny D.M A (compareOp op a b) (PostV D γ s Q) E s := by
 cases op with
 | Eq =>
  refine e1_2 (oK_elim (show oK (eqH H Va Vb) _ from h)) fun c hc q => ?_
  refine e2_4 (eqH_some hc) fun d e h1 h2 hd e_41 => ?_
  obtain rfl := e_41
  refine e1_2 (toPyT_reads R ra h1) fun as r1 c1 => ?_
  refine e1_2 (toPyT_reads R rb h2) fun bs r2 c2 => ?_
  exact compareEq_reads r1 r2 c1 c2 (room hA hd) (PostV.here R rep_b q)
 | NotEq =>
  refine e1_2 (oK_elim (show oK (eqH H Va Vb) _ from h)) fun c hc q => ?_
  refine e2_4 (eqH_some hc) fun d e h1 h2 hd e_42 => ?_
  obtain rfl := e_42
  refine e1_2 (toPyT_reads R ra h1) fun as r1 c1 => ?_
  refine e1_2 (toPyT_reads R rb h2) fun bs r2 c2 => ?_
  exact compareNe_reads r1 r2 c1 c2 (room hA hd) (PostV.here R rep_b q)
 | Lt => exact ints_of (R := fun a b => wpAny D.M A (compareOp .Lt a b) (PostV D γ s Q) E s) (show pInt Va Vb _ from h) ra rb fun i j t u h => lt_int (PostV.here R rep_b h)
 | LtE => exact ints_of (R := fun a b => wpAny D.M A (compareOp .LtE a b) (PostV D γ s Q) E s) (show pInt Va Vb _ from h) ra rb fun i j t u h => le_int (PostV.here R rep_b h)
 | Gt => exact ints_of (R := fun a b => wpAny D.M A (compareOp .Gt a b) (PostV D γ s Q) E s) (show pInt Va Vb _ from h) ra rb fun i j t u h => gt_int (PostV.here R rep_b h)
 | GtE => exact ints_of (R := fun a b => wpAny D.M A (compareOp .GtE a b) (PostV D γ s Q) E s) (show pInt Va Vb _ from h) ra rb fun i j t u h => ge_int (PostV.here R rep_b h)
 | In => exact in_ok (n := false) (P := fun c => Q (.bool c) H) hA R ra rb h fun c q => PostV.here R rep_b q
 | NotIn => exact in_ok (n := true) (P := fun c => Q (.bool (!c)) H) hA R ra rb h fun c q => PostV.here R rep_b q
 | Is =>
  obtain ⟨rfl, q⟩ := noneP_elim (show noneP Vb _ from h)
  obtain rfl := rb
  exact is_none (PostV.here R rep_b (by rw [none_rep ra]; exact q))
 | IsNot =>
  obtain ⟨rfl, q⟩ := noneP_elim (show noneP Vb _ from h)
  obtain rfl := rb
  exact isnot_none (PostV.here R rep_b (by rw [none_rep ra]; exact q))
theorem len_ok {v : Value} {n : Int} {Q : V → Hp → Prop} {V : V} (R : HRel D γ H s.heap) (r : Rep D γ s.heap v V)
  (h : (∃ l, V = .tup l ∧ n = (l.length : Int)) ∨ (∃ i l, V = .ref i ∧ listAt H i = some l ∧ n = (l.length : Int))) (q : Q (.int n) H) :
  wpAny D.M A (call (.builtin "len") [v]) (PostV D γ s Q) E s := by
 rcases h with ⟨l, rfl, rfl⟩ | ⟨i, l, rfl, hl, rfl⟩
 ·refine e2_3 r fun a vs e_43 t rs => ?_
  obtain rfl := e_43
  have := t.size; have hlen := rs.length
  refine len_tuple t.isTup (by simp; lia) (PostV.now R ?_ q)
  exact Exists.intro (s.toks + 1) (by simp [hlen])
 ·refine e1_2 r fun a hi e_44 => ?_
  obtain rfl := e_44
  refine e2_3 (R.list hi hl) fun vs n e rs z => ?_
  have hlen := rs.length
  refine len_list (items := vs.toArray) ⟨_, e, rfl, n, rfl⟩ (by simp; lia) (PostV.now R ?_ q)
  exact Exists.intro (s.toks + 1) (by simp [hlen])
end
end Mine
namespace Mine
open PySem PyProof.Rows PySem.SeqAt
section
variable {D : Wd} {γ : List Addr} {H : Hp} {s : Shared} {A : Around} {E : Value → Shared → Prop} {k : Nat}
theorem isi_ok {v : Value} {t : Ty} {c : Bool} {Q : V → Hp → Prop} {W : V} (R : HRel D γ H s.heap) (r : Rep D γ s.heap v W) (h : isInstH H W t = some c) (q : Q (.bool c) H) :
  wpAny D.M A (call (.builtin "isinstance") [v, .type t.name]) (PostV D γ s Q) E s := by
 cases W with
 | none =>
  obtain rfl := r
  cases t with
  | int => obtain rfl := Option.some.inj h; exact IsiPair.NoneType_int (PostV.now R rep_b q)
  | bool => obtain rfl := Option.some.inj h; exact IsiPair.NoneType_bool (PostV.now R rep_b q)
  | str => obtain rfl := Option.some.inj h; exact IsiPair.NoneType_str (PostV.now R rep_b q)
  | tuple => obtain rfl := Option.some.inj h; exact IsiPair.NoneType_tuple (PostV.now R rep_b q)
  | list => obtain rfl := Option.some.inj h; exact IsiPair.NoneType_list (PostV.now R rep_b q)
  | _ => exact no_some h
 | bool b =>
  obtain rfl := r
  cases t with
  | int => obtain rfl := Option.some.inj h; exact IsiPair.bool_int (PostV.here R rep_b q)
  | bool => obtain rfl := Option.some.inj h; exact IsiPair.bool_bool (PostV.here R rep_b q)
  | str => obtain rfl := Option.some.inj h; exact IsiPair.bool_str (PostV.now R rep_b q)
  | tuple => obtain rfl := Option.some.inj h; exact IsiPair.bool_tuple (PostV.now R rep_b q)
  | list => obtain rfl := Option.some.inj h; exact IsiPair.bool_list (PostV.now R rep_b q)
  | _ => exact no_some h
 | int i =>
  obtain ⟨u, rfl⟩ := r
  cases t with
  | int => obtain rfl := Option.some.inj h; exact IsiPair.int_int (PostV.here R rep_b q)
  | bool => obtain rfl := Option.some.inj h; exact IsiPair.int_bool (PostV.now R rep_b q)
  | str => obtain rfl := Option.some.inj h; exact IsiPair.int_str (PostV.now R rep_b q)
  | tuple => obtain rfl := Option.some.inj h; exact IsiPair.int_tuple (PostV.now R rep_b q)
  | list => obtain rfl := Option.some.inj h; exact IsiPair.int_list (PostV.now R rep_b q)
  | _ => exact no_some h
 | str x =>
  refine e1_2 r fun u e_45 _ => ?_
  obtain rfl := e_45
  cases t with
  | int => obtain rfl := Option.some.inj h; exact IsiPair.str_int (PostV.now R rep_b q)
  | bool => obtain rfl := Option.some.inj h; exact IsiPair.str_bool (PostV.now R rep_b q)
  | str => obtain rfl := Option.some.inj h; exact IsiPair.str_str (PostV.here R rep_b q)
  | tuple => obtain rfl := Option.some.inj h; exact IsiPair.str_tuple (PostV.now R rep_b q)
  | list => obtain rfl := Option.some.inj h; exact IsiPair.str_list (PostV.now R rep_b q)
  | _ => exact no_some h
 | tup l =>
  refine e2_3 r fun a vs e_46 e_47 _ => ?_
  obtain rfl := e_46
  obtain ⟨n, e, _⟩ := e_47
  cases t with
  | int => obtain rfl := Option.some.inj h; exact IsiPair.tuple_int e rfl (PostV.now R rep_b q)
  | bool => obtain rfl := Option.some.inj h; exact IsiPair.tuple_bool e rfl (PostV.now R rep_b q)
  | str => obtain rfl := Option.some.inj h; exact IsiPair.tuple_str e rfl (PostV.now R rep_b q)
  | tuple => obtain rfl := Option.some.inj h; exact IsiPair.tuple_tuple e rfl (PostV.here R rep_b q)
  | list => obtain rfl := Option.some.inj h; exact IsiPair.tuple_list e rfl (PostV.now R rep_b q)
  | _ => exact no_some h
 | ref i =>
  refine e1_2 r fun a hi e_48 => ?_
  obtain rfl := e_48
  have hl0 : ∃ l, listAt H i = some l ∧ c = subTy .list t ∧ isiTy t = true := by
   cases ht : isiTy t with
   | false => unfold isInstH at h; rw [ht] at h; exact no_some h
   | true =>
    unfold isInstH at h; rw [ht] at h
    refine e1_2 (Option.map_eq_some_iff.mp h) fun y h1 h2 => ?_
    refine e1_2 (Option.map_eq_some_iff.mp h1) fun l h3 h4 => ?_
    exact ⟨l, h3, by rw [← h2, ← h4], rfl⟩
  refine e1_3 hl0 fun l hl e_49 ht => ?_
  obtain rfl := e_49
  refine e2_3 (R.list hi hl) fun vs n e rs z => ?_
  cases t with
  | int => exact IsiPair.list_int e rfl (PostV.now R rep_b q)
  | bool => exact IsiPair.list_bool e rfl (PostV.now R rep_b q)
  | str => exact IsiPair.list_str e rfl (PostV.now R rep_b q)
  | tuple => exact IsiPair.list_tuple e rfl (PostV.now R rep_b q)
  | list => exact IsiPair.list_list e rfl (PostV.here R rep_b q)
  | _ => exact Bool.noConfusion ht
 | _ => cases t <;> exact no_some h
theorem boolV_some {v : V} {b : Bool} (h : boolV v = some b) : v = .bool b := by
 cases v with
 | bool _ => exact congrArg V.bool (Option.some.inj h)
 | _ => exact no_some h
theorem allBools_reps {mg : Wd} {h : Heap} : ∀ {l : List V} {bs : List Bool} {vs : List Value}, allBools l = some bs → Reps mg γ h vs l → vs = bs.map Value.bool
 | [], bs, vs, e, r => by obtain rfl := Option.some.inj e; exact r
 | u :: l, bs, vs, e, r => by
  refine e1_2 (Option.bind_eq_some_iff.mp (show (boolV u).bind _ = some bs from e)) fun b hb e => ?_
  refine e1_2 (Option.map_eq_some_iff.mp e) fun cs hc e_50 => ?_
  obtain rfl := e_50
  refine e2_3 r fun v w e_51 a b' => ?_
  obtain rfl := e_51
  rw [boolV_some hb] at a
  obtain rfl := a
  rw [allBools_reps hc b']; rfl
theorem any_ok {i : Nat} {v : Value} {l : List V} {bs : List Bool} {Q : V → Hp → Prop} (hA : AOk D k A) (R : HRel D γ H s.heap) (r : Rep D γ s.heap v (.ref i)) (hl : listAt H i = some l) (hb : allBools l = some bs)
  (q : Q (.bool (bs.any id)) H) : wpAny D.M A (call (.builtin "any") [v]) (PostV D γ s Q) E s := by
 refine e1_2 r fun a hi e_52 => ?_
 obtain rfl := e_52
 refine e2_3 (R.list hi hl) fun vs n e rs z => ?_
 have hvs := allBools_reps hb rs
 subst hvs
 have hL : s.heap.IsList a (bs.map Value.bool).toArray := ⟨_, e, rfl, n, rfl⟩
 refine call_any_walk (wpAny_pyIter_list hL ?_)
 have ha : a ≠ s.heap.objs.size := Nat.ne_of_lt (Heap.lt_size e)
 refine ⟨_, _, _, _, _, _, fun j => bs.getD j false, rfl, Walks.list (by exact hA.handled) s.heap.objs.size a ha (bs.map Value.bool).toArray, ?_, ?_, ?_⟩
 ·refine ⟨⟨_, Heap.get?_push_size _ rfl, rfl, rfl⟩, ⟨_, Heap.get?_push_of_some _ e, rfl, n, rfl⟩⟩
 ·intro j v s' Q' E' hv hq
  have : v = .bool (bs.getD j false) := by
   rw [List.getElem?_toArray, List.getElem?_map, Option.map_eq_some_iff] at hv
   refine e1_2 hv fun b hb1 e_53 => ?_
   obtain rfl := e_53
   simp [List.getD, hb1]
  subst this
  exact wpAny_truthy_bool hq
 ·intro h' tk hk
  have e1 : (List.range (bs.map Value.bool).toArray.size).any (fun j => bs.getD j false) = bs.any id := by
   simp only [List.size_toArray, List.length_map]
   rw [Bool.eq_iff_iff]
   simp only [List.any_eq_true, List.mem_range, id]
   constructor
   ·rintro ⟨j, hj, hx⟩
    exact ⟨bs[j], List.getElem_mem hj, by simpa [List.getD, hj] using hx⟩
   ·rintro ⟨b, hb', hx⟩
    obtain ⟨j, hj, rfl⟩ := List.getElem_of_mem hb'
    exact ⟨j, hj, by simpa [List.getD, hj] using hx⟩
  have hkk : ∀ b o, s.heap.get? b = some o → h'.get? b = some o := fun b o eb => hk b o (by
   intro hm; simp at hm; subst hm; exact absurd (Heap.lt_size eb) (Nat.lt_irrefl _)) (Heap.get?_push_of_some _ eb)
  rw [e1]
  exact PostV.grown R hkk rep_b q
theorem int_of_bool_ok {v : Value} {b : Bool} {Q : V → Hp → Prop} (R : HRel D γ H s.heap) (r : Rep D γ s.heap v (.bool b)) (q : Q (.int (if b then 1 else 0)) H) :
  wpAny D.M A (call (.type "int") [v]) (PostV D γ s Q) E s := by
 obtain rfl := r
 exact call_int_bool (PostV.now R rep_i q)
theorem tuple_of_list_ok {v : Value} {i : Nat} {l : List V} {Q : V → Hp → Prop} (R : HRel D γ H s.heap) (r : Rep D γ s.heap v (.ref i)) (hl : listAt H i = some l) (q : Q (.tup l) H) :
  wpAny D.M A (call (.type "tuple") [v]) (PostV D γ s Q) E s := by
 refine e1_2 r fun a hi e_55 => ?_
 obtain rfl := e_55
 refine e2_3 (R.list hi hl) fun vs n e rs z => ?_
 refine call_tuple_list (items := vs.toArray) ⟨_, e, rfl, n, rfl⟩ (fun h' hk => ?_) (by simp [sizeLine_eq]; lia)
 have hk' : ∀ b o, s.heap.get? b = some o → (h'.push { cls := .type "tuple", data := .seq vs.toArray }).get? b = some o := fun b o eb => Heap.get?_push_of_some _ (hk b o eb)
 refine PostV.grown (V := .tup l) (tk := s.toks) R hk' ?_ q
 exact Exists.intro _ ⟨vs, rfl, ⟨0, Heap.get?_push_size _ rfl, z⟩, Reps.mono ⟨[], by simp⟩ (fun _ _ => tupAt_grow hk') rs⟩
theorem list_of_ok {v : Value} {i : Nat} {l : List V} {Q : V → Hp → Prop} (R : HRel D γ H s.heap) (r : Rep D γ s.heap v (.ref i)) (hl : listAt H i = some l) (q : Q (.ref H.length) (H ++ [.list l])) :
  wpAny D.M A (call (.type "list") [v]) (PostV D γ s Q) E s := by
 refine e1_2 r fun a hi e_56 => ?_
 obtain rfl := e_56
 refine e2_3 (R.list hi hl) fun vs n e rs z => ?_
 refine call_list_seq a (T := "list") (items := vs.toArray) (.inl rfl) e rfl rfl (fun h' c' hk hn => ?_) (by rw [sizeLine_eq]; show vs.length ≤ _; lia)
 exact PostV.addList (tk := s.toks) R rs (by rw [← rs.length]; exact z) hk (none_end _) hn q
theorem max_ok {a b : Int} {v u : Value} {Q : V → Hp → Prop} (hA : AOk D k A) (R : HRel D γ H s.heap) (r : Rep D γ s.heap v (.int a)) (r' : Rep D γ s.heap u (.int b)) (q : Q (.int (max a b)) H) :
  wpAny D.M A (call (.builtin "max") [v, u]) (PostV D γ s Q) E s := by
 obtain ⟨t, rfl⟩ := r; obtain ⟨t', rfl⟩ := r'
 refine max_two_ints hA.handled fun h' tk hk => ?_
 by_cases c : b > a
 ·rw [if_pos c]
  have e : max a b = b := by lia
  rw [e] at q
  exact PostV.grown R hk rep_i q
 ·rw [if_neg c]
  have e : max a b = a := by lia
  rw [e] at q
  exact PostV.grown R hk rep_i q
theorem min_ok {a b : Int} {v u : Value} {Q : V → Hp → Prop} (hA : AOk D k A) (R : HRel D γ H s.heap) (r : Rep D γ s.heap v (.int a)) (r' : Rep D γ s.heap u (.int b)) (q : Q (.int (min a b)) H) :
  wpAny D.M A (call (.builtin "min") [v, u]) (PostV D γ s Q) E s := by
 obtain ⟨t, rfl⟩ := r; obtain ⟨t', rfl⟩ := r'
 refine min_two_ints hA.handled fun h' tk hk => ?_
 by_cases c : b < a
 ·rw [if_pos c]
  have e : min a b = b := by lia
  rw [e] at q
  exact PostV.grown R hk rep_i q
 ·rw [if_neg c]
  have e : min a b = a := by lia
  rw [e] at q
  exact PostV.grown R hk rep_i q
theorem len_any {v : Value} {W : V} {Q : V → Hp → Prop} (R : HRel D γ H s.heap) (a : Rep D γ s.heap v W) (h : pLen W H Q) : wpAny D.M A (call (.builtin "len") [v]) (PostV D γ s Q) E s := by
 cases W with
 | tup l => exact len_ok R a (.inl ⟨_, rfl, rfl⟩) h
 | ref i =>
  refine e1_2 (oK_elim h) fun l hl q => ?_
  exact len_ok R a (.inr ⟨_, l, rfl, hl, rfl⟩) q
 | scr ns =>
  obtain ⟨x, ws, rfl, e, hz, hlen, hI⟩ := a
  refine len_list (items := ws.toArray) (let ⟨o, h1, h2, n, h3⟩ := e; ⟨o, R.base _ _ h1, h2, n, h3⟩) (by show (ws.length : Int) < _; lia) (PostV.now R ?_ h)
  exact Exists.intro (s.toks + 1) (by simp [hlen])
 | str x => obtain ⟨t, rfl, f⟩ := a; exact lenStr_ok R f h
 | _ => exact h.elim
theorem ty_ok {b : Ty} {v : Value} {W : V} {Q : V → Hp → Prop} (R : HRel D γ H s.heap) (a : Rep D γ s.heap v W) (h : pTy1 b W H Q) : wpAny D.M A (call (.type b.name) [v]) (PostV D γ s Q) E s := by
 cases b with
 | int =>
  refine e1_2 (oK_elim (show oK (boolV W) _ from h)) fun b hb q => ?_
  rw [boolV_some hb] at a
  exact int_of_bool_ok R a q
 | tuple =>
  refine e1_2 (oK_elim (show oK (refV W) _ from h)) fun i hi h => ?_
  rw [refV_some hi] at a
  refine e1_2 (oK_elim h) fun l hl q => ?_
  exact tuple_of_list_ok R a hl q
 | list =>
  refine e1_2 (oK_elim (show oK (refV W) _ from h)) fun i hi h => ?_
  rw [refV_some hi] at a
  refine e1_2 (oK_elim h) fun l hl q => ?_
  exact list_of_ok R a hl q
 | _ => exact h.elim
theorem call_ok {Φ : Orc} {f : Value} {vals : List Value} {vs : List V} {Q : V → Hp → Prop} {X : XL} {W : V} (hA : AOk D k A) (R : HRel D γ H s.heap) (rf : Rep D γ s.heap f W) (rv : Reps D γ s.heap vals vs)
  (h : pCall Φ W vs H Q X) (hn : ∀ x, W ≠ .fn x) : wpAny D.M A (call f vals) (PostV D γ s Q) (PostX D γ s X) s := by
 cases W with
 | fn x => exact absurd rfl (hn _)
 | bi b =>
  obtain rfl := rf
  cases b with
  | len =>
   refine e1_2 (on1P_elim (show on1P vs _ from h)) fun W e_58 h => ?_
   obtain rfl := e_58
   refine e2_3 rv fun v r e_59 a e_60 => ?_
   obtain rfl := e_59
   obtain rfl := e_60
   exact len_any R a h
  | isinstance =>
   refine e2_2 (on2P_elim (show on2P vs _ from h)) fun W W' e_61 h => ?_
   obtain rfl := e_61
   obtain ⟨v, r, rfl, a, u, r', rfl, b, rfl⟩ := rv
   refine e1_2 (oK_elim h) fun t ht h => ?_
   rw [tyV_some ht] at b
   obtain rfl := b
   refine e1_2 (oK_elim h) fun c hc q => ?_
   exact isi_ok R a hc q
  | any =>
   refine e1_2 (on1P_elim (show on1P vs _ from h)) fun W e_65 h => ?_
   obtain rfl := e_65
   refine e2_3 rv fun v r e_66 a e_67 => ?_
   obtain rfl := e_66
   obtain rfl := e_67
   refine e1_2 (oK_elim h) fun i hi h => ?_
   rw [refV_some hi] at a
   refine e1_2 (oK_elim h) fun l hl h => ?_
   refine e1_2 (oK_elim h) fun bs hb q => ?_
   exact any_ok hA R a hl hb q
  | max =>
   refine e2_2 (on2P_elim (show on2P vs _ from h)) fun W W' e_68 h => ?_
   obtain rfl := e_68
   obtain ⟨v, r, rfl, a, u, r', rfl, b, rfl⟩ := rv
   refine e2_3 (pInt_elim h) fun i j e_72 e_73 h => ?_
   obtain rfl := e_72
   obtain rfl := e_73
   exact max_ok hA R a b h
  | min =>
   refine e2_2 (on2P_elim (show on2P vs _ from h)) fun W W' e_74 h => ?_
   obtain rfl := e_74
   obtain ⟨v, r, rfl, a, u, r', rfl, b, rfl⟩ := rv
   refine e2_3 (pInt_elim h) fun i j e_78 e_79 h => ?_
   obtain rfl := e_78
   obtain rfl := e_79
   exact min_ok hA R a b h
 | ty b =>
  obtain rfl := rf
  refine e1_2 (on1P_elim (show on1P vs _ from h)) fun W e_80 h => ?_
  obtain rfl := e_80
  refine e2_3 rv fun v r e_81 a e_82 => ?_
  obtain rfl := e_81
  obtain rfl := e_82
  exact ty_ok R a h
 | _ => exact h.elim
theorem append_ok {i : Nat} {o v : Value} {l : List V} {Q : V → Hp → Prop} {W : V} (R : HRel D γ H s.heap) (ro : Rep D γ s.heap o (.ref i)) (r : Rep D γ s.heap v W) (hl : listAt H i = some l) (hz : l.length ≤ 1000000)
  (q : Q .none (H.set i (.list (l ++ [W])))) : wpAny D.M A (call (.builtin "list.append") [o, v]) (PostV D γ s Q) E s := by
 refine e1_2 ro fun a hi e_83 => ?_
 obtain rfl := e_83
 refine e2_3 (R.list hi hl) fun vs n e rs z => ?_
 have hlen := rs.length
 refine wpAny_list_append_plain (items := vs.toArray) ⟨n, e⟩ (fun h' hp hs => ?_) (by simp [sizeLine_eq]; lia)
 obtain ⟨m, hm⟩ := hp
 have em : vs.toArray.push v = (vs ++ [v]).toArray := by simp
 rw [em] at hm
 exact PostV.setList (tk := s.toks) R hi (rs.append (Reps.one r)) (by simp; lia) (fun b o' hb e' => hs.extBut b o' hb e') hm (show Rep _ _ _ _ .none from rfl) q
theorem strs_are : ∀ {l : List V} {ys : List Str} {vs : List Value}, strsOf l = some ys → Reps D γ s.heap vs l → StrsAre vs ys
 | [], ys, vs, h, r => by obtain rfl := Option.some.inj h; obtain rfl := r; exact .nil
 | v :: l, ys, vs, h, r => by
  refine e2_3 r fun w ws e_84 a b => ?_
  obtain rfl := e_84
  refine e1_2 (Option.bind_eq_some_iff.mp (show (strV v).bind _ = some ys from h)) fun y hy h => ?_
  refine e1_2 (Option.map_eq_some_iff.mp h) fun zs hz e_85 => ?_
  obtain rfl := e_85
  rw [strV_some hy] at a
  refine e1_2 a fun u e_86 _ => ?_
  obtain rfl := e_86
  exact .cons y u (strs_are hz b)
theorem countIn_strs {y : Str} : ∀ {ys : List Str}, Spec.countIn (.str y) (ys.map PyData.str) = ((ys.count y : Nat) : Int)
 | [] => rfl
 | z :: r => by
  show (if Spec.same (.str z) (.str y) then 1 else 0) + Spec.countIn (.str y) (r.map PyData.str) = _
  rw [countIn_strs, List.count_cons]
  show (if (z == y) = true then (1 : Int) else 0) + _ = _
  cases z == y <;> simp <;> lia
theorem count_ok {i : Nat} {o v : Value} {l : List V} {ys : List Str} {y : Str} {Q : V → Hp → Prop} (R : HRel D γ H s.heap) (ro : Rep D γ s.heap o (.ref i)) (r : Rep D γ s.heap v (.str y)) (hl : listAt H i = some l) (hy : strsOf l = some ys)
  (q : Q (.int ((ys.count y : Nat) : Int)) H) : wpAny D.M A (call (.builtin "list.count") [o, v]) (PostV D γ s Q) E s := by
 refine e1_2 ro fun a hi e_87 => ?_
 obtain rfl := e_87
 refine e1_2 r fun t e_88 _ => ?_
 obtain rfl := e_88
 refine e2_3 (R.list hi hl) fun vs n e rs z => ?_
 exact count_list_strs ⟨_, e, rfl, n, rfl⟩ (strs_are hy rs) (PostV.now R rep_i (by rw [countIn_strs]; exact q))
end
end Mine
namespace Mine
open PySem PyProof.Rows
section
variable {D : Wd} {Φ : Orc} {k : Nat}
theorem mapO_cons {α β : Type} {f : α → Option β} {a : α} {r : List α} {l : List β} (h : mapO f (a :: r) = some l) : ∃ b bs, l = b :: bs ∧ f a = some b ∧ mapO f r = some bs := by
 refine e1_2 (Option.bind_eq_some_iff.mp (show (f a).bind _ = some l from h)) fun b h1 h => ?_
 refine e1_2 (Option.map_eq_some_iff.mp h) fun bs h2 h => ?_
 exact ⟨b, bs, h.symm, h1, h2⟩
theorem mapO_nil {α β : Type} {f : α → Option β} {l : List β} (h : mapO f ([] : List α) = some l) : l = [] := (Option.some.inj h).symm
theorem starEach_of {env : Env} {pos : Pos} : ∀ {args : List Expr}, args.any isStar = false → backTo pos (starEach args env) = args.map fun e => (false, eval e env)
 | [], _ => rfl
 | e :: r, h => by
  rw [List.any_cons, Bool.or_eq_false_iff] at h
  have ih := starEach_of (env := env) (pos := pos) h.2
  have e1 : starEach (e :: r) env = (false, eval e env) :: starEach r env := by
   cases e <;> first | rfl | exact Bool.noConfusion h.1
  rw [e1]
  show ((false, eval e env) :: backTo pos (starEach r env)) = _
  rw [ih]; rfl
theorem spliced_ok {c : CC} {n : Nat} (ih : ∀ e ie, compE n c e = some ie → SE D Φ k c e ie) {env : Env} {A : Around} {X : XL} (he : EnvOk c env) (hA : AOk D k A) {L : Lc} : ∀ (args : List Expr) (ies : List IE) (γ : List Addr) (H : Hp) (s : Shared) (Q : List V → Hp → Prop),
  mapO (compE n c) args = some ies → HRel D γ H s.heap → LRel D γ env c.slots s.heap L → wpEs Φ ies L H Q X →
  wpAny D.M A (spliced (args.map fun e => (false, eval e env))) (PostL D γ s Q) (PostX D γ s X) s
 | [], ies, γ, H, s, Q, hm, R, _, h => by
  rw [mapO_nil hm] at h
  exact Calls.spliced_nil ⟨γ, [], H, Stp.refl, R, (show Reps _ _ _ [] [] from rfl), h⟩
 | e :: r, ies, γ, H, s, Q, hm, R, l, h => by
  refine e2_3 (mapO_cons hm) fun b bs e_89 h1 h2 => ?_
  obtain rfl := e_89
  refine Calls.spliced_cons (andThen (ih e b h1 env A γ H s L _ X he hA R l h) ?_)
  intro v s1 γ1 V H1 st R1 rv q
  refine wpAny_mono (spliced_ok ih he hA r bs γ1 H1 s1 _ h2 R1 (l.stp R st) q) (fun vs s2 p => ?_) (fun _ _ x => x.back st R1)
  refine e3_4 p fun γ2 Vs H2 st2 R2 rvs q2 => ?_
  exact ⟨γ2, V :: Vs, H2, st.trans0 R1 st2, R2, Exists.intro v ⟨vs, rfl, rv.stp0 R1 st2, rvs⟩, q2⟩
theorem evalArgs_ok {c : CC} {n : Nat} (ih : ∀ e ie, compE n c e = some ie → SE D Φ k c e ie) {env : Env} {A : Around} {X : XL} (he : EnvOk c env) (hA : AOk D k A) {L : Lc} {args : List Expr} {ies : List IE} {γ : List Addr} {H : Hp} {s : Shared} {Q : List V → Hp → Prop} {f : Value}
  (hm : mapO (compE n c) args = some ies) (R : HRel D γ H s.heap) (l : LRel D γ env c.slots s.heap L) (h : wpEs Φ ies L H Q X) :
  wpAny D.M A (evalArgs f true (args.map fun e => (false, eval e env)) []) (fun a s' => a.kw = [] ∧ PostL D γ s Q a.pos s') (PostX D γ s X) s := by
 have hs := spliced_ok ih he hA args ies γ H s Q hm R l h
 cases args with
 | nil =>
  rw [mapO_nil hm] at h
  exact evalArgs_nil3 ⟨rfl, γ, [], H, Stp.refl, R, (show Reps _ _ _ [] [] from rfl), h⟩
 | cons e r => exact Calls.evalArgs_plain (wpAny_mono hs (fun vs s' p => ⟨rfl, p⟩) fun _ _ x => x)
theorem name_ok {c : CC} {env : Env} {A : Around} {γ : List Addr} {H : Hp} {s : Shared} {L : Lc} {Q : V → Hp → Prop} {X : XL} {x : Str} {pos : Pos} {ie : IE} (g : GOk D c.G c.mts) (he : EnvOk c env) (R : HRel D γ H s.heap) (l : LRel D γ env c.slots s.heap L)
  (hc : nameV c x = some ie) (h : (wp2 Φ ie).E L H Q X) : wpAny D.M A (eval (.Name x pos) env) (PostV D γ s Q) (PostX D γ s X) s := by
 refine e1_2 (Option.bind_eq_some_iff.mp hc) fun kk hk hc => ?_
 obtain ⟨hd, hk⟩ := onlyIf_some hk
 have hd' : (x == ("__debug__" : Str)) = false := bnot hd
 have hkf : env.scope.kind = .function := by rw [he.scope]; exact he.kind
 have hk' : env.kindOf x = some kk := by unfold Env.kindOf; rw [he.scope]; exact hk
 cases kk with
 | globalImplicit =>
  refine e1_2 (Option.map_eq_some_iff.mp hc) fun V hV e_90 => ?_
  obtain rfl := e_90
  refine e1_2 (g.val x V hV) fun v hv rv => ?_
  refine Calls.Name_function_global hkf hk' ?_ hd'
  have rr : Rep D γ s.heap v V := Rep.mono ⟨[], by simp⟩ (fun _ _ => tupAt_grow R.base) (rv γ)
  rcases hv with hv | ⟨hv1, hv2⟩
  ·exact Calls.loadGlobal_global (by rw [he.globals]; exact g.gns.keeps R.base) hv (PostV.here R rr h)
  ·exact Calls.loadGlobal_builtin (by rw [he.globals]; exact g.gns.keeps R.base) hv1 (by rw [he.builtins]; exact g.bns.keeps R.base) hv2 (PostV.here R rr h)
 | «local» =>
  refine e1_2 (Option.map_eq_some_iff.mp hc) fun i hi e_91 => ?_
  obtain rfl := e_91
  refine e1_2 (oKK_elim h) fun V hL q => ?_
  refine e1_2 (l.ns) fun m hn f => ?_
  refine e1_2 (f x i V hk' hi hL) fun v hv rv => ?_
  exact wpAny_Name (wpAny_loadName_local hkf hk' hn hv (PostV.here R rv q)) hd'
 | cell =>
  refine e1_2 (Option.map_eq_some_iff.mp hc) fun i hi e_92 => ?_
  obtain rfl := e_92
  refine e1_2 (oKK_elim h) fun V hL q => ?_
  refine e2_4 (l.cel x hk') fun ca u hca hcell _ f => ?_
  refine e1_2 (f i V hi hL) fun v e_93 rv => ?_
  obtain rfl := e_93
  exact wpAny_Name (wpAny_loadName_cell hkf hk' hca hcell (PostV.here R rv q)) hd'
 | _ => exact no_some hc
theorem nameV_T {c : CC} {x : Str} {ie : IE} (hc : nameV c x = some ie) : (wp2 Φ ie).T = fun L H Q X => (wp2 Φ ie).E L H (fun v H1 => tX v fun c => Q c H1) X := by
 refine e1_2 (Option.bind_eq_some_iff.mp hc) fun kk _ hc => ?_
 cases kk with
 | globalImplicit => obtain ⟨_, _, rfl⟩ := Option.map_eq_some_iff.mp hc; rfl
 | «local» => obtain ⟨_, _, rfl⟩ := Option.map_eq_some_iff.mp hc; rfl
 | cell => obtain ⟨_, _, rfl⟩ := Option.map_eq_some_iff.mp hc; rfl
 | _ => exact no_some hc
theorem globV_lit {c : CC} {x : Str} {V : V} (h : globV c x = some V) : nameV c x = some (.lit V) := by
 refine e1_2 (Option.bind_eq_some_iff.mp h) fun kk hk h => ?_
 unfold nameV
 rw [hk]
 cases kk with
 | globalImplicit => exact Option.map_eq_some_iff.mpr ⟨V, h, rfl⟩
 | _ => exact no_some h
theorem const_ok {env : Env} {A : Around} {γ : List Addr} {H : Hp} {s : Shared} {Q : V → Hp → Prop} {X : XL} {kk : Const} {n : Nat} {pos : Pos} {W : V} (R : HRel D γ H s.heap) (hc : constV kk = some W) (q : Q W H) :
  wpAny D.M A (eval (.Constant kk n pos) env) (PostV D γ s Q) (PostX D γ s X) s := by
 cases kk with
 | none => obtain rfl := Option.some.inj hc; exact Constant_none (PostV.here R (show Rep _ _ _ _ .none from rfl) q)
 | bool b => obtain rfl := Option.some.inj hc; exact Constant_bool (PostV.here R rep_b q)
 | int i => obtain rfl := Option.some.inj hc; exact wpAny_Constant_int (PostV.now R rep_i q)
 | str x =>
  have hc : (if x.length ≤ 2000000 ∧ PyData.strOk x = true then some (V.str x) else none) = some W := hc
  by_cases hf : x.length ≤ 2000000 ∧ PyData.strOk x = true
  ·rw [if_pos hf] at hc
   obtain rfl := Option.some.inj hc; exact Calls.Constant_str (PostV.now R (rep_s hf) q)
  ·rw [if_neg hf] at hc; exact no_some hc
 | _ => exact no_some hc
theorem orc_call {D : Wd} {A : Around} {γ : List Addr} {H : Hp} {s : Shared} {Q : V → Hp → Prop} {X : XL} {pos : Pos} {f : Value} {W : V} {trees : List (Bool × Sem Value)} {QL : List V → Hp → Prop} (hO : OrcOk D k Φ) (hA : AOk D k A)
  (R : HRel D γ H s.heap) (rf : Rep D γ s.heap f W) (hp : trees.any (·.1) = false)
  (ha : wpAny D.M A (evalArgs f true trees []) (fun a s' => a.kw = [] ∧ PostL D γ s QL a.pos s') (PostX D γ s X) s)
  (hq : ∀ vs H1, QL vs H1 → pCall Φ W vs H1 Q X) : wpAny D.M A (callWith pos f [] trees []) (PostV D γ s Q) (PostX D γ s X) s := by
 have nonfn : (∀ x, W ≠ .fn x) → ∀ (a : Args) (s1 : Shared), (a.kw = [] ∧ PostL D γ s QL a.pos s1) → wpAny D.M A (call f ([] ++ a.pos) a.kw) (PostV D γ s Q) (PostX D γ s X) s1 := by
  rintro hn ⟨ps, kw⟩ s1 ⟨hk, γ1, Vs, H1, st, R1, rv, q⟩
  simp only at hk; subst hk
  exact backV st R1 (call_ok hA R1 (rf.stp0 R st) rv (hq _ _ q) hn)
 have noway : (∀ vs H1, pCall Φ W vs H1 Q X → False) → wpAny D.M A (callWith pos f [] trees []) (PostV D γ s Q) (PostX D γ s X) s := fun hn => by
  unfold callWith
  refine wpAny_bind (wpAny_holding (wpAny_mono ha (fun b s1 hb => ?_) fun _ _ x => x))
  obtain ⟨_, γ1, Vs, H1, _, _, _, q⟩ := hb
  exact (hn _ _ (hq _ _ q)).elim
 cases W with
 | fn x =>
  refine e1_2 rf fun a e_94 hx => ?_
  obtain rfl := e_94
  have hfun : ∀ (b : Args) (s1 : Shared), (b.kw = [] ∧ PostL D γ s QL b.pos s1) → (∃ o fd, s1.heap.get? a = some o ∧ o.data = .func fd) ∧ wpAny D.M A (call (.ref a) ([] ++ b.pos) b.kw) (PostV D γ s Q) (PostX D γ s X) s1 := by
   rintro ⟨ps, kw⟩ s1 ⟨hk, γ1, Vs, H1, st, R1, rv, q⟩
   simp only at hk; subst hk
   obtain ⟨⟨o, fd, e1, e2⟩, hc⟩ := hO D.fr x Vs H1 Q X (hq _ _ q) A γ1 s1 ps a hA.c R1 rv hx
   exact ⟨⟨o, fd, R1.base _ _ e1, e2⟩, backV st R1 hc⟩
  unfold callWith
  refine wpAny_bind (wpAny_holding (wpAny_mono ha (fun b s1 hb => wpAny_bind (wpAny_standAt ?_)) fun _ _ x => x))
  obtain ⟨⟨o, fd, e1, e2⟩, hc⟩ := hfun b s1 hb
  have tail : ∀ {t : Sem Value}, wpAny D.M A t (PostV D γ s Q) (PostX D γ s X) s1 → wpAny D.M A (t >>= fun r => holding [r] point >>= fun _ => pure r) (PostV D γ s Q) (PostX D γ s X) s1 :=
   fun ht => wpAny_bind (wpAny_mono ht (fun r s₂ hr => wpAny_bind (wpAny_holding (wpAny_point (wpAny_pure hr)))) fun _ _ x => x)
  simp only [hp, List.any_nil, Bool.or_false]
  refine wpAny_bind (m := keeperOf (.ref a)) ?_
  unfold keeperOf
  refine wpAny_bind (wpAny_load e1 ?_)
  rw [e2]
  refine wpAny_pure ?_
  refine wpAny_ite ?_
  split
  ·exact tail hc
  ·exact tail (by unfold callMarked; exact Calls.wpAny_keep hc)
 | ty n =>
  obtain rfl := rf
  exact PyProof.Rows.callWith_type hp (wpAny_mono ha (nonfn (by intro x h; cases h)) fun _ _ x => x)
 | bi n =>
  obtain rfl := rf
  exact Calls.callWith_builtin hp (wpAny_mono ha (nonfn (by intro x h; cases h)) fun _ _ x => x)
 | _ => exact noway fun _ _ q => q
theorem noSlice {i : Expr} {n : Nat} {c : CC} {ie : IE} (h : compE n c i = some ie) : ∀ lo hi st p, i ≠ .Slice lo hi st p := by
 rintro lo hi st p rfl
 cases n <;> exact no_some h
theorem noMarks {r : Expr} {n : Nat} {c : CC} {ie : IE} {op : CmpOp} (h : compE n c r = some ie) : behindInMarks op r = false := by
 cases r <;> first | rfl | (cases n <;> exact no_some h)
theorem st_plain {P : Around → Prop} {c : CC} {e : Expr} {ie : IE} (h : SEP P D Φ c e ie) (hT : (wp2 Φ ie).T = fun L H Q X => (wp2 Φ ie).E L H (fun v H1 => tX v fun c => Q c H1) X)
  (he : ∀ env whole, isTrue e env whole = (do let v ← whole; standAt e.pos; holding [v] (truthy v))) : STP P D Φ c e ie := by
 intro env A γ H s L Q X hE hA R l w
 rw [hT] at w
 refine isTrue_plain (andThen (h env A γ H s L _ X hE hA R l w) ?_) (he _ _)
 intro v s1 γ1 V H1 st R1 rv q
 refine e1_2 (tX_elim q) fun b e_95 q => ?_
 obtain rfl := e_95
 exact backB st R1 (truth_ok R1 rv q)
end
end Mine
namespace Mine
open PySem PyProof.Rows
noncomputable def BothP (P : Around → Prop) (D : Wd) (Φ : Orc) (c : CC) (e : Expr) (ie : IE) : Prop := SEP P D Φ c e ie ∧ STP P D Φ c e ie
noncomputable abbrev Both (D : Wd) (Φ : Orc) (k : Nat) (c : CC) (e : Expr) (ie : IE) : Prop := BothP (AOk D k) D Φ c e ie
section
variable {D : Wd} {Φ : Orc} {k : Nat} {c : CC} {P : Around → Prop}
theorem both_plain {e : Expr} {ie : IE} (h : SEP P D Φ c e ie) (hT : (wp2 Φ ie).T = fun L H Q X => (wp2 Φ ie).E L H (fun v H1 => tX v fun c => Q c H1) X)
  (he : ∀ env whole, isTrue e env whole = (do let v ← whole; standAt e.pos; holding [v] (truthy v))) : BothP P D Φ c e ie := ⟨h, st_plain h hT he⟩
theorem e_name (g : GOk D c.G c.mts) {x : Str} {pos : Pos} {ie : IE} (hc : nameV c x = some ie) : BothP P D Φ c (.Name x pos) ie := by
 exact both_plain (fun env A γ H s L Q X hE hA R l w => name_ok g hE R l hc w) (nameV_T hc) (fun _ _ => rfl)
theorem e_const {kk : Const} {n : Nat} {pos : Pos} {W : V} (hc : constV kk = some W) : BothP P D Φ c (.Constant kk n pos) (.lit W) :=
 both_plain (fun _ _ _ _ _ _ _ _ _ _ R _ w => const_ok R hc w) rfl (fun _ _ => rfl)
theorem e_bin {l r : Expr} {op : Operator} {pos : Pos} {a b : IE} (ha : SE D Φ k c l a) (hb : SE D Φ k c r b) : Both D Φ k c (.BinOp l op r pos) (.bin op a b) := by
 refine both_plain (fun env A γ H s L Q X hE hA R lr w => ?_) rfl (fun _ _ => rfl)
 refine wpAny_BinOp (andThen (ha env A γ H s L _ X hE hA R lr w) ?_)
 intro va s1 γ1 Va H1 st R1 ra q
 refine thenV st R1 (hb env A γ1 H1 s1 L _ X hE hA R1 (lr.stp R st) q) ?_
 intro vb s2 γ2 Vb H2 st2 R2 rb q2
 exact backV (st.trans0 R1 st2) R2 (bin_ok R2 (ra.stp0 R1 st2) rb q2)
theorem e_neg {x : Expr} {pos : Pos} {a : IE} (ha : SE D Φ k c x a) : Both D Φ k c (.UnaryOp .USub x pos) (.neg a) := by
 refine both_plain (fun env A γ H s L Q X hE hA R lr w => ?_) rfl (fun _ _ => rfl)
 refine UnaryOp_ (andThen (ha env A γ H s L _ X hE hA R lr w) ?_)
 intro va s1 γ1 Va H1 st R1 ra q
 refine e1_2 (oK_elim q) fun i hi q => ?_
 rw [intV_some hi] at ra
 exact backV st R1 (neg_ok R1 ra q)
theorem e_not {x : Expr} {pos : Pos} {a : IE} (ha : BothP P D Φ c x a) : BothP P D Φ c (.UnaryOp .Not x pos) (.not a) := by
 refine ⟨fun env A γ H s L Q X hE hA R lr w => ?_, fun env A γ H s L Q X hE hA R lr w => ?_⟩
 ·refine UnaryOp_ (andThen (ha.1 env A γ H s L _ X hE hA R lr w) ?_)
  intro va s1 γ1 Va H1 st R1 ra q
  refine e1_2 (tX_elim q) fun b e_96 q => ?_
  obtain rfl := e_96
  obtain rfl := ra
  exact not_of (wpAny_truthy_bool ⟨γ1, _, H1, st, R1, rep_b, q⟩)
 ·refine isTrue_not (wpAny_mono (ha.2 env A γ H s L _ X hE hA R lr w) (fun d s2 p => ?_) fun _ _ x => x)
  refine e2_3 p fun γ2 H2 st2 R2 q2 => ?_
  exact ⟨γ2, H2, st2, R2, q2⟩
theorem e_cmp {l r : Expr} {op : CmpOp} {pos : Pos} {a b : IE} (ha : SE D Φ k c l a) (hb : SE D Φ k c r b) (hm : behindInMarks op r = false) : Both D Φ k c (.Compare l [op] [r] pos) (.cmp a op b) := by
 have key : ∀ env A γ H s L Q X, EnvOk c env → AOk D k A → HRel D γ H s.heap → LRel D γ env c.slots s.heap L → (wp2 Φ (.cmp a op b)).E L H Q X →
   wpAny D.M A (eval l env) (fun va s₁ => wpAny D.M A (eval r env) (fun vb s₂ => wpAny D.M A (compareOp op va vb) (PostV D γ s Q) (PostX D γ s X) s₂) (PostX D γ s X) s₁) (PostX D γ s X) s := by
  intro env A γ H s L Q X hE hA R lr w
  refine andThen (ha env A γ H s L _ X hE hA R lr w) ?_
  intro va s1 γ1 Va H1 st R1 ra q
  refine thenV st R1 (hb env A γ1 H1 s1 L _ X hE hA R1 (lr.stp R st) q) ?_
  intro vb s2 γ2 Vb H2 st2 R2 rb q2
  exact backV (st.trans0 R1 st2) R2 (cmp_ok hA R2 (ra.stp0 R1 st2) rb q2)
 refine ⟨fun env A γ H s L Q X hE hA R lr w => wpAny_Compare1 (key env A γ H s L Q X hE hA R lr w) hm, fun env A γ H s L Q X hE hA R lr w => wpAny_isTrue_Compare1 ?_ hm⟩
 refine wpAny_mono (key env A γ H s L _ X hE hA R lr w) (fun va s1 p => wpAny_mono p (fun vb s2 p2 => wpAny_mono p2 (fun v s3 p3 => ?_) fun _ _ x => x) fun _ _ x => x) fun _ _ x => x
 refine e3_4 p3 fun γ3 V H3 st3 R3 rv q => ?_
 refine e1_2 (tX_elim q) fun d e_97 q => ?_
 obtain rfl := e_97
 exact backB st3 R3 (truth_ok R3 rv q)
theorem cmp2_head {l r : Expr} {op op' : CmpOp} {a b d : IE} (ha : SE D Φ k c l a) (hb : SE D Φ k c r b) {env : Env} {A : Around} {γ : List Addr} {H : Hp} {s : Shared} {L : Lc} {Q : V → Hp → Prop} {X : XL}
  (hE : EnvOk c env) (hA : AOk D k A) (R : HRel D γ H s.heap) (lr : LRel D γ env c.slots s.heap L) (w : (wp2 Φ (.cmp2 a op b op' d)).E L H Q X) :
  wpAny D.M A (eval l env) (fun va s₁ => wpAny D.M A (eval r env) (fun vb s₂ => wpAny D.M A (compareOp op va vb) (fun cv s₃ => wpAny D.M A (truthy cv) (fun t s₄ =>
   ∃ γ4 Vb H4, Stp [] γ γ4 s s₄ ∧ HRel D γ4 H4 s₄.heap ∧ LRel D γ4 env c.slots s₄.heap L ∧ Rep D γ4 s₄.heap vb Vb ∧ cv = .bool t ∧ ifP t ((wp2 Φ d).E L H4 (fun vc H4 => pCmp op' Vb vc H4 Q) X) (Q (.bool t) H4))
    (PostX D γ s X) s₃) (PostX D γ s X) s₂) (PostX D γ s X) s₁) (PostX D γ s X) s := by
 refine andThen (ha env A γ H s L _ X hE hA R lr w) ?_
 intro va s1 γ1 Va H1 st R1 ra q
 refine thenV st R1 (hb env A γ1 H1 s1 L _ X hE hA R1 (lr.stp R st) q) ?_
 intro vb s2 γ2 Vb H2 st2 R2 rb q2
 have st02 := st.trans0 R1 st2
 refine thenV st02 R2 (cmp_ok (Q := _) (E := PostX D γ2 s2 X) hA R2 (ra.stp0 R1 st2) rb q2) ?_
 intro cv s3 γ3 Vc H3 st3 R3 rc q3
 refine e1_2 (tX_elim q3) fun t e_98 q3 => ?_
 obtain rfl := e_98
 obtain rfl := rc
 have st03 := st02.trans0 R2 st3
 exact wpAny_truthy_bool ⟨γ3, Vb, H3, st03, R3, lr.stp R st03, rb.stp0 R2 st3, rfl, q3⟩
theorem e_cmp2 {l r r' : Expr} {op op' : CmpOp} {pos : Pos} {a b d : IE} (ha : SE D Φ k c l a) (hb : SE D Φ k c r b) (hd : SE D Φ k c r' d) (hm : behindInMarks op' r' = false) :
  Both D Φ k c (.Compare l [op, op'] [r, r'] pos) (.cmp2 a op b op' d) := by
 have hm' : lastMarks [op, op'] [r, r'] = false := hm
 refine ⟨fun env A γ H s L Q X hE hA R lr w => ?_, fun env A γ H s L Q X hE hA R lr w => ?_⟩
 ·refine Compare_chain (wpAny_mono (cmp2_head ha hb hE hA R lr w) (fun va s1 h1 => ?_) fun _ _ x => x) hm'
  refine chain_link (wpAny_mono h1 (fun vb s2 h2 => wpAny_mono h2 (fun cv s3 h3 => wpAny_mono h3 (fun t s4 h4 => ?_) fun _ _ x => x) fun _ _ x => x) fun _ _ x => x)
  obtain ⟨γ4, Vb, H4, st, R4, l4, rb, rfl, q⟩ := h4
  cases t with
  | true =>
   refine chain_last (thenV st R4 (hd env A γ4 _ s4 L _ X hE hA R4 l4 q) ?_)
   intro vd s5 γ5 Vd H5 st5 R5 rd q5
   exact backV (st.trans0 R4 st5) R5 (cmp_ok hA R5 (rb.stp0 R4 st5) rd q5)
  | false => exact ⟨γ4, _, H4, st, R4, rep_b, q⟩
 ·refine isTrue_chain (wpAny_mono (cmp2_head ha hb hE hA R lr w) (fun va s1 h1 => ?_) fun _ _ x => x) hm'
  refine test_link (wpAny_mono h1 (fun vb s2 h2 => wpAny_mono h2 (fun cv s3 h3 => wpAny_mono h3 (fun t s4 h4 => ?_) fun _ _ x => x) fun _ _ x => x) fun _ _ x => x)
  obtain ⟨γ4, Vb, H4, st, R4, l4, rb, rfl, q⟩ := h4
  cases t with
  | true =>
   refine test_last (thenV st R4 (hd env A γ4 _ s4 L _ X hE hA R4 l4 q) ?_)
   intro vd s5 γ5 Vd H5 st5 R5 rd q5
   refine thenV (st.trans0 R4 st5) R5 (cmp_ok (Q := _) (E := PostX D γ5 s5 X) hA R5 (rb.stp0 R4 st5) rd q5) ?_
   intro v s6 γ6 V6 H6 st6 R6 r6 q6
   refine e1_2 (tX_elim q6) fun t6 e_101 q6 => ?_
   obtain rfl := e_101
   exact backB ((st.trans0 R4 st5).trans0 R5 st6) R6 (truth_ok R6 r6 q6)
  | false => exact ⟨γ4, H4, st, R4, q⟩
theorem e_ite {t a b : Expr} {pos : Pos} {it ia ib : IE} (ht : Both D Φ k c t it) (ha : Both D Φ k c a ia) (hb : Both D Φ k c b ib) : Both D Φ k c (.IfExp t a b pos) (.ite it ia ib) := by
 refine ⟨fun env A γ H s L Q X hE hA R lr w => ?_, fun env A γ H s L Q X hE hA R lr w => ?_⟩
 ·refine IfExp_ (andThenB (ht.2 env A γ H s L _ X hE hA R lr w) ?_)
  intro v s1 γ1 H1 st R1 q
  cases v with
  | true => exact backV st R1 (ha.1 env A γ1 H1 s1 L Q X hE hA R1 (lr.stp R st) q)
  | false => exact backV st R1 (hb.1 env A γ1 H1 s1 L Q X hE hA R1 (lr.stp R st) q)
 ·refine isTrue_IfExp (andThenB (ht.2 env A γ H s L _ X hE hA R lr w) ?_)
  intro v s1 γ1 H1 st R1 q
  cases v with
  | true => exact backB st R1 (ha.2 env A γ1 H1 s1 L Q X hE hA R1 (lr.stp R st) q)
  | false => exact backB st R1 (hb.2 env A γ1 H1 s1 L Q X hE hA R1 (lr.stp R st) q)
theorem e_and {f : Expr → Option IE} : ∀ {vs : List Expr} {ies : List IE} {pos : Pos} {ie : IE}, (∀ e ie, f e = some ie → BothP P D Φ c e ie) → mapO f vs = some ies → boolGo .and ies = some ie → BothP P D Φ c (.BoolOp .And vs pos) ie
 | [], ies, pos, ie, ih, hm, hb => by rw [mapO_nil hm] at hb; exact no_some hb
 | [e], ies, pos, ie, ih, hm, hb => by
  refine e2_3 (mapO_cons hm) fun b bs e_102 h1 h2 => ?_
  obtain rfl := e_102
  rw [mapO_nil h2] at hb
  obtain rfl := Option.some.inj hb
  have := ih e _ h1
  refine ⟨fun env A γ H s L Q X hE hA R lr w => BoolOp_one (this.1 env A γ H s L Q X hE hA R lr w), fun env A γ H s L Q X hE hA R lr w => ?_⟩
  refine isTrue_and (wpAny_mono (this.2 env A γ H s L Q X hE hA R lr w) (fun t s1 p => ?_) fun _ _ x => x)
  cases t with
  | true => exact isTrue_and_nil p
  | false => exact p
 | e :: e2 :: r, ies, pos, ie, ih, hm, hb => by
  refine e2_3 (mapO_cons hm) fun b bs e_103 h1 h2 => ?_
  obtain rfl := e_103
  refine e2_3 (mapO_cons h2) fun b2 bs2 e_104 h3 h4 => ?_
  obtain rfl := e_104
  refine e1_2 (Option.map_eq_some_iff.mp hb) fun i2 hi2 e_105 => ?_
  obtain rfl := e_105
  have rest := e_and (vs := e2 :: r) (pos := pos) ih h2 hi2
  have one := ih e b h1
  refine ⟨fun env A γ H s L Q X hE hA R lr w => ?_, fun env A γ H s L Q X hE hA R lr w => ?_⟩
  ·refine BoolOp_and (andThen (one.1 env A γ H s L _ X hE hA R lr w) ?_)
   intro va s1 γ1 Va H1 st R1 ra q
   refine e1_2 (tX_elim q) fun t e_106 q => ?_
   obtain rfl := e_106
   obtain rfl := ra
   refine wpAny_truthy_bool ?_
   cases t with
   | true => exact backV st R1 (rest.1 env A γ1 H1 s1 L Q X hE hA R1 (lr.stp R st) q)
   | false => exact ⟨γ1, _, H1, st, R1, rep_b, q⟩
  ·refine isTrue_and (andThenB (one.2 env A γ H s L _ X hE hA R lr w) ?_)
   intro v s1 γ1 H1 st R1 q
   cases v with
   | true => exact backB st R1 (rest.2 env A γ1 H1 s1 L Q X hE hA R1 (lr.stp R st) q)
   | false => exact ⟨γ1, H1, st, R1, q⟩
theorem e_or {f : Expr → Option IE} : ∀ {vs : List Expr} {ies : List IE} {pos : Pos} {ie : IE}, (∀ e ie, f e = some ie → BothP P D Φ c e ie) → mapO f vs = some ies → boolGo .or ies = some ie → BothP P D Φ c (.BoolOp .Or vs pos) ie
 | [], ies, pos, ie, ih, hm, hb => by rw [mapO_nil hm] at hb; exact no_some hb
 | [e], ies, pos, ie, ih, hm, hb => by
  refine e2_3 (mapO_cons hm) fun b bs e_107 h1 h2 => ?_
  obtain rfl := e_107
  rw [mapO_nil h2] at hb
  obtain rfl := Option.some.inj hb
  have := ih e _ h1
  refine ⟨fun env A γ H s L Q X hE hA R lr w => BoolOp_one (this.1 env A γ H s L Q X hE hA R lr w), fun env A γ H s L Q X hE hA R lr w => ?_⟩
  refine isTrue_or (wpAny_mono (this.2 env A γ H s L Q X hE hA R lr w) (fun t s1 p => ?_) fun _ _ x => x)
  cases t with
  | true => exact p
  | false => exact isTrue_or_nil p
 | e :: e2 :: r, ies, pos, ie, ih, hm, hb => by
  refine e2_3 (mapO_cons hm) fun b bs e_108 h1 h2 => ?_
  obtain rfl := e_108
  refine e2_3 (mapO_cons h2) fun b2 bs2 e_109 h3 h4 => ?_
  obtain rfl := e_109
  refine e1_2 (Option.map_eq_some_iff.mp hb) fun i2 hi2 e_110 => ?_
  obtain rfl := e_110
  have rest := e_or (vs := e2 :: r) (pos := pos) ih h2 hi2
  have one := ih e b h1
  refine ⟨fun env A γ H s L Q X hE hA R lr w => ?_, fun env A γ H s L Q X hE hA R lr w => ?_⟩
  ·refine BoolOp_or (andThen (one.1 env A γ H s L _ X hE hA R lr w) ?_)
   intro va s1 γ1 Va H1 st R1 ra q
   refine e1_2 (tX_elim q) fun t e_111 q => ?_
   obtain rfl := e_111
   obtain rfl := ra
   refine wpAny_truthy_bool ?_
   cases t with
   | false => exact backV st R1 (rest.1 env A γ1 H1 s1 L Q X hE hA R1 (lr.stp R st) q)
   | true => exact ⟨γ1, _, H1, st, R1, rep_b, q⟩
  ·refine isTrue_or (andThenB (one.2 env A γ H s L _ X hE hA R lr w) ?_)
   intro v s1 γ1 H1 st R1 q
   cases v with
   | false => exact backB st R1 (rest.2 env A γ1 H1 s1 L Q X hE hA R1 (lr.stp R st) q)
   | true => exact ⟨γ1, H1, st, R1, q⟩
theorem e_tup {es : List Expr} {kk : Nat} {pos : Pos} {ies : List IE} {n : Nat} (ih : ∀ e ie, compE n c e = some ie → SE D Φ k c e ie) (hs : es.any isStar = false) (hm : mapO (compE n c) es = some ies) :
  Both D Φ k c (.Tuple es kk pos) (.tup ies) := by
 refine both_plain (fun env A γ H s L Q X hE hA R lr w => ?_) rfl (fun _ _ => rfl)
 refine wpAny_Tuple (wpAny_mono (by rw [starEach_of hs]; exact spliced_ok ih hE hA es ies γ H s _ hm R lr w) (fun vs s1 p => ?_) fun _ _ x => x)
 obtain ⟨γ1, Vs, H1, st, R1, rv, hz, q⟩ := p
 have hl := rv.length
 exact ⟨by rw [sizeLine_eq]; lia, (PostV.newTuple R1 rv (by lia) q).back st R1⟩
theorem e_lst {es : List Expr} {pos : Pos} {ies : List IE} {n : Nat} (ih : ∀ e ie, compE n c e = some ie → SE D Φ k c e ie) (hs : es.any isStar = false) (hm : mapO (compE n c) es = some ies) :
  Both D Φ k c (.List es pos) (.lst ies) := by
 refine both_plain (fun env A γ H s L Q X hE hA R lr w => ?_) rfl (fun _ _ => rfl)
 refine wpAny_List (wpAny_mono (by rw [starEach_of hs]; exact spliced_ok ih hE hA es ies γ H s _ hm R lr w) (fun vs s1 p => ?_) fun _ _ x => x)
 obtain ⟨γ1, Vs, H1, st, R1, rv, hz, q⟩ := p
 have hl := rv.length
 exact ⟨by rw [sizeLine_eq]; lia, (PostV.newList R1 rv (by lia) q).back st R1⟩
theorem e_sub {o i : Expr} {pos : Pos} {a b : IE} (ha : SE D Φ k c o a) (hb : SE D Φ k c i b) (hs : ∀ lo hi st p, i ≠ .Slice lo hi st p) : Both D Φ k c (.Subscript o i pos) (.sub a b) := by
 refine both_plain (fun env A γ H s L Q X hE hA R lr w => ?_) rfl (fun _ _ => rfl)
 refine Subscript_ (andThen (ha env A γ H s L _ X hE hA R lr w) ?_)
 intro va s1 γ1 Va H1 st R1 ra q
 refine thenV st R1 (hb env A γ1 H1 s1 L _ X hE hA R1 (lr.stp R st) q) ?_
 intro vb s2 γ2 Vb H2 st2 R2 rb q2
 exact backV (st.trans0 R1 st2) R2 (sub_ok R2 (ra.stp0 R1 st2) rb q2 hs)
theorem e_call {f : Str} {fp pos : Pos} {args : List Expr} {W : V} {ies : List IE} {n : Nat} (g : GOk D c.G c.mts) (hO : OrcOk D k Φ) (ih : ∀ e ie, compE n c e = some ie → SE D Φ k c e ie) (hs : args.any isStar = false) (hf : globV c f = some W)
  (hm : mapO (compE n c) args = some ies) : Both D Φ k c (.Call (.Name f fp) args [] pos) (.call W ies) := by
 refine both_plain (fun env A γ H s L Q X hE hA R lr w => ?_) rfl (fun _ _ => rfl)
 refine wpAny_Call_ofName (andThen (name_ok (Φ := Φ) (Q := fun V H' => V = W ∧ H' = H) g hE R lr (globV_lit hf) ⟨rfl, rfl⟩) ?_)
 intro vf s1 γ1 Vf H1 st R1 rf q
 obtain ⟨rfl, rfl⟩ := q
 refine backV st R1 ?_
 rw [starEach_of hs]
 refine orc_call (QL := fun vs H' => pCall Φ Vf vs H' Q X) hO hA R1 rf (by simp) (evalArgs_ok ih hE hA hm R1 (lr.stp R st) w) (fun _ _ q => q)
theorem attrBase {o : Expr} {name : Str} {env : Env} (hb : plainBase o = true) : attributeBase o name env (eval o env) = eval o env := by cases o <;> first | rfl | exact Bool.noConfusion hb
theorem e_meth {o a : Expr} {m : Mt} {apos pos : Pos} {io ia : IE} (ho : SE D Φ k c o io) (ha : SE D Φ k c a ia) (hb : plainBase o = true) (hl : apos.endLine = pos.line) (hs : isStar a = false) :
  Both D Φ k c (.Call (.Attribute o m.name apos) [a] [] pos) (.meth io m [ia]) := by
 refine both_plain (fun env A γ H s L Q X hE hA R lr w => ?_) rfl (fun _ _ => rfl)
 have e1 : backTo pos (starEach [a] env) = [(false, eval a env)] := by
  rw [starEach_of (by rw [List.any_cons, hs]; rfl)]; rfl
 have run : ∀ (id : String), (∀ {va : Value} {s2 : Shared} {γ2 : List Addr} {H2 : Hp} {Va : V} {x : Value} {i : Nat}, HRel D γ2 H2 s2.heap → Rep D γ2 s2.heap x (.ref i) → Rep D γ2 s2.heap va Va → pMeth (.ref i) m [Va] H2 Q → wpAny D.M A (call (.builtin id) [x, va]) (PostV D γ2 s2 Q) (PostX D γ2 s2 X) s2) →
   wpAny D.M A (eval o env) (fun v s₁ => s₁.TypeIs v "list" ∧ (∀ b, v = .ref b → ∃ ob, s₁.heap.get? b = some ob ∧ ob.dict = none) ∧ wpAny D.M A (callWith pos (.builtin id) [v] [(false, eval a env)] []) (PostV D γ s Q) (PostX D γ s X) s₁) (PostX D γ s X) s := by
  intro id hm
  refine andThen (ho env A γ H s L _ X hE hA R lr w) ?_
  intro vo s1 γ1 Vo H1 st R1 ro q
  obtain ⟨hm1, q⟩ := q
  have hi : ∃ i, Vo = .ref i := by
   cases Vo with
   | ref i => exact ⟨i, rfl⟩
   | _ => exact hm1.elim
  obtain ⟨i, rfl⟩ := hi
  obtain ⟨l0, hl0⟩ := hm1
  have ro2 := ro
  refine e1_2 ro2 fun x hx e_112 => ?_
  obtain rfl := e_112
  refine e2_3 (R1.list hx hl0) fun vs n e rs z => ?_
  refine ⟨⟨_, e, rfl⟩, ⟨fun b eb => ?_, ?_⟩⟩
  ·cases eb; exact ⟨_, e, rfl⟩
  refine Calls.callWith_builtin rfl (Calls.evalArgs_plain (Calls.spliced_cons (thenV st R1 (ha env A γ1 H1 s1 L _ X hE hA R1 (lr.stp R st) q) ?_)))
  intro va s2 γ2 Va H2 st2 R2 ra q2
  exact Calls.spliced_nil (backV (st.trans0 R1 st2) R2 (hm R2 (ro.stp0 R1 st2) ra q2))
 cases m with
 | append =>
  refine wpAny_Call_method (attrBase hb) (by rw [e1]; rfl) (beq_iff_eq.mpr hl) F.plainAttrs_list F.slot_list_append F.type_list_append ?_
  rw [e1]
  refine run _ fun {va s2 γ2 H2 Va x i} R2 rx ra q2 => ?_
  refine e1_2 (oK_elim (show oK (listAt H2 i) _ from q2)) fun l hl' q2 => ?_
  have q2 : _ ∧ _ := q2
  exact append_ok R2 rx ra hl' q2.1 q2.2
 | count =>
  refine wpAny_Call_method (attrBase hb) (by rw [e1]; rfl) (beq_iff_eq.mpr hl) F.plainAttrs_list F.slot_list_count F.type_list_count ?_
  rw [e1]
  refine run _ fun {va s2 γ2 H2 Va x i} R2 rx ra q2 => ?_
  refine e1_2 (oK_elim (show oK (listAt H2 i) _ from q2)) fun l hl' q2 => ?_
  refine e1_2 (oK_elim (show oK (strsOf l) _ from q2)) fun ys hy q2 => ?_
  refine e1_2 (oK_elim q2) fun y hv q2 => ?_
  rw [strV_some hv] at ra
  exact count_ok R2 rx ra hl' hy q2
theorem inst_at {γ : List Addr} {H : Hp} {h : Heap} {i : Nat} {a : Addr} {p : Nat × List (Str × V)} (R : HRel D γ H h) (hi : γ[i]? = some a) (hp : nsAt H i = some p) :
  ∃ o dx m, h.get? a = some o ∧ o.cls = .ref D.bk ∧ o.dict = some dx ∧ γ[p.1]? = some dx ∧ h.Inst a D.bk m ∧ FsRep D γ h p.2 m ∧ ∀ x, fldOk x = false → m x = none := by
 obtain ⟨h1, h2⟩ := nsAt_some hp
 obtain ⟨o, dx, e, hj, hc, hnc, hd, hne⟩ := R.objs i a _ hi h1
 refine e1_3 (R.objs p.1 dx _ hj h2) fun m hn hf hx => ?_
 exact ⟨o, dx, m, e, hc, hd, hj, ⟨o, e, hc, hnc, .inr ⟨dx, hd, hne, hn⟩⟩, hf, hx⟩
theorem handed {γ : List Addr} {h : Heap} {v : Value} : ∀ {V : V}, Rep D γ h v V → handedOut v = pure v
 | .none, r => by obtain rfl := r; rfl
 | .bool _, r => by obtain rfl := r; rfl
 | .int _, ⟨t, e⟩ => by rw [e]; rfl
 | .str _, ⟨t, e, _⟩ => by rw [e]; rfl
 | .tup _, ⟨a, vs, e, _⟩ => by rw [e]; rfl
 | .ref _, ⟨a, _, e⟩ => by rw [e]; rfl
 | .fn _, ⟨a, e, _⟩ => by rw [e]; rfl
 | .ty _, r => by obtain rfl := r; rfl
 | .bi b, r => by
  obtain rfl := r
  have e : (withoutEnding? b.name "#data").isSome = false := by cases b <;> decide +kernel
  show (if (withoutEnding? b.name "#data").isSome = true then _ else _) = _
  rw [e]; rfl
 | .scr _, ⟨a, vs, e, _⟩ => by rw [e]; rfl
 | .bk, r => by obtain rfl := r; rfl
 | .cls _ _, ⟨a, e, _⟩ => by rw [e]; rfl
theorem fld_cases {x : Str} (h : fldOk x = true) : x = "names" ∨ x = "free_rules" ∨ x = "busy_rules" ∨ x = "held" ∨ x = "given" := by
 unfold fldOk at h
 rw [Bool.or_eq_true, Bool.or_eq_true, Bool.or_eq_true, Bool.or_eq_true, beq_iff_eq, beq_iff_eq, beq_iff_eq, beq_iff_eq, beq_iff_eq] at h
 rcases h with (((h | h) | h) | h) | h
 ·exact .inl h
 ·exact .inr (.inl h)
 ·exact .inr (.inr (.inl h))
 ·exact .inr (.inr (.inr (.inl h)))
 ·exact .inr (.inr (.inr (.inr h)))
theorem fld_obj {x : Str} (h : fldOk x = true) : typeLookup (.type "object") x = pure none := by
 rw [typeLookup_type, builtinLookup_eq_fast]
 rcases fld_cases h with rfl | rfl | rfl | rfl | rfl <;> kernel_rfl
theorem e_attr {o : Expr} {x : Str} {pos : Pos} {io : IE} (g : GOk D c.G c.mts) (ho : SE D Φ k c o io) (hx : fldOk x = true) (hb : plainBase o = true) : Both D Φ k c (.Attribute o x pos) (.attr io x) := by
 refine both_plain (fun env A γ H s L Q X hE hA R lr w => ?_) rfl (fun _ _ => rfl)
 refine Attribute_any_ (andThen (ho env A γ H s L _ X hE hA R lr w) ?_) (by rw [arm_eval_Attribute, attrBase hb])
 intro vo s1 γ1 Vo H1 st R1 ro q
 refine e1_2 (oK_elim q) fun i hi q => ?_
 rw [refV_some hi] at ro
 refine e1_2 (oK_elim q) fun p hp q => ?_
 refine e1_2 (oK_elim q) fun V hV q => ?_
 refine e1_2 ro fun a ha e_113 => ?_
 obtain rfl := e_113
 obtain ⟨o, dx, m, e, hc, hd, hj, I, hf, _⟩ := inst_at R1 ha hp
 refine e1_2 (hf.1 x V hV) fun v hv rv => ?_
 obtain ⟨N, nm, qn, bs, sn, sub, col, dd, k0, k1, k2, k3, k5, hC, hN⟩ := g.bk.cls
 obtain ⟨hh, gg, d, t, os⟩ := s1
 exact load_attr (R1.base _ _ hC) (hN.keeps R1.base) g.bk.noG (g.bk.noF x hx) (fld_obj hx) I hv (handed rv) ((PostV.now (s := ⟨hh, gg, d, t, os⟩) R1 rv q).back st R1)
theorem e_mcall {o : Expr} {m : Str} {apos pos : Pos} {args : List Expr} {io : IE} {ies : List IE} {n : Nat} (g : GOk D c.G c.mts) (hO : OrcOk D k Φ) (ih : ∀ e ie, compE n c e = some ie → SE D Φ k c e ie) (ho : SE D Φ k c o io) (hm : c.mts.contains m = true) (hb : plainBase o = true)
  (hl : apos.endLine = pos.line) (hs : args.any isStar = false) (hf : args.length ≤ 20) (ha : mapO (compE n c) args = some ies) : Both D Φ k c (.Call (.Attribute o m apos) args [] pos) (.mcall io m ies) := by
 refine both_plain (fun env A γ H s L Q X hE hA R lr w => ?_) rfl (fun _ _ => rfl)
 obtain ⟨hfl, ⟨y, hy⟩, fa, of, hmt, hof, hfc, ⟨fd, hfd⟩, hfa⟩ := g.bk.mts m hm
 obtain ⟨N, nm, qn, bs, sn, sub, col, dd, k0, k1, k2, k3, k5, hC, hN⟩ := g.bk.cls
 rw [arm_eval_Call, attrBase hb]
 refine wpAny_bind (andThen (ho env A γ H s L _ X hE hA R lr w) ?_)
 intro vo s1 γ1 Vo H1 st R1 ro q
 refine e1_2 (oK_elim q) fun i hi q => ?_
 rw [refV_some hi] at ro
 refine e1_2 (oK_elim q) fun p hp q => ?_
 refine e1_2 (id ro) fun a hai e_116 => ?_
 obtain rfl := e_116
 obtain ⟨o', dx, mm, e, hc, hd, hj, I, hfs, hno⟩ := inst_at R1 hai hp
 refine wpAny_bind (wpAny_standAt ?_)
 have hform : methodCallForm (args.length + ([] : List Keyword).length) (backTo pos (starEach args env)) (backToKw pos (keywordEach [] env)) = true := by
  rw [starEach_of hs]
  unfold methodCallForm
  rw [Bool.and_eq_true, Bool.and_eq_true]
  exact ⟨⟨by rw [List.all_map]; exact List.all_eq_true.mpr fun _ _ => rfl, rfl⟩, decide_eq_true (show args.length + 0 + 0 < 30 by lia)⟩
 have hpos : methodCallPos true o env apos pos = pure pos := by unfold methodCallPos; rw [hl, beq_self_eq_true]; rfl
 unfold methodCall
 rw [hform, starEach_of hs]
 have hgm : wpAny D.M A (getMethod (.ref a) m (do return (← importBound o env).getD true)) (fun r s' => r = (.ref fa, [.ref a]) ∧ s' = s1) (PostX D γ s X) s1 := by
  obtain ⟨hh, gg, d, t, os⟩ := s1
  exact method_of (R1.base _ _ hC) (hN.keeps R1.base) g.bk.noG g.bk.noH hmt (R1.base _ _ hof) hfc hy I (hno m hfl) ⟨rfl, rfl⟩
 refine wpAny_bind (wpAny_holding (wpAny_mono hgm (fun r s' hr => ?_) fun _ _ x => x))
 obtain ⟨rfl, rfl⟩ := hr
 refine wpAny_bind (wpAny_of_eq hpos ?_)
 refine Calls.callWith_function (o := of) (fd := fd) (wpAny_mono (evalArgs_ok ih hE hA ha R1 (lr.stp R st) q) (fun b s2 hb => ?_) fun _ _ x => x.back st R1)
 obtain ⟨ps, kw⟩ := b
 obtain ⟨hkw, γ2, Vs, H2, st2, R2, rv, q⟩ := hb
 obtain rfl : kw = [] := hkw
 exact ⟨⟨R2.base _ _ hof, hfd⟩, backV (st.trans0 R1 st2) R2 (hO D.fr _ _ H2 Q X q A γ2 s2 (.ref a :: ps) fa hA.c R2 (Exists.intro _ ⟨ps, rfl, ro.stp0 R1 st2, rv⟩) hfa).2⟩
theorem HRel.made {γ : List Addr} {H : Hp} {h h' : Heap} {x dx : Addr} (R : HRel D γ H h) (M : Heap.MadeObj h h' x dx D.bk) : HRel D (γ ++ [dx] ++ [x]) (H ++ [.ns []] ++ [.inst H.length]) h' := by
 refine e1_4 (M.inst) fun o e hc hnc hd => ?_
 have hdx := M.dict o e
 rcases hd with ⟨q, _⟩ | ⟨d', q, hne, hn⟩
 ·rw [hdx] at q; exact no_some q.symm
 rw [hdx] at q
 obtain rfl := Option.some.inj q
 refine (R.add (o := .ns []) M.keeps M.newD ⟨_, hn, ⟨fun _ _ h => no_some h, fun _ _ => rfl⟩, fun _ _ => rfl⟩).adopt (fun hm => ?_) (R.nin M.newX).2 (R.frs.ne M.newX) ⟨o, dx, e, ?_, hc, hnc, hdx, hne⟩
 ·rcases List.mem_append.mp hm with q | q
  ·exact (R.nin M.newX).1 q
  ·exact hne (List.mem_singleton.mp q).symm
 ·rw [List.getElem?_append_left (by rw [List.length_append, ← R.len]; exact Nat.lt_succ_self _), ← R.len, List.getElem?_concat_length]
theorem e_new {x : Str} {np pos : Pos} (g : GOk D c.G c.mts) (hO : OrcOk D k Φ) (hf : globV c x = some .bk) : Both D Φ k c (.Call (.Name x np) [] [] pos) .new := by
 refine both_plain (fun env A γ H s L Q X hE hA R lr w => ?_) rfl (fun _ _ => rfl)
 obtain ⟨N, nm, qn, bs, sn, sub, col, dd, k0, k1, k2, k3, k5, hC, hN⟩ := g.bk.cls
 refine e2_4 (g.bk.init) fun fi oi hmi hoi hfc hfa => ?_
 refine wpAny_Call_ofName (andThen (name_ok (Φ := Φ) (Q := fun V H' => V = .bk ∧ H' = H) g hE R lr (globV_lit hf) ⟨rfl, rfl⟩) ?_)
 intro vf s1 γ1 Vf H1 st R1 rf q
 obtain ⟨rfl, rfl⟩ := q
 obtain rfl := rf
 show wpAny D.M A (callWith pos (.ref D.bk) [] [] []) _ _ _
 unfold callWith
 refine wpAny_bind (wpAny_holding (evalArgs_nil3 (wpAny_bind (wpAny_standAt ?_))))
 refine wpAny_bind (m := keeperOf (.ref D.bk)) ?_
 unfold keeperOf
 refine wpAny_bind (wpAny_load (R1.base _ _ hC) ?_)
 refine wpAny_bind (wpAny_specialOf (T := "type") ⟨_, R1.base _ _ hC, rfl⟩ tc_lookup (wpAny_pure ?_))
 refine wpAny_bind (wpAny_mono (Q := PostV D γ s Q) ?_ (fun r s₂ hr => wpAny_bind (wpAny_holding (wpAny_point (wpAny_pure hr)))) fun _ _ x => x)
 show wpAny D.M A (call (.ref D.bk) []) _ _ _
 obtain ⟨hh, gg, d, t, os⟩ := s1
 refine wpAny_call_obj_init F.objNew (R1.base _ _ hC) (hN.keeps R1.base) hmi (R1.base _ _ hoi) hfc fun h' a dx M => ?_
 have R2 := R1.made M
 have st2 : Stp [] γ1 (γ1 ++ [dx] ++ [a]) ⟨hh, gg, d, t, os⟩ ⟨h', gg, d, t, os⟩ := .of ⟨_, _, rfl⟩ (fun b o _ _ e => M.keeps b o e) ⟨[dx] ++ [a], List.append_assoc _ _ _, fun b hb => by
  rcases List.mem_append.mp hb with q | q
  ·rw [List.mem_singleton.mp q]; exact M.newD
  ·rw [List.mem_singleton.mp q]; exact M.newX⟩
 have ra : Rep D (γ1 ++ [dx] ++ [a]) h' (.ref a) (.ref (H1.length + 1)) := Exists.intro a ⟨by
  have : H1.length + 1 = (γ1 ++ [dx]).length := by rw [List.length_append, R1.len]; rfl
  rw [this, List.getElem?_concat_length], rfl⟩
 have st02 := st.trans0 R1 st2
 refine wpAny_mono (hO D.fr _ _ _ _ X w _ _ ⟨h', gg, d, t, os⟩ [.ref a] fi (hA.under D.bk) R2 (Reps.one ra) hfa).2 (fun r s3 p => ?_) fun _ _ x => x.back st02 R2
 obtain ⟨γ3, V3, H3, st3, R3, r3, hnv, q3⟩ := p
 rw [isNoneV_eq hnv] at r3
 exact ⟨r3, γ3, _, H3, st02.trans0 R2 st3, R3, ra.stp0 R2 st3, q3⟩
theorem e_dct {pos : Pos} : Both D Φ k c (.Dict [] [] pos) .dct := by
 refine both_plain (fun env A γ H s L Q X hE hA R lr w => ?_) rfl (fun _ _ => rfl)
 refine wpAny_Dict_empty ?_
 have hk : ∀ b o, s.heap.get? b = some o → (s.heap.push { cls := .type "dict", data := .dict #[] }).get? b = some o := fun _ _ e => Heap.get?_push_of_some _ e
 exact ⟨γ ++ [s.heap.objs.size], .ref H.length, H ++ [.dict []], Stp.add (tk := s.toks) hk (none_end _), R.add (o := .dict []) (H := H) hk (none_end _) ⟨[], Heap.DictOf.new _, ⟨fun _ _ h => no_some h, fun _ _ => rfl⟩, Nat.le_refl _⟩, rep_new R, (show Q (.ref H.length) (H ++ [.dict []]) from w)⟩
end
end Mine
namespace Mine
open PySem PyProof.Rows
section
variable {D : Wd} {γ : List Addr} {H : Hp} {s : Shared} {A : Around} {E : Value → Shared → Prop}
theorem part_of {h : Heap} {v : Value} {W : V} {u : Option Int} (r : Rep D γ h v W) (hc : optI W = some u) : IsPart v u := by
 cases W with
 | none => obtain rfl := r; obtain rfl := Option.some.inj hc; exact .none
 | int k => obtain ⟨t, rfl⟩ := r; obtain rfl := Option.some.inj hc; exact .int k t
 | _ => exact no_some hc
theorem post_list {vl vu vt : Value} {zs : List Value} {l : List V} {Q : V → Hp → Prop} (R : HRel D γ H s.heap) (rs : Reps D γ s.heap zs l) (hz : l.length ≤ 2000000) (q : Q (.ref H.length) (H ++ [.list l])) :
  PostV D γ s Q (.ref (s.heap.objs.size + 1)) { s with heap := (s.heap.push { cls := .type "slice", data := .fields #[vl, vu, vt] }).push { cls := .type "list", data := .seq zs.toArray } } := by
 have e1 := Heap.get?_push_size (s.heap.push { cls := .type "slice", data := .fields #[vl, vu, vt] }) (o := { cls := .type "list", data := .seq zs.toArray }) rfl
 rw [Heap.size_push] at e1
 have hn1 : s.heap.get? (s.heap.objs.size + 1) = none := by
  cases q : s.heap.get? (s.heap.objs.size + 1) with
  | none => rfl
  | some o => exact absurd (Heap.lt_size q) (Nat.not_lt.mpr (Nat.le_succ _))
 exact PostV.addList (tk := s.toks) R rs hz (fun b o e => Heap.get?_push_of_some _ (Heap.get?_push_of_some _ e)) hn1 e1 q
theorem slice_ok {value : Expr} {lo hi : Option Expr} {p : Pos} {o vl vh : Value} {Vo Vl Vh : V} {Q : V → Hp → Prop} (R : HRel D γ H s.heap) (ro : Rep D γ s.heap o Vo) (rl : Rep D γ s.heap vl Vl) (rh : Rep D γ s.heap vh Vh) (h : pSlice Vo Vl Vh H Q) :
  wpAny D.M A (subscriptTail value (.Slice lo hi none p) o (.ref s.heap.objs.size)) (PostV D γ s Q) E { s with heap := s.heap.push { cls := .type "slice", data := .fields #[vl, vh, .none] } } := by
 refine e1_2 (oK_elim h) fun i hi' h => ?_
 rw [refV_some hi'] at ro
 refine e1_2 (oK_elim h) fun xs h1 h => ?_
 refine e1_2 (oK_elim h) fun ys h2 q => ?_
 refine e1_2 (Option.bind_eq_some_iff.mp h2) fun x hx h2 => ?_
 refine e1_2 (Option.map_eq_some_iff.mp h2) fun y hy e_117 => ?_
 obtain rfl := e_117
 refine e1_2 ro fun a hi3 e_118 => ?_
 obtain rfl := e_118
 refine e2_3 (R.list hi3 h1) fun vs m e rs z => ?_
 have hL : s.heap.IsList a vs.toArray := ⟨_, e, rfl, m, rfl⟩
 have hl := rs.length
 refine tail_any (ops := [.ref s.heap.objs.size, .ref a]) (s := { s with heap := s.heap.push { cls := .type "slice", data := .fields #[vl, vh, .none] } }) (hL.push _).typeIs slot_list_getitem.lookup (wpAny_getItem_list_slice (hL.push _) (Heap.IsSliceOf.new ..) (part_of rl hx) (part_of rh hy) .none (fun h => nomatch h) ?_ (by rw [sizeLine_eq]; show vs.length ≤ _; lia)) rfl
 rw [Heap.size_push, PySem.W.kms_pick_eq]
 unfold PySem.W.kms_pick
 rw [show vs.toArray.toList = vs from rfl, hl, show PySem.W.kms_lo x xs.length = cutA x 0 xs.length by cases x <;> rfl, show PySem.W.kms_hi y xs.length = cutA y xs.length xs.length by cases y <;> rfl]
 exact post_list R ((rs.drop _).take _) (by rw [List.length_take, List.length_drop]; lia) q
end
end Mine
namespace Mine
open PySem PyProof.Rows
structure Itr (D : Wd) (A : Around) (I : Addr) (fp : List Addr) (l : List V) (st : Hp → Prop) (Inv : List Addr → Nat → Heap → Prop) : Prop where
 mem : I ∈ fp
 frame : ∀ γ γ' i h h', Inv γ i h → (∃ δ, γ' = γ ++ δ) → (∀ b ∈ fp, ∀ o, h.get? b = some o → h'.get? b = some o) → (∀ a ws, TupAt h a ws → TupAt h' a ws) → Inv γ' i h'
 notTup : ∀ γ i h ws, Inv γ i h → ¬ TupAt h I ws
 nd : ∀ γ i h, Inv γ i h → ∀ b ∈ fp, ∀ o, h.get? b = some o → NotD o
 next : ∀ γ H (s : Shared) (i : Nat) (W : V) (Q : Option Value → Shared → Prop) (E : Value → Shared → Prop), l[i]? = some W → HRel D γ H s.heap → I ∉ γ → st H → Inv γ i s.heap →
  (∀ v h' tk, (∃ o, h'.get? I = some o) → (∀ b o, b ≠ I → s.heap.get? b = some o → h'.get? b = some o) → Inv γ (i + 1) h' → Rep D γ h' v W → Q (some v) { s with heap := h', toks := tk }) → wpAny D.M A (pyNext (.ref I)) Q E s
 done : ∀ γ H (s : Shared) (Q : Option Value → Shared → Prop) (E : Value → Shared → Prop), HRel D γ H s.heap → st H → Inv γ l.length s.heap →
  (∀ h' tk, (∀ b o, b ≠ I → s.heap.get? b = some o → h'.get? b = some o) → Q none { s with heap := h', toks := tk }) → wpAny D.M A (pyNext (.ref I)) Q E s
 self : ∀ γ i (s : Shared) (Q : Value → Shared → Prop) (E : Value → Shared → Prop), Inv γ i s.heap → Q (.ref I) s → wpAny D.M A (pyIter (.ref I)) Q E s
 own : ∀ γ i (s : Shared) (T : Addr) (elts : List Expr) (x1 : Nat) (pos : Pos) (Q : Unit → Shared → Prop) (E : Value → Shared → Prop), Inv γ i s.heap → Q () s → wpAny D.M A (letOwnedTupleGo (.Tuple elts x1 pos) (.ref I) (.ref T)) Q E s
theorem own_of {D : Wd} {A : Around} {s : Shared} {I T : Addr} {o : Obj} {n : String} {elts : List Expr} {x1 : Nat} {pos : Pos} {Q : Unit → Shared → Prop} {E : Value → Shared → Prop} (ho : s.heap.get? I = some o) (hc : o.cls = .type n)
  (hn : ["enumerate", "zip", "dict_itemiterator", "dict_reverseitemiterator", "odict_iterator", "itertools.zip_longest", "itertools.pairwise"].contains n = false) (hQ : Q () s) : wpAny D.M A (letOwnedTupleGo (.Tuple elts x1 pos) (.ref I) (.ref T)) Q E s := by
 unfold letOwnedTupleGo
 refine wpAny_bind (wpAny_load ho ?_)
 rw [hc]
 cases o.data with
 | fields vs =>
  show wpAny _ A (if (["enumerate", "zip", "dict_itemiterator", "dict_reverseitemiterator", "odict_iterator", "itertools.zip_longest", "itertools.pairwise"].contains n && vs[0]? == some (rawInt T)) = true then _ else _) Q E s
  rw [hn, Bool.false_and, if_neg Bool.false_ne_true]
  exact wpAny_pure hQ
 | _ => exact wpAny_pure hQ
section
variable {D : Wd} {A : Around} {k : Nat}
theorem tupAt_but {h h' : Heap} {I : Addr} (hk : ∀ b o, b ≠ I → h.get? b = some o → h'.get? b = some o) (hn : ∀ ws, ¬ TupAt h I ws) {a : Addr} {ws : List Value} (x : TupAt h a ws) : TupAt h' a ws := by
 refine e1_2 (id x) fun n e z => ?_
 exact ⟨n, hk _ _ (by rintro rfl; exact hn _ x) e, z⟩
theorem HRel.but {γ : List Addr} {H : Hp} {h h' : Heap} {I : Addr} (R : HRel D γ H h) (hk : ∀ b o, b ≠ I → h.get? b = some o → h'.get? b = some o) (hI : I ∉ γ) (hB : D.hB.get? I = none) (hn : ∀ ws, ¬ TupAt h I ws) (hF : (∃ o, h.get? I = some o ∧ NotD o) ∨ (∃ o, h'.get? I = some o ∧ ¬ NotD o) ∨ ∀ e ∈ D.fr, e.frame ≠ some I) : HRel D γ H h' where
 len := R.len
 nodup := R.nodup
 objs := fun i a o e1 e2 => (R.objs i a o e1 e2).mono ⟨[], by simp⟩ (fun _ _ => tupAt_but hk hn) fun ob e => hk a ob (fun q => hI (q ▸ List.mem_of_getElem? e1)) e
 fresh := R.fresh
 base := fun b o e => hk _ _ (by rintro rfl; rw [hB] at e; exact no_some e) (R.base b o e)
 frs := fun e he => by
  obtain ⟨kd, L, o, a, b, n, c, d⟩ := R.frs e he
  by_cases hL : L = I
  ·subst hL
   rcases hF with ⟨o', e1, e2⟩ | ⟨o', e1, e2⟩ | hF
   ·rw [c] at e1; obtain rfl := Option.some.inj e1; exact absurd e2 d
   ·exact ⟨kd, L, o', a, b, n, e1, e2⟩
   ·exact absurd a (hF e he)
  ·exact ⟨kd, L, o, a, b, n, hk _ _ hL c, d⟩
noncomputable def rangeInv (I : Addr) (a : Int) (n : Nat) (_ : List Addr) (i : Nat) (h : Heap) : Prop := IsRangeIter h I (a + (i : Int)) ((n : Int) - (i : Int)) 1
theorem itr_range (hA : AOk D k A) (I : Addr) (a : Int) (n : Nat) : Itr D A I [I] ((List.range n).map fun (j : Nat) => V.int (a + (j : Int))) (fun _ => True) (rangeInv I a n) where
 mem := by simp
 frame := fun γ γ' i h h' iv _ hk _ => hk I (by simp) _ iv
 notTup := fun γ i h ws iv t => by
  refine e1_2 t fun m e _ => ?_
  have iv' : h.get? I = some _ := iv
  rw [iv'] at e; simp at e
 nd := fun γ i h iv b hb o e => by
  have iv' : h.get? I = some _ := iv
  rw [List.mem_singleton.mp hb, iv'] at e; obtain rfl := Option.some.inj e; exact notD_fields rfl
 next := fun γ H s i W Q E hl R hI _ iv hQ => by
  have hi : i < n := by
   have := (List.getElem?_eq_some_iff.mp hl).1; simpa using this
  rw [List.getElem?_map, List.getElem?_range hi] at hl
  simp at hl
  refine wpAny_pyNext_range_item iv (by lia) fun h' hit hs => hQ _ h' _ ⟨_, hit⟩ (fun b o hb e => hs.extBut b o hb e) ?_ ?_
  ·show IsRangeIter h' I (a + ((i + 1 : Nat) : Int)) ((n : Int) - ((i + 1 : Nat) : Int)) 1
   have e1 : a + ((i + 1 : Nat) : Int) = a + (i : Int) + 1 := by lia
   have e2 : (n : Int) - ((i + 1 : Nat) : Int) = (n : Int) - (i : Int) - 1 := by lia
   rw [e1, e2]; exact hit
  ·subst hl; exact rep_i
 done := fun γ H s Q E R _ iv hQ => by
  have iv' : IsRangeIter s.heap I (a + (n : Int)) ((n : Int) - (n : Int)) 1 := by
   have : ((List.range n).map fun (j : Nat) => V.int (a + (j : Int))).length = n := by simp
   rw [this] at iv; exact iv
  exact wpAny_pyNext_range_end hA.handled iv' (by lia) fun h' he => hQ h' s.toks fun b o hb e => he b o hb e
 self := fun γ i s Q E iv q => (Walks.range (prog := D.prog) (w := D.w) (A := A) hA.handled I a 1 n).self i s Q E (by
  show IsRangeIter s.heap I (a + (i : Nat) * 1) ((n : Int) - (i : Nat)) 1
  rw [Int.mul_one]; exact iv) q
 own := fun γ i s T elts x1 pos Q E iv q => own_of iv rfl (by decide) q
noncomputable def tupInv (mg : Wd) (I t : Addr) (vs : List Value) (l : List V) (γ : List Addr) (i : Nat) (h : Heap) : Prop :=
 h.IsTupleIter I t i ∧ TupAt h t vs ∧ Reps mg γ h vs l
theorem itr_tup (hA : AOk D k A) (I t : Addr) (hne : t ≠ I) (vs : List Value) (l : List V) : Itr D A I [I, t] l (fun _ => True) (tupInv D I t vs l) where
 mem := by simp
 frame := fun γ γ' i h h' iv hg hk ht => by
  refine e0_3 iv fun e_119 b r => ?_
  obtain ⟨o, e, c, d⟩ := e_119
  exact ⟨⟨o, hk I (by simp) o e, c, d⟩, ht _ _ b, Reps.mono hg ht r⟩
 notTup := fun γ i h ws iv x => by
  obtain ⟨⟨o, e, c, d⟩, _⟩ := iv
  refine e1_2 x fun m e' _ => ?_
  rw [e] at e'; cases e'; simp at c
 nd := fun γ i h iv b hb o e => by
  refine e0_3 iv fun e_120 e_121 _ => ?_
  obtain ⟨o', e', c, d⟩ := e_120
  obtain ⟨n, e2, _⟩ := e_121
  rcases List.mem_cons.mp hb with q | q
  ·rw [q, e'] at e; obtain rfl := Option.some.inj e; exact notD_fields d
  ·rw [List.mem_singleton.mp q, e2] at e; obtain rfl := Option.some.inj e; exact notD_seq rfl
 next := fun γ H s i W Q E hl R hI _ iv hQ => by
  refine e0_3 iv fun it ta rs => ?_
  have hnt : ∀ ws, ¬ TupAt s.heap I ws := fun ws x => by
   refine e1_3 it fun o e c d => ?_
   refine e1_2 x fun m e' _ => ?_
   rw [e] at e'; cases e'; simp at c
  refine e1_2 (rs.get hl) fun v hv rv => ?_
  refine wpAny_pyNext_tuple_item it ta.isTuple (x := v) (by simpa using hv) fun h' hit hs => ?_
  have hk : ∀ b o, b ≠ I → s.heap.get? b = some o → h'.get? b = some o := fun b o hb e => hs.extBut b o hb e
  have ht : ∀ a ws, TupAt s.heap a ws → TupAt h' a ws := fun _ _ => tupAt_but hk hnt
  exact hQ v h' s.toks (let ⟨o, e, _⟩ := hit; ⟨o, e⟩) hk ⟨hit, ht _ _ ta, Reps.mono ⟨[], by simp⟩ ht rs⟩ (Rep.mono ⟨[], by simp⟩ ht rv)
 done := fun γ H s Q E R _ iv hQ => by
  refine e0_3 iv fun it ta rs => ?_
  exact wpAny_pyNext_tuple_end hA.handled it ta.isTuple (by simp [rs.length]) fun h' he => hQ h' s.toks fun b o hb e => he b o hb e
 self := fun γ i s Q E iv q => (Walks.tuple (prog := D.prog) (w := D.w) (A := A) hA.handled I t hne vs.toArray).self i s Q E ⟨iv.1, iv.2.1.isTuple⟩ q
 own := fun γ i s T elts x1 pos Q E iv q => let ⟨⟨_, e, c, _⟩, _⟩ := iv; own_of e c (by decide) q
noncomputable def lstInv (I a : Addr) (j : Nat) (γ : List Addr) (i : Nat) (h : Heap) : Prop := h.IsListIter I a i ∧ γ[j]? = some a
theorem itr_list (hA : AOk D k A) (I a : Addr) (j : Nat) (l : List V) : Itr D A I [I] l (fun H => listAt H j = some l) (lstInv I a j) where
 mem := by simp
 frame := fun γ γ' i h h' iv hg hk ht => by
  obtain ⟨⟨o, e, c, d⟩, b⟩ := iv
  exact ⟨⟨o, hk I (by simp) o e, c, d⟩, getElem?_ext hg b⟩
 notTup := fun γ i h ws iv x => by
  obtain ⟨⟨o, e, c, d⟩, _⟩ := iv
  refine e1_2 x fun m e' _ => ?_
  rw [e] at e'; cases e'; simp at c
 nd := fun γ i h iv b hb o e => by
  obtain ⟨⟨o', e', c, d⟩, _⟩ := iv
  rw [List.mem_singleton.mp hb, e'] at e; obtain rfl := Option.some.inj e; exact notD_fields d
 next := fun γ H s i W Q E hl R hI hst iv hQ => by
  obtain ⟨it, hj⟩ := iv
  have hnt : ∀ ws, ¬ TupAt s.heap I ws := fun ws x => by
   refine e1_3 it fun o e c d => ?_
   refine e1_2 x fun m e' _ => ?_
   rw [e] at e'; cases e'; simp at c
  refine e2_3 (R.list hj hst) fun vs n e rs z => ?_
  refine e1_2 (rs.get hl) fun v hv rv => ?_
  refine wpAny_pyNext_list_item it (items := vs.toArray) ⟨_, e, rfl, n, rfl⟩ (x := v) (by simpa using hv) fun h' hit hs => ?_
  have hk : ∀ b o, b ≠ I → s.heap.get? b = some o → h'.get? b = some o := fun b o hb e => hs.extBut b o hb e
  have ht : ∀ a ws, TupAt s.heap a ws → TupAt h' a ws := fun _ _ => tupAt_but hk hnt
  exact hQ v h' s.toks (let ⟨o, e, _⟩ := hit; ⟨o, e⟩) hk ⟨hit, hj⟩ (Rep.mono ⟨[], by simp⟩ ht rv)
 done := fun γ H s Q E R hst iv hQ => by
  obtain ⟨it, hj⟩ := iv
  refine e2_3 (R.list hj hst) fun vs n e rs z => ?_
  exact wpAny_pyNext_list_end hA.handled it (items := vs.toArray) ⟨_, e, rfl, n, rfl⟩ (by simp [rs.length]) fun h' he => hQ h' s.toks fun b o hb e => he b o hb e
 self := fun γ i s Q E iv q => wpAny_pyIter_listiter iv.1 q
 own := fun γ i s T elts x1 pos Q E iv q => let ⟨⟨_, e, c, _⟩, _⟩ := iv; own_of e c (by decide) q
noncomputable def revInv (I a : Addr) (j : Nat) (l : List V) (γ : List Addr) (i : Nat) (h : Heap) : Prop := h.IsRevIter I a ((l.length : Int) - 1 - (i : Int)) ∧ γ[j]? = some a
theorem itr_rev (hA : AOk D k A) (I a : Addr) (j : Nat) (l : List V) : Itr D A I [I] l.reverse (fun H => listAt H j = some l) (revInv I a j l) where
 mem := by simp
 frame := fun γ γ' i h h' iv hg hk ht => by
  obtain ⟨⟨o, e, c, d⟩, b⟩ := iv
  exact ⟨⟨o, hk I (by simp) o e, c, d⟩, getElem?_ext hg b⟩
 notTup := fun γ i h ws iv x => by
  obtain ⟨⟨o, e, c, d⟩, _⟩ := iv
  refine e1_2 x fun m e' _ => ?_
  rw [e] at e'; cases e'; simp at c
 nd := fun γ i h iv b hb o e => by
  obtain ⟨⟨o', e', c, d⟩, _⟩ := iv
  rw [List.mem_singleton.mp hb, e'] at e; obtain rfl := Option.some.inj e; exact notD_fields d
 next := fun γ H s i W Q E hl R hI hst iv hQ => by
  obtain ⟨it, hj⟩ := iv
  have hnt : ∀ ws, ¬ TupAt s.heap I ws := fun ws x => by
   refine e1_3 it fun o e c d => ?_
   refine e1_2 x fun m e' _ => ?_
   rw [e] at e'; cases e'; simp at c
  refine e2_3 (R.list hj hst) fun vs n e rs z => ?_
  have hi : i < l.length := by have := (List.getElem?_eq_some_iff.mp hl).1; simpa using this
  rw [List.getElem?_reverse hi] at hl
  refine e1_2 (rs.get hl) fun v hv rv => ?_
  have e1 : (l.length : Int) - 1 - (i : Int) = ((l.length - 1 - i : Nat) : Int) := by lia
  rw [e1] at it
  refine wpAny_pyNext_rev_item it (items := vs.toArray) ⟨_, e, rfl, n, rfl⟩ (x := v) (by simpa using hv) fun h' hit hs => ?_
  have hk : ∀ b o, b ≠ I → s.heap.get? b = some o → h'.get? b = some o := fun b o hb e => hs.extBut b o hb e
  have ht : ∀ a ws, TupAt s.heap a ws → TupAt h' a ws := fun _ _ => tupAt_but hk hnt
  refine hQ v h' s.toks (let ⟨o, e, _⟩ := hit; ⟨o, e⟩) hk ⟨?_, hj⟩ (Rep.mono ⟨[], by simp⟩ ht rv)
  have e2 : (l.length : Int) - 1 - ((i + 1 : Nat) : Int) = ((l.length - 1 - i : Nat) : Int) - 1 := by lia
  rw [e2]; exact hit
 done := fun γ H s Q E R hst iv hQ => by
  obtain ⟨it, hj⟩ := iv
  have e1 : (l.length : Int) - 1 - ((l.reverse.length : Nat) : Int) = -1 := by simp; lia
  rw [e1] at it
  exact wpAny_pyNext_rev_end hA.handled it fun h' he => hQ h' s.toks fun b o hb e => he b o hb e
 self := fun γ i s Q E iv q => wpAny_pyIter_revIter iv.1 q
 own := fun γ i s T elts x1 pos Q E iv q => let ⟨⟨_, e, c, _⟩, _⟩ := iv; own_of e c (by decide) q
noncomputable def SrcPost (D : Wd) (A : Around) (γ : List Addr) (s : Shared) (K : List V → (Hp → Prop) → Hp → Prop) (it : Value) (s2 : Shared) : Prop :=
 ∃ γ2 H2 I fp l st Inv, it = .ref I ∧ Stp [] γ γ2 s s2 ∧ HRel D γ2 H2 s2.heap ∧ Itr D A I fp l st Inv ∧ Inv γ2 0 s2.heap ∧ (∀ b ∈ fp, b ∉ γ2 ∧ (∃ o, s2.heap.get? b = some o) ∧ (b = I ∨ ∃ ws, TupAt s2.heap b ws)) ∧ s.heap.get? I = none ∧ st H2 ∧ l.length ≤ 2000000 ∧ K l st H2
theorem itr_str (hA : AOk D k A) (I : Addr) (x : Str) (t : Tok) (ha : x.cps.all (· < 128) = true) : Itr D A I [I] (x.cps.toList.map fun c => V.str ⟨#[c]⟩) (fun _ => True) (fun _ i h => h.IsStrIter I "str_ascii_iterator" x t i) where
 mem := by simp
 frame := fun γ γ' i h h' iv _ hk _ => by
  refine e1_3 iv fun o e c d => ?_
  exact ⟨o, hk I (by simp) o e, c, d⟩
 notTup := fun γ i h ws iv q => by
  refine e1_3 iv fun o e c d => ?_
  refine e1_2 q fun m e' _ => ?_
  rw [e] at e'; cases e'; simp at c
 nd := fun γ i h iv b hb o e => by
  refine e1_3 iv fun o' e' c d => ?_
  rw [List.mem_singleton.mp hb, e'] at e; obtain rfl := Option.some.inj e; exact notD_fields d
 next := fun γ H s i W Q E hl R hI _ iv hQ => by
  rw [List.getElem?_map, Option.map_eq_some_iff] at hl
  refine e1_2 hl fun c hc e_122 => ?_
  obtain rfl := e_122
  have hc' : x.cps[i]? = some c := by simpa using hc
  refine wpAny_pyNext_ascii_item iv hc' fun h' hit hs => ?_
  refine hQ _ h' _ (let ⟨o, e, _⟩ := hit; ⟨o, e⟩) (fun b o hb e => hs.extBut b o hb e) hit ?_
  have hlt : c < 128 := by simpa using (Array.all_eq_true'.mp ha) c (Array.mem_of_getElem? hc')
  exact rep_s ⟨by show 1 ≤ 2000000; decide, strOk_iff.mpr fun d hd => by simp at hd; lia⟩
 done := fun γ H s Q E R _ iv hQ => wpAny_pyNext_ascii_end hA.handled iv (by simp) fun h' he => hQ h' s.toks fun b o hb e => he b o hb e
 self := fun γ i s Q E iv q => wpAny_pyIter_striter_ascii iv q
 own := fun γ i s T elts x1 pos Q E iv q => let ⟨_, e, c, _⟩ := iv; own_of e c (by decide) q
theorem grow_push {s : Shared} (o : Obj) : ∀ b o', s.heap.get? b = some o' → (s.heap.push o).get? b = some o' := fun _ _ e => Heap.get?_push_of_some _ e
theorem nin_end {γ : List Addr} {H : Hp} {s : Shared} (R : HRel D γ H s.heap) : s.heap.objs.size ∉ γ := (R.nin (none_end _)).1
theorem none_back {γ γ0 : List Addr} {H : Hp} {s s0 : Shared} (st : Stp [] γ0 γ s0 s) (R : HRel D γ H s.heap) {a : Addr} (hn : s.heap.get? a = none) : s0.heap.get? a = none := by
 cases q : s0.heap.get? a with
 | none => rfl
 | some o =>
  by_cases hg : a ∈ γ0
  ·refine e1_2 (st.ext) fun δ e _ => ?_
   exact absurd (by rw [e]; exact List.mem_append_left _ hg) (R.nin hn).1
  ·obtain ⟨o', e'⟩ := st.live hg (fun h => nomatch h) q
   rw [hn] at e'; exact no_some e'
theorem stp_push {γ : List Addr} {s : Shared} {o : Obj} {tk : Nat} : Stp [] γ γ s { s with heap := s.heap.push o, toks := tk } := stp_grow (grow_push o)
theorem fp_one {γ : List Addr} {H : Hp} {s : Shared} {o : Obj} (R : HRel D γ H s.heap) (ho : o.isFreed = false) : ∀ b ∈ [s.heap.objs.size], b ∉ γ ∧ (∃ o', (s.heap.push o).get? b = some o') ∧ (b = s.heap.objs.size ∨ ∃ ws, TupAt (s.heap.push o) b ws) := fun b hb => by
 rw [List.mem_singleton.mp hb]
 exact ⟨nin_end R, ⟨_, Heap.get?_push_size _ ho⟩, .inl rfl⟩
theorem val_src {γ : List Addr} {H : Hp} {s : Shared} {v : Value} {W : V} {K : List V → (Hp → Prop) → Hp → Prop} {E : Value → Shared → Prop} (hA : AOk D k A) (R : HRel D γ H s.heap) (r : Rep D γ s.heap v W)
  (h : pVal W H (fun l st => K l st H)) : wpAny D.M A (pyIter v) (SrcPost D A γ s K) E s := by
 cases W with
 | tup l =>
  replace h : K l (fun _ => True) H := h
  refine e2_3 r fun t vs e_123 ta rs => ?_
  obtain rfl := e_123
  have hlt : t < s.heap.objs.size := by obtain ⟨n, e, _⟩ := ta; exact Heap.lt_size e
  have htg : t ∉ γ := fun hm => (R.alive hm).2 vs ta
  refine wpAny_pyIter_tuple ta.isTuple ?_
  refine ⟨γ, H, s.heap.objs.size, [s.heap.objs.size, t], l, fun _ => True, tupInv D s.heap.objs.size t vs l, rfl, stp_push (tk := s.toks), R.grow (grow_push _), itr_tup hA _ t (Nat.ne_of_lt hlt) vs l, ?_, ?_, none_end _, trivial, by rw [← rs.length]; exact ta.size, h⟩
  ·exact ⟨⟨_, Heap.get?_push_size _ rfl, rfl, rfl⟩, tupAt_grow (grow_push _) ta, Reps.mono ⟨[], by simp⟩ (fun _ _ => tupAt_grow (grow_push _)) rs⟩
  ·intro b hb
   simp at hb
   rcases hb with rfl | rfl
   ·exact ⟨nin_end R, ⟨_, Heap.get?_push_size _ rfl⟩, .inl rfl⟩
   ·have ta' := tupAt_grow (grow_push { cls := .type "tuple_iterator", data := .fields #[.ref b, .int 0 0] }) ta
    refine e1_2 (id ta') fun n e _ => ?_
    exact ⟨htg, ⟨_, e⟩, .inr ⟨vs, ta'⟩⟩
 | str x =>
  obtain ⟨ha, h⟩ := h
  refine e1_2 r fun t e_124 f => ?_
  obtain rfl := e_124
  refine wpAny_pyIter_strU ?_
  have ety : strIterType x = "str_ascii_iterator" := by unfold strIterType; rw [ha]; rfl
  rw [ety]
  refine ⟨γ, H, s.heap.objs.size, [s.heap.objs.size], _, fun _ => True, fun _ i h => h.IsStrIter s.heap.objs.size "str_ascii_iterator" x t i, rfl, stp_push (tk := s.toks), R.grow (grow_push _), itr_str hA _ x t ha, ?_, ?_, none_end _, trivial, by simpa using (show x.cps.size ≤ 2000000 from f.1), h⟩
  ·exact ⟨_, Heap.get?_push_size _ rfl, rfl, rfl⟩
  ·exact fp_one R rfl
 | ref j =>
  refine e1_2 (oK_elim (show oK (listAt H j) _ from h)) fun l hl h => ?_
  refine e1_2 r fun a hj e_125 => ?_
  obtain rfl := e_125
  refine e2_3 (R.list hj hl) fun vs n e rs z => ?_
  refine wpAny_pyIter_list (items := vs.toArray) ⟨_, e, rfl, n, rfl⟩ ?_
  refine ⟨γ, H, s.heap.objs.size, [s.heap.objs.size], l, fun H' => listAt H' j = some l, lstInv s.heap.objs.size a j, rfl, stp_push (tk := s.toks), R.grow (grow_push _), itr_list hA _ a j l, ?_, ?_, none_end _, hl, by rw [← rs.length]; exact z, h⟩
  ·exact ⟨⟨_, Heap.get?_push_size _ rfl, rfl, rfl⟩, hj⟩
  ·exact fp_one R rfl
 | _ => exact h.elim
theorem range_src {γ : List Addr} {H : Hp} {s s0 : Shared} {r : Addr} {a b : Int} {t u v : Tok} {K : List V → (Hp → Prop) → Hp → Prop} {E : Value → Shared → Prop} {γ0 : List Addr} (hA : AOk D k A) (st : Stp [] γ0 γ s0 s) (R : HRel D γ H s.heap)
  (hr : IsRange s.heap r a b 1 t u v) (ha : -(2 ^ 62) ≤ a) (ha' : a < 2 ^ 62) (hb : -(2 ^ 62) ≤ b) (hb' : b < 2 ^ 62) (hz : b - a ≤ 1000000) (h : K (rangeL a b) (fun _ => True) H) : wpAny D.M A (pyIter (.ref r)) (SrcPost D A γ0 s0 K) E s := by
 refine wpAny_pyIter_range hr (small_one ha ha' hb hb') ?_
 have hsz : Builtin.Range.rangeSize a b 1 = (((b - a).toNat : Nat) : Int) := by rw [rangeSize_one]; split <;> lia
 refine ⟨γ, H, s.heap.objs.size, [s.heap.objs.size], rangeL a b, fun _ => True, rangeInv s.heap.objs.size a (b - a).toNat, rfl, st.trans0 R (stp_push (tk := s.toks)), R.grow (grow_push _), itr_range hA _ a _, ?_, ?_, none_back st R (none_end _), trivial, by simp [rangeL]; lia, h⟩
 ·show (s.heap.push _).get? s.heap.objs.size = some _
  rw [Heap.get?_push_size _ rfl, hsz]
  simp
 ·exact fp_one R rfl
theorem rev_src {γ : List Addr} {H : Hp} {s s0 : Shared} {x : Value} {j : Nat} {l : List V} {K : List V → (Hp → Prop) → Hp → Prop} {E : Value → Shared → Prop} {γ0 : List Addr} (hA : AOk D k A) (st : Stp [] γ0 γ s0 s) (R : HRel D γ H s.heap)
  (rv : Rep D γ s.heap x (.ref j)) (hl : listAt H j = some l) (h : K l.reverse (fun H' => listAt H' j = some l) H) : wpAny D.M A (call (.type "reversed") [x]) (fun x s1 => wpAny D.M A (pyIter x) (SrcPost D A γ0 s0 K) E s1) E s := by
 refine e1_2 rv fun a hj e_126 => ?_
 obtain rfl := e_126
 refine e2_3 (R.list hj hl) fun vs n e rs z => ?_
 refine call_reversed_list (items := vs.toArray) ⟨_, e, rfl, n, rfl⟩ ?_
 have hit : (s.heap.push (revObj a ((vs.toArray.size : Int) - 1))).IsRevIter s.heap.objs.size a ((l.length : Int) - 1 - ((0 : Nat) : Int)) := by
  refine ⟨_, Heap.get?_push_size _ rfl, rfl, ?_⟩
  simp [revObj, rs.length]
 refine wpAny_pyIter_revIter hit ?_
 refine ⟨γ, H, s.heap.objs.size, [s.heap.objs.size], l.reverse, fun H' => listAt H' j = some l, revInv s.heap.objs.size a j l, rfl, st.trans0 R (stp_push (tk := s.toks)), R.grow (grow_push _), itr_rev hA _ a j l, ⟨hit, hj⟩, fp_one R rfl, none_back st R (none_end _), hl, by rw [List.length_reverse, ← rs.length]; exact z, h⟩
theorem SrcPost.back {γ γ1 : List Addr} {H1 : Hp} {s s1 s2 : Shared} {K : List V → (Hp → Prop) → Hp → Prop} {it : Value} (t : Stp [] γ γ1 s s1) (R : HRel D γ1 H1 s1.heap) (h : SrcPost D A γ1 s1 K it s2) : SrcPost D A γ s K it s2 := by
 obtain ⟨γ2, H2, I, fp, l, st, Inv, e, t2, R2, it, iv, hf, hn, hs, hK⟩ := h
 refine ⟨γ2, H2, I, fp, l, st, Inv, e, t.trans0 R t2, R2, it, iv, hf, ?_, hs, hK⟩
 exact none_back t R hn
end
section
variable {D : Wd} {Φ : Orc} {k : Nat} {c : CC}
theorem src_val {iter : Expr} {ie : IE} {env : Env} {A : Around} {γ : List Addr} {H : Hp} {s : Shared} {L : Lc} {X : XL} {K : List V → (Hp → Prop) → Hp → Prop} (ih : SE D Φ k c iter ie) (hE : EnvOk c env) (hA : AOk D k A) (R : HRel D γ H s.heap)
  (lr : LRel D γ env c.slots s.heap L) (w : (wp2 Φ ie).E L H (fun v H1 => pVal v H1 (fun l st => K l st H1)) X) :
  wpAny D.M A (eval iter env) (fun x s1 => wpAny D.M A (pyIter x) (SrcPost D A γ s K) (PostX D γ s X) s1) (PostX D γ s X) s := by
 refine andThen (ih env A γ H s L _ X hE hA R lr w) ?_
 intro v s1 γ1 V H1 st R1 rv q
 exact wpAny_mono (val_src hA R1 rv q) (fun it s2 p => p.back st R1) fun _ _ x => x
theorem src_call {n : Nat} {g0 : Str} {gp pos : Pos} {as : List Expr} {ies : List IE} {T : Ty} {env : Env} {A : Around} {γ : List Addr} {H : Hp} {s : Shared} {L : Lc} {X : XL} {P : List V → Hp → Prop} {R' : Value → Shared → Prop} (g : GOk D c.G c.mts) (ih : ∀ e ie, compE n c e = some ie → SE D Φ k c e ie)
  (hW : globV c g0 = some (.ty T)) (hs : as.any isStar = false) (ha : mapO (compE n c) as = some ies) (hE : EnvOk c env) (hA : AOk D k A) (R : HRel D γ H s.heap) (lr : LRel D γ env c.slots s.heap L) (w : wpEs Φ ies L H P X)
  (hq : ∀ γ2 H2 s2 xs Ws, Stp [] γ γ2 s s2 → HRel D γ2 H2 s2.heap → Reps D γ2 s2.heap xs Ws → P Ws H2 → wpAny D.M A (call (.type T.name) xs) R' (PostX D γ s X) s2) :
  wpAny D.M A (eval (.Call (.Name g0 gp) as [] pos) env) R' (PostX D γ s X) s := by
 refine wpAny_Call_ofName (andThen (name_ok (Φ := Φ) (Q := fun V H' => V = .ty T ∧ H' = H) g hE R lr (globV_lit hW) ⟨rfl, rfl⟩) ?_)
 intro vf s1 γ1 Vf H1 st R1 rf q
 obtain ⟨rfl, rfl⟩ := q
 obtain rfl := rf
 rw [starEach_of hs]
 refine PyProof.Rows.callWith_type (by simp) (wpAny_mono (evalArgs_ok ih hE hA ha R1 (lr.stp R st) w) (fun b s2 hb => ?_) fun _ _ x => x.back st R1)
 obtain ⟨ps, kw⟩ := b
 obtain ⟨hkw, γ2, Vs, H2, st2, R2, rv, q⟩ := hb
 obtain rfl : kw = [] := hkw
 exact hq γ2 H2 s2 ps Vs (st.trans0 R1 st2) R2 rv q
theorem srcK_some {W : V} {kk : SrcK} (h : srcK W = some kk) : (W = .ty .range ∧ kk = .range) ∨ (W = .ty .reversed ∧ kk = .rev) := by
 cases W with
 | ty t => cases t with
  | range => exact .inl ⟨rfl, (Option.some.inj h).symm⟩
  | reversed => exact .inr ⟨rfl, (Option.some.inj h).symm⟩
  | _ => exact no_some h
 | _ => exact no_some h
theorem src_ok {n : Nat} {iter : Expr} {kk : SrcK} {ie : IE} {env : Env} {A : Around} {γ : List Addr} {H : Hp} {s : Shared} {L : Lc} {X : XL} {K : List V → (Hp → Prop) → Hp → Prop} (g : GOk D c.G c.mts) (ih : ∀ e ie, compE n c e = some ie → SE D Φ k c e ie)
  (hc : compSrc (compE n c) c iter = some (kk, ie)) (hE : EnvOk c env) (hA : AOk D k A) (R : HRel D γ H s.heap)
  (lr : LRel D γ env c.slots s.heap L) (w : (wp2 Φ ie).E L H (fun v H1 => pSrc kk v H1 (fun l st => K l st H1)) X) :
  wpAny D.M A (eval iter env) (fun x s1 => wpAny D.M A (pyIter x) (SrcPost D A γ s K) (PostX D γ s X) s1) (PostX D γ s X) s := by
 unfold compSrc at hc
 cases hs : srcN c iter with
 | none =>
  rw [hs] at hc
  refine e1_2 (Option.map_eq_some_iff.mp hc) fun v hv he => ?_
  cases he
  exact src_val (ih _ _ hv) hE hA R lr w
 | some ka =>
  rw [hs] at hc
  refine e3_2 (onCall_some hs) fun f as p e_127 hs => ?_
  obtain rfl := e_127
  refine e2_2 (onName_some hs) fun g0 px e_128 hs => ?_
  obtain rfl := e_128
  refine e1_2 (Option.map_eq_some_iff.mp hs) fun k' hk e_129 => ?_
  obtain rfl := e_129
  refine e1_2 (Option.bind_eq_some_iff.mp hk) fun W hW hk => ?_
  cases as with
  | nil => exact no_some hc
  | cons a r =>
   obtain ⟨hst, hc⟩ := onlyIf_some (show onlyIf (!isStar a) _ = some (kk, ie) from hc)
   have one : ∀ {v}, compE n c a = some v → mapO (compE n c) [a] = some [v] := fun h => by show (compE n c a).bind _ = _; rw [h]; rfl
   have st1 : [a].any isStar = false := by rw [List.any_cons, bnot hst]; rfl
   rcases srcK_some hk with ⟨rfl, rfl⟩ | ⟨rfl, rfl⟩
   ·cases r with
    | nil =>
     refine e1_2 (Option.map_eq_some_iff.mp hc) fun v hv he => ?_
     cases he
     refine src_call (P := fun vs H' => on1P vs fun v => pSrc .range v H' (fun l st => K l st H')) g ih hW st1 (one hv) hE hA R lr w fun γ2 H2 s2 xs Ws st R2 rxs q0 => ?_
     refine e1_2 (on1P_elim q0) fun W e_130 q => ?_
     obtain rfl := e_130
     refine e2_3 rxs fun x r e_131 rx e_132 => ?_
     obtain rfl := e_131
     obtain rfl := e_132
     refine e1_3 (oK_elim (show oK (intV W) _ from q)) fun b hb q2 h => ?_
     rw [intV_some hb] at rx
     obtain ⟨t, rfl⟩ := rx
     exact call_range_1 (range_src (s0 := s) (γ0 := γ) (γ := γ2) (H := H2) hA (st.trans0 R2 stp_push) (R2.grow (grow_push _)) (IsRange.new _ _ _ _ _ _ _) (by decide) (by decide) q2.1 (by lia) (by lia) h)
    | cons b r =>
     obtain ⟨hst2, hc2⟩ := onlyIf_some (show onlyIf (!isStar b && r.isEmpty) _ = some (kk, ie) from hc)
     rw [Bool.and_eq_true] at hst2
     obtain rfl : r = [] := List.isEmpty_iff.mp hst2.2
     refine e2_3 (oTwo_some hc2) fun v v' hv hv' he => ?_
     cases he
     refine src_call (P := fun vs H' => vs.length ≤ 1000000 ∧ pSrc .range2 (.tup vs) H' (fun l st => K l st H')) g ih hW (by rw [List.any_cons, List.any_cons, bnot hst, bnot hst2.1]; rfl) (by show (compE n c a).bind _ = _; rw [hv]; show (((compE n c b).bind _).map _) = _; rw [hv']; rfl) hE hA R lr w fun γ2 H2 s2 xs Ws st R2 rxs q0 => ?_
     refine e2_2 (on2P_elim (show on2P Ws _ from q0.2)) fun W W' e_133 q2 => ?_
     obtain rfl := e_133
     obtain ⟨x, r, rfl, rx, x', r', rfl, rx', rfl⟩ := rxs
     refine e2_4 (pInt_elim q2) fun i j e_137 e_138 q3 h => ?_
     obtain rfl := e_137
     obtain rfl := e_138
     obtain ⟨t, rfl⟩ := rx; obtain ⟨t', rfl⟩ := rx'
     exact call_range_2 (range_src (s0 := s) (γ0 := γ) (γ := γ2) (H := H2) hA (st.trans0 R2 stp_push) (R2.grow (grow_push _)) (IsRange.new _ _ _ _ _ _ _) q3.1 q3.2.1 q3.2.2.1 q3.2.2.2.1 q3.2.2.2.2 h)
   ·obtain ⟨hr, hc2⟩ := onlyIf_some (show onlyIf r.isEmpty _ = some (kk, ie) from hc)
    obtain rfl : r = [] := List.isEmpty_iff.mp hr
    refine e1_2 (Option.map_eq_some_iff.mp hc2) fun v hv he => ?_
    cases he
    refine src_call (P := fun vs H' => on1P vs fun v => pSrc .rev v H' (fun l st => K l st H')) g ih hW st1 (one hv) hE hA R lr w fun γ2 H2 s2 xs Ws st R2 rxs q0 => ?_
    refine e1_2 (on1P_elim q0) fun W e_139 q => ?_
    obtain rfl := e_139
    refine e2_3 rxs fun x r e_140 rx e_141 => ?_
    obtain rfl := e_140
    obtain rfl := e_141
    refine e1_2 (oK_elim (show oK (refV W) _ from q)) fun j hj q2 => ?_
    rw [refV_some hj] at rx
    refine e1_2 (oK_elim q2) fun l hl q3 => ?_
    exact rev_src hA st R2 rx hl q3
end
end Mine
namespace Mine
open PySem PyProof.Rows
noncomputable def closGo (env : Env) : List (Str × NameKind) → List (Str × Addr) → List (Str × Addr)
 | [], acc => acc
 | (n, k) :: r, acc => if k == .free then (match env.cells.lookup n with | some a => closGo env r ((n, a) :: acc) | none => closGo env r acc) else closGo env r acc
theorem closGo_eq {env : Env} : ∀ (names : List (Str × NameKind)) (acc : List (Str × Addr)), (∀ x ∈ names, x.2 = .free → ∃ a, env.cells.lookup x.1 = some a) →
  (forIn names acc (fun (x : Str × NameKind) (cs : List (Str × Addr)) => (if x.2 == .free then (do let c ← cellOf env x.1; pure (ForInStep.yield ((x.1, c) :: cs))) else pure (ForInStep.yield cs) : Sem (ForInStep (List (Str × Addr)))))) = pure (closGo env names acc)
 | [], acc, _ => rfl
 | (n, k) :: r, acc, h => by
  have hr : ∀ x ∈ r, x.2 = .free → ∃ a, env.cells.lookup x.1 = some a := fun x hx => h x (List.mem_cons_of_mem _ hx)
  rw [List.forIn_cons, closGo]
  cases hk : (k == NameKind.free) with
  | true =>
   have hk' : k = .free := by simpa using hk
   obtain ⟨a, ha⟩ := h (n, k) List.mem_cons_self hk'
   have : cellOf env n = pure a := by unfold cellOf; simp only at ha; rw [ha]
   simp only at ha
   simp only [if_true, this, ha, pure_bind]
   exact closGo_eq r _ hr
  | false =>
   simp only [Bool.false_eq_true, if_false, pure_bind]
   exact closGo_eq r _ hr
theorem closureFor_go {env : Env} {scope : Scope} (h : ∀ x ∈ scope.names, x.2 = .free → ∃ a, env.cells.lookup x.1 = some a) : closureFor scope env = pure (closGo env scope.names []) := by
 have := closGo_eq scope.names [] h
 unfold closureFor
 have e : (forIn scope.names ([] : List (Str × Addr)) fun x r => (do if (x.2 == NameKind.free) = true then (do let c ← cellOf env x.1; pure (ForInStep.yield ((x.1, c) :: r))) else pure (ForInStep.yield r) : Sem (ForInStep (List (Str × Addr))))) = pure (closGo env scope.names []) := this
 exact (congrArg (fun m : Sem (List (Str × Addr)) => m >>= fun cs => pure cs) e)
theorem closGo_mem {env : Env} : ∀ (names : List (Str × NameKind)) (acc : List (Str × Addr)), (∀ n a, (n, a) ∈ acc → env.cells.lookup n = some a) → ∀ n a, (n, a) ∈ closGo env names acc → env.cells.lookup n = some a
 | [], acc, h, n, a, hm => h n a hm
 | (m, k) :: r, acc, h, n, a, hm => by
  rw [closGo] at hm
  split at hm
  ·split at hm
   ·rename_i b hb
    refine closGo_mem r _ ?_ n a hm
    intro n' a' hm'
    rcases List.mem_cons.mp hm' with q | q
    ·cases q; exact hb
    ·exact h n' a' q
   ·exact closGo_mem r _ h n a hm
  ·exact closGo_mem r _ h n a hm
theorem closGo_keep {env : Env} : ∀ (names : List (Str × NameKind)) (acc : List (Str × Addr)) n a, (n, a) ∈ acc → (n, a) ∈ closGo env names acc
 | [], _, _, _, h => h
 | (m, k) :: r, acc, n, a, h => by
  rw [closGo]
  split
  ·split
   ·exact closGo_keep r _ n a (List.mem_cons_of_mem _ h)
   ·exact closGo_keep r _ n a h
  ·exact closGo_keep r _ n a h
theorem closGo_has {env : Env} : ∀ (names : List (Str × NameKind)) (acc : List (Str × Addr)) n a, (n, NameKind.free) ∈ names → env.cells.lookup n = some a → (n, a) ∈ closGo env names acc
 | (m, k) :: r, acc, n, a, h, hl => by
  rw [closGo]
  rcases List.mem_cons.mp h with q | q
  ·cases q
   simp only [beq_self_eq_true, if_true, hl]
   exact closGo_keep r _ _ _ List.mem_cons_self
  ·split
   ·split
    ·exact closGo_has r _ n a q hl
    ·exact closGo_has r _ n a q hl
   ·exact closGo_has r _ n a q hl
theorem lookup_of_mem {l : List (Str × Addr)} {n : Str} {a : Addr} (h : (n, a) ∈ l) : ∃ b, l.lookup n = some b := by
 cases e : l.lookup n with
 | some b => exact ⟨b, rfl⟩
 | none =>
  have := List.lookup_eq_none_iff.mp e (n, a) h
  simp at this
theorem closGo_lookup {env : Env} {names : List (Str × NameKind)} {n : Str} (h : (n, NameKind.free) ∈ names) {a : Addr} (hl : env.cells.lookup n = some a) : (closGo env names []).lookup n = some a := by
 obtain ⟨b, hb⟩ := lookup_of_mem (closGo_has names [] n a h hl)
 have := closGo_mem names [] (by simp) n b (mem_of_lookup hb)
 rw [hl] at this; cases this; exact hb
theorem relab_cell {scope outer : Scope} {y : Str} (h : (relab scope outer).names.lookup y = some .cell) : (y, NameKind.cell) ∈ scope.names ∨ ((y, NameKind.free) ∈ scope.names ∧ outer.names.lookup y = some .cell) := by
 unfold relab at h
 simp only at h
 revert h
 generalize scope.names = l
 induction l with
 | nil => intro h; exact no_some h
 | cons p r ih =>
  obtain ⟨n, k⟩ := p
  intro h
  simp only [List.map_cons] at h
  have next : (r.map fun x => if (x.2 == NameKind.free && outer.kind == .function && outer.names.lookup x.1 == some .cell) then (x.1, NameKind.cell) else (x.1, x.2)).lookup y = some .cell → (y, NameKind.cell) ∈ (n, k) :: r ∨ ((y, NameKind.free) ∈ (n, k) :: r ∧ outer.names.lookup y = some .cell) := fun h => by
   rcases ih h with q | ⟨a, b⟩
   ·exact .inl (List.mem_cons_of_mem _ q)
   ·exact .inr ⟨List.mem_cons_of_mem _ a, b⟩
  by_cases hc : (k == NameKind.free && outer.kind == .function && outer.names.lookup n == some .cell) = true
  ·rw [if_pos hc, List.lookup_cons] at h
   cases hy : y == n with
   | true =>
    obtain rfl : y = n := eq_of_beq hy
    rw [Bool.and_eq_true, Bool.and_eq_true, beq_iff_eq, beq_iff_eq] at hc
    exact .inr ⟨by rw [hc.1.1]; exact List.mem_cons_self, eq_of_beq hc.2⟩
   | false => rw [hy] at h; exact next h
  ·rw [if_neg hc, List.lookup_cons] at h
   cases hy : y == n with
   | true =>
    obtain rfl : y = n := eq_of_beq hy
    rw [hy] at h
    obtain rfl := Option.some.inj h
    exact .inl List.mem_cons_self
   | false => rw [hy] at h; exact next h
theorem relab_at {scope outer : Scope} {y : Str} {k : NameKind} (hk : k ≠ .free) (h : scope.names.lookup y = some k) : (relab scope outer).names.lookup y = some k := by
 unfold relab
 revert h
 show scope.names.lookup y = some k → (scope.names.map _).lookup y = some k
 generalize scope.names = l
 induction l with
 | nil => intro h; exact no_some h
 | cons p r ih =>
  obtain ⟨n, k'⟩ := p
  intro h
  rw [List.lookup_cons] at h
  rw [List.map_cons]
  cases hy : y == n with
  | true =>
   rw [hy] at h
   obtain rfl := Option.some.inj h
   have : (k' == NameKind.free && outer.kind == .function && outer.names.lookup n == some .cell) = false := by
    rw [show (k' == NameKind.free) = false from beq_eq_false_iff_ne.mpr hk]; rfl
   simp only [this, Bool.false_eq_true, if_false]
   rw [List.lookup_cons, hy]
  | false =>
   rw [hy] at h
   have e : ∀ k2, ((n, k2) :: r.map fun x => if (x.2 == NameKind.free && outer.kind == .function && outer.names.lookup x.1 == some .cell) then (x.1, NameKind.cell) else (x.1, x.2)).lookup y = some k := fun k2 => by
    rw [List.lookup_cons, hy]; exact ih h
   by_cases hc : (k' == NameKind.free && outer.kind == .function && outer.names.lookup n == some .cell) = true
   ·simp only [hc, if_true]; exact e _
   ·simp only [hc]; exact e _
theorem cells_none : ∀ {names : List (Str × NameKind)} {n : Nat} {acc : List (Str × Addr)} {h : Heap}, names.filter isCell = [] → cellsFrom n names acc = acc ∧ pushCells h names = h
 | [], _, _, _, _ => ⟨rfl, rfl⟩
 | (y, k) :: r, n, acc, h, e => by
  rw [List.filter_cons] at e
  cases hk : isCell (y, k) with
  | true => rw [hk] at e; exact absurd e (List.cons_ne_nil _ _)
  | false =>
   rw [hk] at e
   have hk : (k == NameKind.cell) = false := hk
   unfold cellsFrom pushCells
   rw [hk]
   exact cells_none (names := r) e
theorem cells_one : ∀ {names : List (Str × NameKind)} {x : Str} {n : Nat} {acc : List (Str × Addr)} {h : Heap}, names.filter isCell = [(x, .cell)] → cellsFrom n names acc = (x, n) :: acc ∧ pushCells h names = h.push { cls := .type "cell", data := .cell none }
 | [], _, _, _, _, e => absurd e.symm (List.cons_ne_nil _ _)
 | (y, k) :: r, x, n, acc, h, e => by
  rw [List.filter_cons] at e
  cases hk : isCell (y, k) with
  | true =>
   rw [hk] at e
   have hk : (k == NameKind.cell) = true := hk
   obtain ⟨e1, e2⟩ := List.cons.inj (show (y, k) :: r.filter isCell = _ from e)
   obtain rfl : y = x := congrArg Prod.fst e1
   unfold cellsFrom pushCells
   rw [hk]
   exact cells_none (names := r) e2
  | false =>
   rw [hk] at e
   have hk : (k == NameKind.cell) = false := hk
   unfold cellsFrom pushCells
   rw [hk]
   exact cells_one (names := r) e
theorem relab_local {scope outer : Scope} {y : Str} (h : (relab scope outer).names.lookup y = some .local) : (y, NameKind.local) ∈ scope.names := by
 unfold relab at h
 simp only at h
 revert h
 generalize scope.names = l
 induction l with
 | nil => intro h; simp at h
 | cons p r ih =>
  obtain ⟨n, k⟩ := p
  intro h
  simp only [List.map_cons] at h
  by_cases hc : (k == NameKind.free && outer.kind == .function && outer.names.lookup n == some .cell) = true
  ·rw [if_pos hc] at h
   rw [List.lookup_cons] at h
   cases hy : y == n with
   | true => rw [hy] at h; simp at h
   | false => rw [hy] at h; exact List.mem_cons_of_mem _ (ih h)
  ·rw [if_neg hc] at h
   rw [List.lookup_cons] at h
   cases hy : y == n with
   | true =>
    rw [hy] at h
    have : y = n := by simpa using hy
    subst this
    simp only at h
    cases h
    exact List.mem_cons_self
   | false => rw [hy] at h; exact List.mem_cons_of_mem _ (ih h)
end Mine
namespace Mine
open PySem PyProof.Rows
theorem base_none {D : Wd} {γ : List Addr} {H : Hp} {s : Shared} (R : HRel D γ H s.heap) {z : Addr} (h : s.heap.get? z = none) : D.hB.get? z = none := by
 cases e : D.hB.get? z with
 | none => rfl
 | some o => have := R.base _ _ e; rw [h] at this; cases this
noncomputable def frA (D : Wd) : List Addr := D.fr.filterMap (·.frame)
theorem FrsOk.at {D : Wd} {γ : List Addr} {h : Heap} (f : FrsOk D γ h) {b : Addr} (hb : b ∈ frA D) : (D.hB.get? b = none ∧ b ∉ γ) ∧ ∃ o, h.get? b = some o ∧ ¬ NotD o := by
 refine e1_2 (List.mem_filterMap.mp hb) fun e he hf => ?_
 obtain ⟨k, L, o, a, b', n, c, d⟩ := f e he
 rw [hf] at a; obtain rfl := Option.some.inj a
 exact ⟨⟨b', n⟩, o, c, d⟩
theorem frsFun {h base : Heap} : ∀ {l : List Env}, (∀ e ∈ l, e.scope.kind = .function ∧ ∃ (L : Addr) (o : Obj), e.frame = some L ∧ base.get? L = none ∧ h.get? L = some o ∧ ¬ NotD o) → h.FunFrames base l
 | [], _ => trivial
 | e :: r, f => by
  obtain ⟨k, L, o, a, b, c, d⟩ := f e List.mem_cons_self
  exact ⟨(by rw [k]; intro q; cases q), ⟨L, o, a, b, c, fun vs q => d (notD_fields q)⟩, frsFun fun e he => f e (List.mem_cons_of_mem _ he)⟩
structure Land (ex : List Addr) (h h' : Heap) : Prop where
 stays : ∀ b o, b ∉ ex → h.get? b = some o → h'.get? b = some o
 up : h.UpToSlots h'
structure ExF (D : Wd) (γ : List Addr) (s : Shared) (h : Heap) (ex : List Addr) : Prop where
 each : ∀ b ∈ ex, b ∈ frA D ∨ (s.heap.get? b = none ∧ D.hB.get? b = none ∧ b ∉ γ ∧ ∃ o vs, h.get? b = some o ∧ o.data = .fields vs)
 frs : ∀ b ∈ frA D, b ∈ ex
theorem Land.of {ex : List Addr} {h h' : Heap} (st : (PySem.W.hideAll h ex).StaysIn h') (up : h.UpToSlots h') : Land ex h h' := ⟨fun b o hb e => st b o (PySem.W.hideAll_get _ e hb), up⟩
section
variable {D : Wd} {γ γ1 γ0 : List Addr} {H H1 H0 : Hp} {s s1 : Shared} {env : Env} {slots : List (Str × Nat)} {L : Lc} {ex : List Addr} {h h' : Heap}
theorem Land.same (l : Land ex h h') (F : FrsOk D γ h) (X : ExF D γ s h ex) {b : Addr} {o : Obj} (nd : NotD o) (nf : ∀ vs, o.data ≠ .fields vs) (e : h.get? b = some o) : h'.get? b = some o :=
 l.stays b o (fun hb => by
  rcases X.each b hb with q | ⟨_, _, _, o', vs, e', d⟩
  ·obtain ⟨_, o', e', d⟩ := F.at q
   rw [e] at e'; obtain rfl := Option.some.inj e'; exact d nd
  ·rw [e] at e'; obtain rfl := Option.some.inj e'; exact nf vs d) e
theorem Land.tup (l : Land ex h h') (F : FrsOk D γ h) (X : ExF D γ s h ex) {a : Addr} {vs : List Value} (t : TupAt h a vs) : TupAt h' a vs := by
 refine e1_2 t fun n e z => ?_
 exact ⟨n, l.same F X (notD_seq rfl) (fun vs q => by cases q) e, z⟩
theorem Land.frs (l : Land ex h h') (F : FrsOk D γ h) : FrsOk D γ h' := F.but fun b o _ e d => by
 obtain ⟨sl, e'⟩ := l.up b o e fun vs q => d (notD_fields q)
 exact ⟨_, e', fun q => d q⟩
theorem Land.base (l : Land ex h h') (R : HRel D γ H h) (X : ExF D γ s h ex) : ∀ b o, D.hB.get? b = some o → h'.get? b = some o := fun b o e => l.stays b o (fun hb => by
  rcases X.each b hb with q | ⟨_, q, _⟩
  ·obtain ⟨⟨q, _⟩, _⟩ := R.frs.at q; rw [e] at q; exact no_some q.symm
  ·rw [e] at q; exact no_some q.symm) (R.base b o e)
theorem Land.rep (l : Land ex h h') (F : FrsOk D γ h) (X : ExF D γ s h ex) {v : Value} {V : V} (r : Rep D γ h v V) : Rep D γ h' v V := Rep.mono ⟨[], by simp⟩ (fun _ _ => l.tup F X) r
theorem Land.rel (l : Land ex h h') (R : HRel D γ H h) (X : ExF D γ s h ex) : HRel D γ H h' where
 len := R.len
 nodup := R.nodup
 objs := fun i a o e1 e2 => (R.objs i a o e1 e2).mono ⟨[], by simp⟩ (fun _ _ => l.tup R.frs X) fun ob e => l.stays a ob (fun hb => by
  have ha := List.mem_of_getElem? e1
  rcases X.each a hb with q | ⟨_, _, q, _⟩
  ·exact (R.frs.at q).1.2 ha
  ·exact q ha) e
 fresh := R.fresh
 base := l.base R X
 frs := l.frs R.frs
theorem Land.stp {wr : List Addr} (l : Land ex s1.heap h') (F : FrsOk D γ1 s1.heap) (X : ExF D γ1 s s1.heap ex) (st : Stp wr γ γ1 s s1) : Stp wr γ γ1 s { s1 with heap := h' } where
 same := by
  refine e2_1 (st.same) fun h1 t1 e => ?_
  exact ⟨h', t1, by rw [e]⟩
 keepS := fun b o hb hw e => by
  refine e1_2 (st.keepS b o hb hw e) fun sl e1 q => ?_
  by_cases nd : NotD o
  ·refine ⟨sl, l.stays b _ (fun hx => ?_) e1, q⟩
   rcases X.each b hx with q' | ⟨q', _⟩
   ·obtain ⟨_, o', e', d⟩ := F.at q'
    rw [e1] at e'; cases e'; exact d nd
   ·rw [e] at q'; cases q'
  ·obtain ⟨sl2, e2⟩ := l.up b _ e1 fun vs q => nd (notD_fields q)
   exact ⟨sl2, e2, fun q => absurd q nd⟩
 ext := st.ext
end
noncomputable def Held (base : Heap) (l : List Env) (e : Addr) (cls a0 : Value) (h : Heap) : Prop :=
 base.StaysIn h ∧ base.get? e = none ∧ h.FunFrames base l ∧ ∃ fl, h.TracedAtW base e cls a0 fl
section
variable {M : Model} {A : Around} {E : Value → Shared → Prop} {s : Shared} {base : Heap} {l : List Env} {e La : Addr} {cls a0 : Value} {Q : Unit → Shared → Prop}
theorem flies (o : Option Addr) (hh : Held base l e cls a0 s.heap) (hQ : ∀ h', Held base l e cls a0 h' → s.heap.UpToSlots h' → Q () { s with heap := h' }) : wpAny M A (setFlight (.ref e) o) Q E s := by
 obtain ⟨f1, f2, f3, fl, oe, vs, T, oT, ts, he, hcls, hd, h1, hnT, hTe, hT, hdT, h3⟩ := hh
 have hz : 3 < ts.size := (Array.getElem?_eq_some_iff.mp h3).1
 have ot : ∀ b, b ≠ T → (s.heap.update T (Obj.mapFields (·.setIfInBounds 3 (o.elim Value.none fun f => rawInt f)))).get? b = s.heap.get? b := fun b hb => Heap.get?_update_other _ _ (Ne.symm hb)
 have nr : ∀ b ob, s.heap.get? b = some ob → (∀ vs, ob.data ≠ .fields vs) → b ≠ T := fun b ob hb hn q => by
  rw [q, hT] at hb; cases hb; exact hn ts hdT
 unfold setFlight
 refine wpAny_bind (wpAny_field he hd h1 ?_)
 rw [if_pos (show (Value.ref T != Value.none) = true from by simp)]
 refine wpAny_setField hT hdT hz (hQ _ ⟨fun b ob hb => (ot b fun q => by rw [q, hnT] at hb; cases hb).trans (f1 b ob hb), f2, f3.of_keeps fun b ob hb hn => ⟨ob, (ot b (nr b ob hb hn)).trans hb, rfl⟩,
  _, oe, vs, T, _, _, (ot e (Ne.symm hTe)).trans he, hcls, hd, h1, hnT, hTe, Heap.get?_update_self _ hT (Obj.isFreed_of_fields (Obj.data_mapFields hdT _)), Obj.data_mapFields hdT _, Array.getElem?_setIfInBounds_self_of_lt hz⟩
  fun b ob hb hn => ⟨ob.slots, (ot b (nr b ob hb hn)).trans hb⟩)
theorem lands (hh : Held base l e cls a0 s.heap) (hQ : ∀ h', Heap.FlyingW base l e cls a0 h' → s.heap.UpToSlots h' → Q () { s with heap := h' }) : wpAny M A (setFlight (.ref e) none) Q E s := by
 obtain ⟨f1, f2, f3, fl, f4⟩ := hh
 exact wpAny_setFlight_noneW f1 f3 f4 fun h' k1 k2 k3 k4 => hQ h' ⟨k1, f2, k2, k3⟩ fun b o hb hn => ⟨o.slots, k4 b o hb hn⟩
theorem came {env : Env} (hh : Held base l e cls a0 s.heap) (hQ : ∀ h', Held base l e cls a0 h' → s.heap.UpToSlots h' → E (.ref e) { s with heap := h' }) : cameBackBy M A env E (.ref e) s := by
 obtain ⟨oe, vs, T, oT, ts, he, hcls, hd, h1, _⟩ := hh.2.2.2.choose_spec
 unfold cameBackBy
 refine wpAny_bind (wpAny_field he hd h1 ?_)
 rw [if_neg (show ¬ ((Value.ref T == Value.none) = true) from by simp)]
 first
  | exact wpAny_bind (wpAny_pure (flies _ hh hQ))
  | exact flies _ hh hQ
theorem note_at {env : Env} {outer : List Env} {fl : Value} (hfr : A.frames = some (env :: outer)) (hl : s.heap.FunFrames base (env :: outer)) (hf : env.frame = some La) (ht : s.heap.TracedAtW base e cls a0 fl) (hkb : base.StaysIn s.heap) (hen : base.get? e = none)
  (h : ∀ h', Held base (env :: outer) e cls a0 h' → s.heap.UpToSlots h' → Q () { s with heap := h' }) : wpAny M A (noteFrame (.ref e) env) Q E s := by
 have ht0 := ht
 refine e5_9 ht fun oe vs T oT ts he e_142 hd h1 hnT hTe hT hdT h3 => ?_
 obtain ⟨hcls, h0⟩ := e_142
 unfold noteFrame
 simp only [hf]
 refine wpAny_bind (wpAny_field he hd h1 ?_)
 rw [if_pos (show (Value.ref T != Value.none) = true from by simp)]
 refine wpAny_bind (wpAny_field hT hdT h3 ?_)
 cases hq : (fl == rawInt La) with
 | true =>
  rw [if_pos rfl]
  exact wpAny_pure (h s.heap ⟨hkb, hen, hl, fl, ht0⟩ (Heap.UpToSlots.refl _))
 | false =>
  rw [if_neg (by decide)]
  subst hcls
  refine wpAny_bind (wpAny_setField hT hdT (Array.getElem?_eq_some_iff.mp h3).1 ?_)
  have ot : ∀ b, b ≠ T → (s.heap.update T (Obj.mapFields (·.setIfInBounds 3 Value.none))).get? b = s.heap.get? b := fun b hb => Heap.get?_update_other _ _ (Ne.symm hb)
  have nr : ∀ b ob, s.heap.get? b = some ob → (∀ vs, ob.data ≠ .fields vs) → b ≠ T := fun b ob hb hn q => by
   rw [q, hT] at hb; cases hb; exact hn ts hdT
  refine wpAny_entryW hfr (hl.of_keeps fun b o hb hn => ⟨o, (ot b (nr b o hb hn)).trans hb, rfl⟩) hf ((ot e (Ne.symm hTe)).trans he)
   (fun b o hb => (ot b fun q => by rw [q, hnT] at hb; cases hb).trans (hkb b o hb)) hen hd (Array.getElem?_eq_some_iff.mp h1).1 h0
   fun h' ⟨x1, x2, x3, x4⟩ => h h' ⟨x1, hen, x2, _, x3⟩ fun b o hb hn => x4 b o ((ot b (nr b o hb hn)).trans hb) hn
end
section
variable {D : Wd} {γ γ0 : List Addr} {H H0 : Hp} {s s1 : Shared} {env : Env} {outer : List Env} {A : Around} {E : Value → Shared → Prop} {v : Value} {x : Exc} {La : Addr} {Q : Unit → Shared → Prop}
theorem ex_of (R0 : HRel D γ0 H0 s.heap) (R : HRel D γ H s1.heap) (hx : XNew D γ s s1.heap v x ∨ XFly D γ s s1.heap v x) :
  ∃ a oe vs C a0 ex, v = .ref a ∧ D.mg x.cls = some (.ref C) ∧ s.heap.get? a = none ∧ a ∈ ex ∧ ExF D γ s s1.heap ex ∧ s1.heap.get? a = some oe ∧ oe.cls = .ref C ∧ oe.data = .fields vs ∧ vs[0]? = some a0 ∧
   (vs[1]? = some .none ∨ ∃ fl, s1.heap.TracedAtW (PySem.W.hideAll s1.heap ex) a (.ref C) a0 fl) := by
 rcases hx with ⟨a, oe, vs, C, a0, e1, e2, e3, e4, e5, e6, e7, e8, na⟩ | ⟨a, oe, vs, C, a0, T, oT, ts, e1, e2, e3, e4, e5, e6, e7, e8, e9, e10, e11, e12, na, nT, fl, e13⟩
 ·refine ⟨a, oe, vs, C, a0, frA D ++ [a], e1, e5, e2, by simp, ⟨fun b hb => ?_, fun b hb => List.mem_append_left _ hb⟩, e3, e4, e6, e7, .inl e8⟩
  rcases List.mem_append.mp hb with q | q
  ·exact .inl q
  ·simp at q; subst q; exact .inr ⟨e2, base_none R0 e2, na, oe, vs, e3, e6⟩
 ·refine ⟨a, oe, vs, C, a0, frA D ++ [a, T], e1, e5, e2, by simp, ⟨fun b hb => ?_, fun b hb => List.mem_append_left _ hb⟩, e3, e4, e6, e7, .inr ⟨fl, oe, vs, T, oT, ts, e3, ⟨e4, e7⟩, e6, e8, PySem.W.hideAll_none _ (by simp), e10, e11, e12, e13⟩⟩
  rcases List.mem_append.mp hb with q | q
  ·exact .inl q
  ·simp at q
   rcases q with q | q
   ·subst q; exact .inr ⟨e2, base_none R0 e2, na, oe, vs, e3, e6⟩
   ·subst q; exact .inr ⟨e9, base_none R0 e9, nT, oT, ts, e11, e12⟩
theorem base_stays {h : Heap} {ex : List Addr} : (PySem.W.hideAll h ex).StaysIn h := fun _ _ e => PySem.W.of_hideAll _ e
theorem frs_fun {h : Heap} {ex : List Addr} (F : FrsOk D γ h) (X : ExF D γ s h ex) : h.FunFrames (PySem.W.hideAll h ex) D.fr := frsFun fun e he => by
 obtain ⟨k, L, o, a, b, _, c, d⟩ := F e he
 exact ⟨k, L, o, a, PySem.W.hideAll_none _ (X.frs L (List.mem_filterMap.mpr ⟨e, he, a⟩)), c, d⟩
theorem note_any (hfr : A.frames = some D.fr) (R0 : HRel D γ0 H0 s.heap) (R : HRel D γ H s1.heap) (htop : D.fr = env :: outer) (hf : env.frame = some La) (hx : XNew D γ s s1.heap v x ∨ XFly D γ s s1.heap v x)
  (h : ∀ a C a0 ex h', v = .ref a → D.mg x.cls = some (.ref C) → s.heap.get? a = none → a ∈ ex → ExF D γ s s1.heap ex → s1.heap.UpToSlots h' → Held (PySem.W.hideAll s1.heap ex) D.fr a (.ref C) a0 h' → Q () { s1 with heap := h' }) :
  wpAny D.M A (noteFrame v env) Q E s1 := by
 obtain ⟨a, oe, vs, C, a0, ex, rfl, hm, hn, hax, X, he, hc, hd, h0, h1⟩ := ex_of R0 R hx
 have F := frs_fun R.frs X
 have hen : (PySem.W.hideAll s1.heap ex).get? a = none := PySem.W.hideAll_none _ hax
 have fin : ∀ h', Held (PySem.W.hideAll s1.heap ex) D.fr a (.ref C) a0 h' → s1.heap.UpToSlots h' → Q () { s1 with heap := h' } := fun h' k1 k2 => h a C a0 ex h' rfl hm hn hax X k2 k1
 rw [htop] at F fin hfr
 rcases h1 with h1 | ⟨fl, h1⟩
 ·unfold noteFrame
  simp only [hf]
  refine wpAny_bind (wpAny_field he hd h1 ?_)
  rw [if_neg (by decide)]
  exact wpAny_entryW hfr F hf he base_stays hen hd (Array.getElem?_eq_some_iff.mp h1).1 h0 (by rw [hc]; exact fun h' ⟨k1, k2, k3, k4⟩ => fin h' ⟨k1, hen, k2, _, k3⟩ k4)
 ·exact note_at hfr F hf h1 base_stays hen fin
theorem fly_of {ex : List Addr} {h' : Heap} {a C : Addr} {a0 fl : Value} (back : ∀ b, s1.heap.get? b = none → s.heap.get? b = none) (F : FrsOk D γ s1.heap) (nin : ∀ b, s1.heap.get? b = none → b ∉ γ) (hna : a ∉ γ) (X : ExF D γ s s1.heap ex) (l : Land ex s1.heap h') (hm : D.mg x.cls = some (.ref C)) (hn : s.heap.get? a = none)
  (t : h'.TracedAtW (PySem.W.hideAll s1.heap ex) a (.ref C) a0 fl) : XFly D γ s h' (.ref a) x := by
 refine e5_9 t fun oe vs T oT ts e1 e_144 e4 e5 e6 e7 e8 e9 e10 => ?_
 obtain ⟨e2, e3⟩ := e_144
 have hT : s.heap.get? T = none ∧ T ∉ γ := by
  by_cases hT : T ∈ ex
  ·rcases X.each T hT with q | ⟨q, _, q2, _⟩
   ·obtain ⟨_, o, e, d⟩ := F.at q
    obtain ⟨sl, e'⟩ := l.up T o e fun vs q => d (notD_fields q)
    rw [e8] at e'
    have hd : oT.data = o.data := by rw [Option.some.inj e']
    exact absurd (notD_fields (hd ▸ e9)) d
   ·exact ⟨q, q2⟩
  ·have hz : s1.heap.get? T = none := by
    cases e : s1.heap.get? T with
    | none => rfl
    | some o => rw [PySem.W.hideAll_get _ e hT] at e6; exact no_some e6.symm
   exact ⟨back T hz, nin T hz⟩
 exact ⟨a, oe, vs, C, a0, T, oT, ts, rfl, hn, e1, e2, hm, e4, e3, e5, hT.1, e7, e8, e9, hna, hT.2, fl, e10⟩
end
end Mine
namespace Mine
open PySem PyProof.Rows
noncomputable def Up (h h' : Heap) (z : Addr) : Prop := ∀ o, h.get? z = some o → ∃ sl, h'.get? z = some { o with slots := sl } ∧ (NotD o → sl = o.slots)
theorem Up.of {h h' : Heap} {z : Addr} (hk : ∀ o, h.get? z = some o → h'.get? z = some o) : Up h h' z := fun o e => ⟨o.slots, hk o e, fun _ => rfl⟩
theorem Up.ns {h h' : Heap} {z : Addr} {m : Str → Option Value} (u : Up h h' z) (n : h.Ns z m) : h'.Ns z m := by
 refine e3_2 n fun o es ep ho r => ?_
 refine e1_2 (u o ho) fun sl e' _ => ?_
 exact ⟨_, es, ep, e', r⟩
theorem Up.cell {h h' : Heap} {z : Addr} {v : Option Value} (u : Up h h' z) (n : h.IsCell z v) : h'.IsCell z v := by
 refine e1_2 n fun o ho d => ?_
 refine e1_2 (u o ho) fun sl e' _ => ?_
 exact ⟨_, e', d⟩
theorem Up.then {h h' h2 : Heap} {z : Addr} (u : Up h h' z) (hk : ∀ o, h'.get? z = some o → h2.get? z = some o) : Up h h2 z := fun o e => let ⟨sl, e', q⟩ := u o e; ⟨sl, hk _ e', q⟩
noncomputable def VOk (cenv : Env) (x : Str) (z : Addr) (h : Heap) (P : Option Value → Prop) : Prop :=
 (cenv.kindOf x = some .local ∧ z = cenv.locals ∧ ∃ m, h.Ns z m ∧ P (m x)) ∨ (cenv.kindOf x = some .cell ∧ cenv.cells.lookup x = some z ∧ ∃ u, h.IsCell z u ∧ P u)
theorem VOk.at {cenv : Env} {x : Str} {z : Addr} {h h' : Heap} {P : Option Value → Prop} (hk : Up h h' z) : VOk cenv x z h P → VOk cenv x z h' P
 | .inl ⟨a, b, m, n, p⟩ => .inl ⟨a, b, m, hk.ns n, p⟩
 | .inr ⟨a, b, u, n, p⟩ => .inr ⟨a, b, u, hk.cell n, p⟩
theorem VOk.any {cenv : Env} {x : Str} {z : Addr} {h : Heap} {P : Option Value → Prop} : VOk cenv x z h P → VOk cenv x z h (fun _ => True)
 | .inl ⟨a, b, m, n, _⟩ => .inl ⟨a, b, m, n, trivial⟩
 | .inr ⟨a, b, u, n, _⟩ => .inr ⟨a, b, u, n, trivial⟩
theorem VOk.there {cenv : Env} {x : Str} {z : Addr} {h : Heap} {P : Option Value → Prop} : VOk cenv x z h P → (∃ o, h.get? z = some o) ∧ ∀ ws, ¬ TupAt h z ws
 | .inl ⟨_, _, m, ⟨o, es, ep, e, d, _⟩, _⟩ => ⟨⟨o, e⟩, fun ws ⟨k, e', _⟩ => by rw [e] at e'; rw [Option.some.inj e'] at d; cases d⟩
 | .inr ⟨_, _, u, ⟨o, e, d⟩, _⟩ => ⟨⟨o, e⟩, fun ws ⟨k, e', _⟩ => by rw [e] at e'; rw [Option.some.inj e'] at d; cases d⟩
theorem VOk.loc {cenv : Env} {x : Str} {z : Addr} {h h' : Heap} {P P' : Option Value → Prop} (v : VOk cenv x z h P) (v' : VOk cenv x z h' P') (hn : ∃ m, h.Ns cenv.locals m) (hs : ∀ b o, b ≠ z → h.get? b = some o → h'.get? b = some o) : ∃ m, h'.Ns cenv.locals m := by
 rcases v' with ⟨_, b, m, n, _⟩ | ⟨a, _, _⟩
 ·rw [← b]; exact ⟨m, n⟩
 ·rcases v with ⟨a', _⟩ | ⟨_, _, u, ⟨o, e, d⟩, _⟩
  ·rw [a'] at a; cases a
  ·obtain ⟨m, n⟩ := hn
   refine ⟨m, n.at' fun o' e' => hs _ o' (fun q => ?_) e'⟩
   refine e3_3 n fun o2 es ep e2 d2 _ => ?_
   rw [q, e] at e2
   rw [Option.some.inj e2, d2] at d; cases d
theorem store_var {M : Model} {A : Around} {E : Value → Shared → Prop} {s : Shared} {cenv : Env} {x : Str} {z : Addr} {v : Value} {P : Option Value → Prop} {Q : Unit → Shared → Prop} (hf : cenv.scope.kind = .function) (h : VOk cenv x z s.heap P)
  (hQ : ∀ h' tk, VOk cenv x z h' (· = some v) → (∀ b o, b ≠ z → s.heap.get? b = some o → h'.get? b = some o) → Q () { s with heap := h', toks := tk }) : wpAny M A (storeName cenv x v) Q E s := by
 rcases h with ⟨a, rfl, m, n, _⟩ | ⟨a, b, u, n, _⟩
 ·exact wpAny_storeName_local a n (fun h' hn hs => hQ h' _ (.inl ⟨a, rfl, _, hn, if_pos rfl⟩) fun b o hb e => hs.extBut b o hb e) (by rw [hf]; rfl)
 ·exact wpAny_storeName_cell hf a b n fun h' hn hs => hQ h' _ (.inr ⟨a, b, _, hn, rfl⟩) fun b o hb e => hs.extBut b o hb e
structure TgAt (D : Wd) (A : Around) (env cenv : Env) (slots slots' : List (Str × Nat)) (tgt : Expr) (L : Lc) (bd : V → Option Lc) (C z : Addr) (var : Heap → Prop) (vw : List Addr → V → Heap → Prop) : Prop where
 mv : ∀ h h', Up h h' z → var h → var h'
 there : ∀ h, var h → (∃ o, h.get? z = some o) ∧ ∀ ws, ¬ TupAt h z ws
 loc : ∀ h h', var h → var h' → (∃ m, h.Ns C m) → (∀ b o, b ≠ z → h.get? b = some o → h'.get? b = some o) → ∃ m, h'.Ns C m
 asg : ∀ (γ : List Addr) (s : Shared) (v : Value) (W : V) (L1 : Lc) (Q : Unit → Shared → Prop) (E : Value → Shared → Prop), bd W = some L1 → var s.heap → Rep D γ s.heap v W → (∀ h' tk, var h' → vw γ W h' → (∀ b o, b ≠ z → s.heap.get? b = some o → h'.get? b = some o) → Q () { s with heap := h', toks := tk }) → wpAny D.M A (assign tgt cenv v) Q E s
 mkL : ∀ (γ : List Addr) (h : Heap) (W : V) (L1 : Lc), bd W = some L1 → (∃ m, h.Ns C m) → vw γ W h → LRel D γ env slots h L → C ∉ γ → z ∉ γ → LRel D γ cenv slots' h L1
 go : ∀ (γ : List Addr) (I : Addr) (s : Shared) (v : Value) (W : V) (L1 : Lc) (Q : Unit → Shared → Prop) (E : Value → Shared → Prop), bd W = some L1 → Rep D γ s.heap v W → (∀ elts x1 pos T, wpAny D.M A (letOwnedTupleGo (.Tuple elts x1 pos) (.ref I) (.ref T)) Q E s) → Q () s → wpAny D.M A (letOwnedTupleGo tgt (.ref I) v) Q E s
structure CInv (D : Wd) (var : Heap → Prop) (z : Addr) (γ : List Addr) (s : Shared) (Dd C : Addr) (fp : List Addr) (Inv : List Addr → Nat → Heap → Prop) (st : Hp → Prop) (i : Nat) (acc : List V) (γ' : List Addr) (H' : Hp) (s' : Shared) : Prop where
 stp : Stp [] γ γ' s s'
 rel : HRel D γ' H' s'.heap
 out : ∃ ys n, s'.heap.get? Dd = some { cls := .type "list", data := .seq ys.toArray n } ∧ Reps D γ' s'.heap ys acc
 dnin : Dd ∉ γ'
 loc : ∃ m, s'.heap.Ns C m
 cnin : C ∉ γ'
 var : var s'.heap
 znin : z ∉ γ'
 inv : Inv γ' i s'.heap
 stb : st H'
 fps : ∀ b ∈ fp, b ∉ γ' ∧ ∃ o, s'.heap.get? b = some o
structure CFix (D : Wd) (s : Shared) (Dd C I z : Addr) (fp : List Addr) : Prop where
 d0 : s.heap.get? Dd = none
 c0 : s.heap.get? C = none
 i0 : s.heap.get? I = none
 dc : Dd ≠ C
 df : Dd ∉ fp
 cf : C ∉ fp
 z0 : s.heap.get? z = none
 dz : Dd ≠ z
 zf : z ∉ fp
theorem notTup_dict {h : Heap} {C : Addr} {m : Str → Option Value} (n : h.Ns C m) (ws : List Value) : ¬ TupAt h C ws := fun x => by
 refine e3_3 n fun o es ep e d _ => ?_
 refine e1_2 x fun k e' _ => ?_
 rw [e] at e'; cases e'; cases d
theorem notTup_list {h : Heap} {C : Addr} {vs : List Value} {n : Nat} (e : h.get? C = some { cls := .type "list", data := .seq vs.toArray n }) (ws : List Value) : ¬ TupAt h C ws := fun x => by
 refine e1_2 x fun k e' _ => ?_
 rw [e] at e'; simp at e'
theorem Stp.change {γ γ' : List Addr} {s s' : Shared} {h' : Heap} {tk : Nat} {z : Addr} (t : Stp [] γ γ' s s') (hk : ∀ b o, b ≠ z → s'.heap.get? b = some o → h'.get? b = some o) (hz : s.heap.get? z = none) : Stp [] γ γ' s { s' with heap := h', toks := tk } := by
 refine ⟨?_, fun b o hb hw e => let ⟨sl, e', q⟩ := t.keepS b o hb hw e; ⟨sl, hk b _ (by rintro rfl; rw [hz] at e; exact no_some e) e', q⟩, t.ext⟩
 refine e2_1 (t.same) fun h1 t1 e_145 => ?_
 obtain rfl := e_145
 exact ⟨_, _, rfl⟩
section
variable {D : Wd} {Φ : Orc} {k : Nat} {c : CC}
theorem comp_loop {n : Nat} {elt iter tgt : Expr} {pos : Pos} {scope : Scope} {ielt : IE} {c' : CC} {env cenv : Env} {A : Around} {L : Lc} {γ : List Addr} {H : Hp} {s : Shared} {Dd C I z : Addr} {fp : List Addr}
  {l : List V} {st : Hp → Prop} {Inv : List Addr → Nat → Heap → Prop} {K : List V → Hp → Prop} {Rr : Result → Shared → Prop} {bd : V → Option Lc} {var : Heap → Prop} {vw : List Addr → V → Heap → Prop}
  (hE' : EnvOk c' cenv) (hA : AOk D k A) (R0 : HRel D γ H s.heap) (lr : LRel D γ env c.slots s.heap L)
  (ihe : ∀ e ie, compE n c' e = some ie → Both D Φ k c' e ie) (hce : compE n c' elt = some ielt)
  (F : CFix D s Dd C I z fp) (it : Itr D A I fp l st Inv) (tg : TgAt D A env cenv c.slots c'.slots tgt L bd C z var vw)
  (fin : ∀ γ' H' s' acc, CInv D var z γ s Dd C fp Inv st l.length acc γ' H' s' → K acc H' → ∀ h' tk, (∀ b o, b ≠ I → s'.heap.get? b = some o → h'.get? b = some o) → Rr (.ok .next) { s' with heap := h', toks := tk }) :
  ∀ (i : Nat) (acc : List V) (γ' : List Addr) (H' : Hp) (s' : Shared), i ≤ l.length → acc.length ≤ i → l.length ≤ 2000000 → CInv D var z γ s Dd C fp Inv st i acc γ' H' s' →
   compGoB (fun L' H' K => (wp2 Φ ielt).E L' H' K noX) st bd (l.drop i) acc H' K →
   codeAny D.M A (.compLoop (.ListComp elt [⟨tgt, iter, [], 0⟩] scope pos) 0 (.ref I) (.ref Dd) cenv) Rr s' := by
 intro i acc γ' H' s' hi hacc hlen ci cg
 refine W.kcp_loop (fun m s' => ∃ i acc γ' H', m = l.length - i ∧ i ≤ l.length ∧ acc.length ≤ i ∧ CInv D var z γ s Dd C fp Inv st i acc γ' H' s' ∧
  compGoB (fun L' H' K => (wp2 Φ ielt).E L' H' K noX) st bd (l.drop i) acc H' K) ?_ (l.length - i) ⟨i, acc, γ', H', rfl, hi, hacc, ci, cg⟩
 clear cg ci hacc hi i acc γ' H' s'
 rintro m s' ⟨i, acc, γ', H', rfl, hi, hacc, ci, cg⟩
 have hIg : I ∉ γ' := (ci.fps I it.mem).1
 have hIB := base_none R0 F.i0
 have hDB := base_none R0 F.d0
 have hCI : C ≠ I := fun q => F.cf (q ▸ it.mem)
 have hzI : z ≠ I := fun q => F.zf (q ▸ it.mem)
 have hzB := base_none R0 F.z0
 have hDI : Dd ≠ I := fun q => F.df (q ▸ it.mem)
 by_cases hlt : i < l.length
 ·have hW : l[i]? = some l[i] := by simp [hlt]
  have hdrop : l.drop i = l[i] :: l.drop (i + 1) := List.drop_eq_getElem_cons hlt
  rw [hdrop] at cg
  refine e1_2 (oK_elim (show oK (bd l[i]) _ from cg)) fun L1 hL1 cg => ?_
  refine it.next γ' H' s' i _ _ _ hW ci.rel hIg ci.stb ci.inv fun v h1 tk1 hI1 hk1 iv1 rv1 => ?_
  have nt1 := fun ws => it.notTup γ' i s'.heap ws ci.inv
  have R1 : HRel D γ' H' h1 := ci.rel.but hk1 hIg hIB nt1 (.inr (.inr (R0.frs.ne F.i0)))
  have v1 : var h1 := tg.mv _ _ (.of fun o e => hk1 _ o hzI e) ci.var
  refine (fun main => tg.go γ' I { s' with heap := h1, toks := tk1 } v l[i] L1 _ _ hL1 rv1 (fun elts x1 pos T => it.own γ' (i + 1) _ T elts x1 pos _ _ iv1 main) main) ?_
  refine tg.asg γ' { s' with heap := h1, toks := tk1 } v l[i] L1 _ _ hL1 v1 rv1 fun h2 tk2 v2 vw2 hk2 => ?_
  dsimp only at hk2 ⊢
  have loc2 : ∃ m, h2.Ns C m := tg.loc _ _ v1 v2 (let ⟨m, n⟩ := ci.loc; ⟨m, n.at' fun o e => hk1 _ o hCI e⟩) hk2
  have nt2 := (tg.there _ v1).2
  have R2 : HRel D γ' H' h2 := R1.but hk2 ci.znin hzB nt2 (.inr (.inr (R0.frs.ne F.z0)))
  have t2 : ∀ a ws, TupAt s'.heap a ws → TupAt h2 a ws := fun a ws q => tupAt_but hk2 nt2 (tupAt_but hk1 nt1 q)
  have stp2 : Stp [] γ γ' s { s' with heap := h2, toks := tk2 } := ((ci.stp.change (tk := tk1) hk1 F.i0).change (tk := tk2) hk2 F.z0)
  have lrs : LRel D γ' env c.slots h2 L := lr.stp R0 stp2
  have l2 := tg.mkL γ' h2 l[i] L1 hL1 loc2 vw2 lrs ci.cnin ci.znin
  have iv2 : Inv γ' (i + 1) h2 := it.frame γ' γ' (i + 1) h1 h2 iv1 ⟨[], by simp⟩ (fun b hb o e => hk2 b o (fun q => F.zf (q ▸ hb)) e) (fun a ws q => tupAt_but hk2 nt2 q)
  have fp2 : ∀ b ∈ fp, b ∉ γ' ∧ ∃ o, h2.get? b = some o := fun b hb => by
   refine ⟨(ci.fps b hb).1, ?_⟩
   obtain ⟨o, e⟩ := (ci.fps b hb).2
   by_cases hbI : b = I
   ·subst hbI; obtain ⟨o', e'⟩ := hI1; exact ⟨o', hk2 _ _ (Ne.symm hzI) e'⟩
   ·exact ⟨o, hk2 _ _ (fun q => F.zf (q ▸ hb)) (hk1 _ _ hbI e)⟩
  refine e2_2 (ci.out) fun ys ny hy ry => ?_
  have hy2 : h2.get? Dd = some { cls := .type "list", data := .seq ys.toArray ny } := hk2 _ _ F.dz (hk1 _ _ hDI hy)
  have ry2 : Reps D γ' h2 ys acc := Reps.mono ⟨[], by simp⟩ t2 ry
  have fr2 : ∀ b ∈ fp, ∀ o, h2.get? b = some o → NotD o := fun b hb o e => it.nd γ' (i + 1) h2 iv2 b hb o e
  clear v1 nt2 R1 hk2 vw2 lrs t2 nt1 hk1 rv1 iv1 hI1
  obtain ⟨s3, hs3⟩ : ∃ s3 : Shared, s3 = { s' with heap := h2, toks := tk2 } := ⟨_, rfl⟩
  rw [← hs3] at stp2 ⊢
  have hh : h2 = s3.heap := by rw [hs3]
  clear hs3
  subst hh
  refine wpAny_mono ((ihe elt ielt hce).1 cenv A γ' H' s3 _ _ noX hE' hA R2 l2 cg) (fun y s4 p => ?_) (fun _ _ p => p.no.elim)
  refine e3_4 p fun γ4 Y H4 st4 R4 ryv q4 => ?_
  have stp4 : Stp [] γ γ4 s s4 := stp2.trans0 R2 st4
  have dn4 : Dd ∉ γ4 := notin_ext st4 ci.dnin hy2
  have cn4 : C ∉ γ4 := by obtain ⟨m, o, es, ep, e, _⟩ := id loc2; exact notin_ext st4 ci.cnin e
  have zn4 : z ∉ γ4 := by obtain ⟨o, e⟩ := (tg.there _ v2).1; exact notin_ext st4 ci.znin e
  have t4 : ∀ a ws, TupAt s3.heap a ws → TupAt s4.heap a ws := fun a ws q => q.stp R2 st4 (fun _ h => nomatch h)
  have ext4 : ∃ δ, γ4 = γ' ++ δ := let ⟨δ, e, _⟩ := st4.ext; ⟨δ, e⟩
  have hy4 : s4.heap.get? Dd = some { cls := .type "list", data := .seq ys.toArray ny } := st4.keep _ _ ci.dnin (fun h => nomatch h) (notD_seq rfl) hy2
  have ry4 : Reps D γ4 s4.heap ys acc := Reps.mono ext4 t4 ry2
  have hyl := ry4.length
  refine wpAny_list_append_plain (items := ys.toArray) ⟨ny, hy4⟩ (fun h5 hp5 hs5 => ?_) (by rw [sizeLine_eq]; show ys.length ≤ _; lia)
  have hk5 : ∀ b o, b ≠ Dd → s4.heap.get? b = some o → h5.get? b = some o := fun b o hb e => hs5.extBut b o hb e
  have nt5 := notTup_list hy4
  have t5 : ∀ a ws, TupAt s4.heap a ws → TupAt h5 a ws := fun a ws q => tupAt_but hk5 nt5 q
  obtain ⟨n5, e5⟩ := hp5
  have em : ys.toArray.push y = (ys ++ [y]).toArray := by simp
  rw [em] at e5
  refine ⟨l.length - (i + 1), by lia, i + 1, acc ++ [Y], γ4, H4, rfl, hlt, by rw [List.length_append, List.length_singleton]; lia, ?_, q4.2⟩
  refine ⟨stp4.change (tk := s4.toks) hk5 F.d0, R4.but hk5 dn4 hDB nt5 (.inr (.inr (R0.frs.ne F.d0))), ⟨ys ++ [y], n5, e5, Reps.mono ⟨[], by simp⟩ t5 (ry4.append (Reps.one ryv))⟩, dn4, ?_, cn4, tg.mv _ _ (Up.then (fun o e => st4.keepS _ o ci.znin (fun h => nomatch h) e) fun o e => hk5 _ o (Ne.symm F.dz) e) v2, zn4, ?_, q4.1, ?_⟩
  ·obtain ⟨m, n⟩ := loc2
   exact ⟨m, (st4.ns ci.cnin (fun h => nomatch h) n).at' fun o e => hk5 _ o (Ne.symm F.dc) e⟩
  ·exact it.frame γ' γ4 (i + 1) s3.heap h5 iv2 ext4 (fun b hb o e => hk5 b o (fun q => F.df (q ▸ hb)) (st4.keep b o (fp2 b hb).1 (fun h => nomatch h) (fr2 b hb o e) e)) (fun a ws q => t5 a ws (t4 a ws q))
  ·intro b hb
   obtain ⟨a, o, e⟩ := fp2 b hb
   exact ⟨notin_ext st4 a e, o, hk5 b o (fun q => F.df (q ▸ hb)) (st4.keep b o a (fun h => nomatch h) (fr2 b hb o e) e)⟩
 ·have hin : i = l.length := by lia
  subst hin
  rw [List.drop_length] at cg
  exact it.done γ' H' s' _ _ ci.rel ci.stb ci.inv fun h1 tk1 hk1 => fin γ' H' s' acc ci cg h1 tk1 hk1
end
end Mine
namespace Mine
open PySem PyProof.Rows
section
variable {D : Wd} {Φ : Orc} {k : Nat} {c : CC}
theorem set_get {L : Lc} {n : Nat} {y v : V} (h : (L.set n (some y))[n]? = some (some v)) : v = y := by
 by_cases hn : n < L.length
 ·rw [List.getElem?_set_self hn] at h
  exact (Option.some.inj (Option.some.inj h)).symm
 ·rw [List.getElem?_eq_none_iff.mpr (by rw [List.length_set]; exact Nat.le_of_not_lt hn)] at h; exact no_some h
theorem HRel.adoptList {γ : List Addr} {H : Hp} {vs : List Value} {l : List V} {h : Heap} {a : Addr} {n : Nat} (R : HRel D γ H h) (r : Reps D γ h vs l) (hz : l.length ≤ 2000000)
  (hn : a ∉ γ) (hB : D.hB.get? a = none) (hf : ∀ e ∈ D.fr, e.frame ≠ some a) (ha : h.get? a = some { cls := .type "list", data := .seq vs.toArray n }) : HRel D (γ ++ [a]) (H ++ [.list l]) h :=
 R.adopt hn hB hf ⟨vs, n, ha, Reps.mono ⟨_, rfl⟩ (fun _ _ x => x) r, by rw [r.length]; exact hz⟩
theorem PostV.adopt {γ γ' : List Addr} {H H' : Hp} {s s' : Shared} {Q : V → Hp → Prop} {vs : List Value} {l : List V} {h' : Heap} {a : Addr} {n tk : Nat} (R0 : HRel D γ H s.heap) (st : Stp [] γ γ' s { s' with heap := h', toks := tk }) (R : HRel D γ' H' h') (r : Reps D γ' h' vs l) (hz : l.length ≤ 2000000)
  (hn : a ∉ γ') (h0 : s.heap.get? a = none) (hB : D.hB.get? a = none) (ha : h'.get? a = some { cls := .type "list", data := .seq vs.toArray n }) (h : Q (.ref H'.length) (H' ++ [.list l])) :
  PostV D γ s Q (.ref a) { s' with heap := h', toks := tk } := by
 refine ⟨γ' ++ [a], .ref H'.length, H' ++ [.list l], ⟨st.same, st.keepS, ?_⟩, R.adoptList r hz hn hB (R0.frs.ne h0) ha, ?_, h⟩
 ·refine e1_2 (st.ext) fun δ e f => ?_
  refine ⟨δ ++ [a], by rw [e]; simp, fun b hb => ?_⟩
  rcases List.mem_append.mp hb with q | q
  ·exact f b q
  ·simp at q; subst q; exact h0
 ·exact Exists.intro _ ⟨by rw [List.getElem?_append_right (by rw [R.len]; exact Nat.le_refl _)]; simp [R.len], rfl⟩
structure CompOk (c : CC) (scope : Scope) (x : Str) : Prop where
 kind : scope.kind = .function
 locs : ∀ y ∈ scope.names, y.2 = .local → scope.names.lookup y.1 = some .local
 frees : ∀ y ∈ scope.names, y.2 = .free → c.scope.names.lookup y.1 = some .cell
 var : (scope.names.lookup x = some .local ∧ scope.names.filter isCell = []) ∨ (scope.names.lookup x = some .cell ∧ scope.names.filter isCell = [(x, .cell)])
 own : ∀ y, (y, NameKind.local) ∈ scope.names → y = x ∨ c.slots.lookup y = none
 low : ∀ y i, c.slots.lookup y = some i → i < c.nxt
noncomputable abbrev inner (c : CC) (scope : Scope) (x : Str) : CC := innerC c scope x
theorem relabel_eq {scope : Scope} {env : Env} (he : EnvOk c env) : relabel scope env = relab scope c.scope := by
 rw [← he.scope]; rfl
theorem env_inner {scope : Scope} {x : Str} {env : Env} (he : EnvOk c env) (ok : CompOk c scope x) (cl : List (Str × Addr)) (C : Addr) : EnvOk (inner c scope x) (compEnvC scope cl C env) :=
 ⟨relabel_eq he, ok.kind, he.globals, he.builtins⟩
theorem lrel_inner {scope : Scope} {x : Str} {env : Env} {L : Lc} {C z : Addr} {n : Nat} (he : EnvOk c env) (ok : CompOk c scope x) :
  ∀ γ' h W v, (∃ m, h.Ns C m) → VOk (compEnvC scope (cellsFrom n scope.names (closGo env scope.names [])) C env) x z h (· = some v) → Rep D γ' h v W → LRel D γ' env c.slots h L → C ∉ γ' → z ∉ γ' → LRel D γ' (compEnvC scope (cellsFrom n scope.names (closGo env scope.names [])) C env) (inner c scope x).slots h (L.set c.nxt (some W)) := by
 intro γ' h W v hn hv rv lr hC hz
 have hrl : ∀ y, (compEnvC scope (cellsFrom n scope.names (closGo env scope.names [])) C env).kindOf y = (relab scope c.scope).names.lookup y := fun y => by
  show (relabel scope env).names.lookup y = _
  rw [relabel_eq he]
 have slot : ∀ {y : Str} {i : Nat} {V : V}, y = x → (inner c scope x).slots.lookup y = some i → (L.set c.nxt (some W))[i]? = some (some V) → V = W := fun {y i V} e hs hL => by
  have hs' : ((x, c.nxt) :: c.slots).lookup y = some i := hs
  rw [List.lookup_cons, beq_iff_eq.mpr e] at hs'
  obtain rfl := Option.some.inj hs'
  exact set_get hL
 have slotN : ∀ {y : Str} {i : Nat}, y ≠ x → (inner c scope x).slots.lookup y = some i → c.slots.lookup y = some i := fun {y i} e hs => by
  have hs' : ((x, c.nxt) :: c.slots).lookup y = some i := hs
  rw [List.lookup_cons, beq_eq_false_iff_ne.mpr e] at hs'
  exact hs'
 have own : ∀ (m : Str → Option Value), h.Ns C m → ((relab scope c.scope).names.lookup x = some .local → m x = some v) → LRel D γ' (compEnvC scope (cellsFrom n scope.names (closGo env scope.names [])) C env) (inner c scope x).slots h (L.set c.nxt (some W)) := fun m hm hx => by
  refine ⟨⟨m, hm, fun y i V hy hs hL => ?_⟩, fun y hy => ?_, hC, lr.tp⟩
  ·rw [hrl] at hy
   by_cases hxy : y = x
   ·obtain rfl := slot hxy hs hL
    rw [hxy] at hy ⊢
    exact ⟨v, hx hy, rv⟩
   ·rcases ok.own y (relab_local hy) with q | q
    ·exact absurd q hxy
    ·rw [slotN hxy hs] at q; exact no_some q.symm
  ·rw [hrl] at hy
   by_cases hxy : y = x
   ·subst hxy
    rcases hv with ⟨a, _⟩ | ⟨_, b, u, hu, rfl⟩
    ·rw [hrl, hy] at a; cases a
    ·exact ⟨z, some v, b, hu, hz, fun i V hs hL => ⟨v, rfl, slot rfl hs hL ▸ rv⟩⟩
   ·have nc : (y, NameKind.cell) ∉ scope.names := fun hm => by
     have hm' : (y, NameKind.cell) ∈ scope.names.filter isCell := List.mem_filter.mpr ⟨hm, rfl⟩
     rcases ok.var with ⟨_, q⟩ | ⟨_, q⟩
     ·rw [q] at hm'; exact nomatch hm'
     ·rw [q] at hm'; exact hxy (congrArg Prod.fst (List.mem_singleton.mp hm'))
    obtain ⟨hf, ho⟩ := (relab_cell hy).resolve_left nc
    have hk : env.kindOf y = some .cell := by unfold Env.kindOf; rw [he.scope]; exact ho
    refine e2_4 (lr.cel y hk) fun ca u e1 e2 e3 e4 => ?_
    have hcl : (cellsFrom n scope.names (closGo env scope.names [])).lookup y = some ca := by
     rcases ok.var with ⟨_, q⟩ | ⟨_, q⟩
     ·rw [(cells_none (h := h) q).1]; exact closGo_lookup hf e1
     ·rw [(cells_one (h := h) q).1, List.lookup_cons, beq_eq_false_iff_ne.mpr hxy]; exact closGo_lookup hf e1
    refine ⟨ca, u, hcl, e2, e3, fun i V hs hL => ?_⟩
    have hs' := slotN hxy hs
    have hlt := ok.low y i hs'
    rw [List.getElem?_set_ne (by lia)] at hL
    exact e4 i V hs' hL
 rcases id hv with ⟨a, b, m, hm, hmx⟩ | ⟨a, _, _⟩
 ·exact own m ((show z = C from b) ▸ hm) fun _ => hmx
 ·obtain ⟨m, hm⟩ := hn
  exact own m hm fun q => by rw [hrl, q] at a; cases a
theorem comp_env {M : Model} {A : Around} {E : Value → Shared → Prop} {s : Shared} {scope : Scope} {env : Env} {cl : List (Str × Addr)} {Q : Env → Shared → Prop}
  (h : Q { scope := scope, locals := s.heap.objs.size, globals := env.globals, cells := cellsFrom (s.heap.objs.size + 1) scope.names cl, qual := env.qual, func := none, code := env.code, frame := env.frame, builtins := env.builtins } { s with heap := pushCells (s.heap.push { cls := .type "dict", data := .dict #[] }) scope.names }) :
  wpAny M A (newFunctionEnv scope env.globals cl [] env.qual none .none (some env)) Q E s := by
 simp only [newFunctionEnv, Option.isSome_some, if_true]
 refine wpAny_bind (wpAny_alloc (wpAny_bind (wpAny_layCells _ (fun name kind cells => by cases kind == NameKind.cell <;> simp) _ _ _ _ ?_)))
 rw [show ({ s with heap := s.heap.push { cls := .type "dict", data := .dict #[] } } : Shared).heap.objs.size = s.heap.objs.size + 1 from Heap.size_push ..]
 rw [List.forIn_nil]
 exact wpAny_bind (wpAny_pure (wpAny_pure h))
theorem tg_name {k : Nat} {A : Around} {scope : Scope} {x : Str} {px : Pos} {env : Env} {L : Lc} {C z : Addr} {n : Nat} (he : EnvOk c env) (ok : CompOk c scope x) :
  TgAt D A env (compEnvC scope (cellsFrom n scope.names (closGo env scope.names [])) C env) c.slots (inner c scope x).slots (.Name x px) L (bd1 c.nxt L) C z
   (fun h => VOk (compEnvC scope (cellsFrom n scope.names (closGo env scope.names [])) C env) x z h (fun _ => True)) (fun γ W h => ∃ v, VOk (compEnvC scope (cellsFrom n scope.names (closGo env scope.names [])) C env) x z h (· = some v) ∧ Rep D γ h v W) where
 mv := fun _ _ hk v => v.at hk
 there := fun _ v => v.there
 loc := fun _ _ v v' hn hs => v.loc v' hn hs
 asg := fun γ s v W L1 Q E _ hv rv q => wpAny_assign_Name (store_var (by show (relabel scope env).kind = _; rw [relabel_eq he]; exact ok.kind) hv fun h2 tk2 v2 hk2 => q h2 tk2 v2.any ⟨v, v2, Rep.mono ⟨[], by simp⟩ (fun _ _ q => tupAt_but hk2 hv.there.2 q) rv⟩ hk2)
 mkL := fun γ h W L1 hb hn hv lr hC hz => by
  obtain rfl := Option.some.inj hb
  refine e1_2 hv fun v hv rv => ?_
  exact lrel_inner he ok γ h W v hn hv rv lr hC hz
 go := fun _ _ _ _ _ _ _ _ _ _ _ q => wpAny_pure q
structure CompOk2 (c : CC) (scope : Scope) (x y : Str) : Prop where
 kind : scope.kind = .function
 locs : ∀ y ∈ scope.names, y.2 = .local → scope.names.lookup y.1 = some .local
 frees : ∀ y ∈ scope.names, y.2 = .free → c.scope.names.lookup y.1 = some .cell
 vx : scope.names.lookup x = some .local
 vy : scope.names.lookup y = some .local
 ne : x ≠ y
 nocell : scope.names.filter isCell = []
 own : ∀ w, (w, NameKind.local) ∈ scope.names → w = x ∨ w = y ∨ c.slots.lookup w = none
 low : ∀ y i, c.slots.lookup y = some i → i < c.nxt
theorem bd2_some {j : Nat} {L L1 : Lc} {W : V} (h : bd2 j L W = some L1) : ∃ a b, W = .tup [a, b] ∧ L1 = (L.set j (some a)).set (j + 1) (some b) := by
 refine e1_2 (Option.map_eq_some_iff.mp h) fun p hp e_146 => ?_
 obtain rfl := e_146
 refine e1_2 (Option.bind_eq_some_iff.mp hp) fun l hl h2 => ?_
 rw [tupV_some hl]
 cases l with
 | nil => exact no_some h2
 | cons a r => cases r with
  | nil => exact no_some h2
  | cons b r => cases r with
   | nil => rw [← Option.some.inj h2]; exact ⟨a, b, rfl, rfl⟩
   | cons _ _ => exact no_some h2
theorem lrel_inner2 {scope : Scope} {x y : Str} {env : Env} {L : Lc} {C : Addr} {n : Nat} {γ : List Addr} {h : Heap} {a b : V} {va vb : Value} {m : Str → Option Value} (he : EnvOk c env) (ok : CompOk2 c scope x y) (hm : h.Ns C m) (hx : m x = some va) (hy : m y = some vb) (ra : Rep D γ h va a) (rb : Rep D γ h vb b)
  (lr : LRel D γ env c.slots h L) (hC : C ∉ γ) : LRel D γ (compEnvC scope (cellsFrom n scope.names (closGo env scope.names [])) C env) (innerC2 c scope x y).slots h ((L.set c.nxt (some a)).set (c.nxt + 1) (some b)) := by
 have hrl : ∀ y, (compEnvC scope (cellsFrom n scope.names (closGo env scope.names [])) C env).kindOf y = (relab scope c.scope).names.lookup y := fun y => by
  show (relabel scope env).names.lookup y = _
  rw [relabel_eq he]
 have old : ∀ {w : Str} {i : Nat}, w ≠ x → w ≠ y → (innerC2 c scope x y).slots.lookup w = some i → c.slots.lookup w = some i := fun {w i} e1 e2 hs => by
  have hs' : ((x, c.nxt) :: (y, c.nxt + 1) :: c.slots).lookup w = some i := hs
  rw [List.lookup_cons, beq_eq_false_iff_ne.mpr e1] at hs'
  have hs' : ((y, c.nxt + 1) :: c.slots).lookup w = some i := hs'
  rw [List.lookup_cons, beq_eq_false_iff_ne.mpr e2] at hs'
  exact hs'
 refine ⟨⟨m, hm, fun w i V hw hs hL => ?_⟩, fun w hw => ?_, hC, lr.tp⟩
 ·rw [hrl] at hw
  by_cases hwx : w = x
  ·subst hwx
   have hs' : ((w, c.nxt) :: (y, c.nxt + 1) :: c.slots).lookup w = some i := hs
   rw [List.lookup_cons, beq_self_eq_true] at hs'
   obtain rfl := Option.some.inj hs'
   rw [List.getElem?_set_ne (Nat.succ_ne_self _)] at hL
   obtain rfl := set_get hL
   exact ⟨va, hx, ra⟩
  ·by_cases hwy : w = y
   ·subst hwy
    have hs' : ((x, c.nxt) :: (w, c.nxt + 1) :: c.slots).lookup w = some i := hs
    rw [List.lookup_cons, beq_eq_false_iff_ne.mpr hwx] at hs'
    have hs' : ((w, c.nxt + 1) :: c.slots).lookup w = some i := hs'
    rw [List.lookup_cons, beq_self_eq_true] at hs'
    obtain rfl := Option.some.inj hs'
    obtain rfl := set_get hL
    exact ⟨vb, hy, rb⟩
   ·rcases ok.own w (relab_local hw) with q | q | q
    ·exact absurd q hwx
    ·exact absurd q hwy
    ·rw [old hwx hwy hs] at q; exact no_some q.symm
 ·rw [hrl] at hw
  have nc : (w, NameKind.cell) ∉ scope.names := fun hm => by
   have hm' : (w, NameKind.cell) ∈ scope.names.filter isCell := List.mem_filter.mpr ⟨hm, rfl⟩
   rw [ok.nocell] at hm'; exact nomatch hm'
  have hloc : ∀ {z}, scope.names.lookup z = some .local → w ≠ z := fun hz e => by
   rw [e, relab_at (by decide) hz] at hw; cases hw
  obtain ⟨hf, ho⟩ := (relab_cell hw).resolve_left nc
  have hk : env.kindOf w = some .cell := by unfold Env.kindOf; rw [he.scope]; exact ho
  refine e2_4 (lr.cel w hk) fun ca u e1 e2 e3 e4 => ?_
  refine ⟨ca, u, ?_, e2, e3, fun i V hs hL => ?_⟩
  ·show (cellsFrom n scope.names (closGo env scope.names [])).lookup w = _
   rw [(cells_none (h := h) ok.nocell).1]; exact closGo_lookup hf e1
  ·have hs' := old (hloc ok.vx) (hloc ok.vy) hs
   have hlt := ok.low w i hs'
   rw [List.getElem?_set_ne (by lia), List.getElem?_set_ne (by lia)] at hL
   exact e4 i V hs' hL
theorem tg_pair {k : Nat} {A : Around} {scope : Scope} {x y : Str} {px py tp : Pos} {kk : Nat} {env : Env} {L : Lc} {C : Addr} {n : Nat} (hA : AOk D k A) (he : EnvOk c env) (ok : CompOk2 c scope x y) :
  TgAt D A env (compEnvC scope (cellsFrom n scope.names (closGo env scope.names [])) C env) c.slots (innerC2 c scope x y).slots (.Tuple [.Name x px, .Name y py] kk tp) L (bd2 c.nxt L) C C
   (fun h => ∃ m, h.Ns C m) (fun γ W h => ∃ m a b va vb, W = .tup [a, b] ∧ h.Ns C m ∧ m x = some va ∧ m y = some vb ∧ Rep D γ h va a ∧ Rep D γ h vb b) where
 mv := fun _ _ hk ⟨m, hm⟩ => ⟨m, hk.ns hm⟩
 there := fun _ ⟨m, hm⟩ => ⟨let ⟨o, _, _, e, _⟩ := hm; ⟨o, e⟩, notTup_dict hm⟩
 loc := fun _ _ _ v' _ _ => v'
 asg := fun γ s v W L1 Q E hb ⟨m, hm⟩ rv q => by
  refine e2_2 (bd2_some hb) fun a b e_147 e_148 => ?_
  obtain rfl := e_147
  obtain rfl := e_148
  obtain ⟨T, vs, rfl, ta, va, r, rfl, ra, vb, r', rfl, rb, rfl⟩ := rv
  have hk2 : (relabel scope env).kind = .function := by rw [relabel_eq he]; exact ok.kind
  have kd : ∀ {z}, scope.names.lookup z = some .local → (compEnvC scope (cellsFrom n scope.names (closGo env scope.names [])) C env).kindOf z = some .local := fun q => by
   show (relabel scope env).names.lookup _ = _
   rw [relabel_eq he]; exact relab_at (by decide) q
  refine W.kcp_assign hA.handled ta.isTuple (kd ok.vx) (kd ok.vy) (by show ((relabel scope env).kind == .class || ((relabel scope env).kind == .module && _)) = false; rw [hk2]; rfl) hm fun h' tk hn hk => ?_
  have mono : ∀ {v V}, Rep D γ s.heap v V → Rep D γ h' v V := fun r => Rep.mono ⟨[], by simp⟩ (fun _ _ q => tupAt_but hk (notTup_dict hm) q) r
  exact q h' tk ⟨_, hn⟩ ⟨_, a, b, va, vb, rfl, hn, by rw [if_neg ok.ne, if_pos rfl], if_pos rfl, mono ra, mono rb⟩ hk
 mkL := fun γ h W L1 hb _ hv lr hC _ => by
  obtain ⟨m, a, b, va, vb, rfl, hm, hx, hy, ra, rb⟩ := hv
  refine e2_2 (bd2_some hb) fun a' b' e e_154 => ?_
  obtain rfl := e_154
  cases e
  exact lrel_inner2 he ok hm hx hy ra rb lr hC
 go := fun γ I s v W L1 Q E hb rv hown q => by
  refine e2_2 (bd2_some hb) fun a b e_155 e_156 => ?_
  obtain rfl := e_155
  obtain rfl := e_156
  refine e2_2 rv fun T vs e_157 _ => ?_
  obtain rfl := e_157
  exact hown _ _ _ _
structure CompG (D : Wd) (k : Nat) (c : CC) (scope : Scope) (tgt : Expr) (c' : CC) (bdf : Lc → V → Option Lc) : Prop where
 kind : scope.kind = .function
 locs : ∀ y ∈ scope.names, y.2 = .local → scope.names.lookup y.1 = some .local
 frees : ∀ y ∈ scope.names, y.2 = .free → c.scope.names.lookup y.1 = some .cell
 gok : GOk D c.G c.mts → GOk D c'.G c'.mts
 env : ∀ env, EnvOk c env → ∀ cl C, EnvOk c' (compEnvC scope cl C env)
 tg : ∀ env A L, EnvOk c env → AOk D k A → ∀ G2 : Heap, (pushCells (G2.push { cls := .type "dict", data := .dict #[] }) scope.names).Ns G2.objs.size (fun _ => none) → ∃ z var vw, TgAt D A env (compEnvC scope (cellsFrom (G2.objs.size + 1) scope.names (closGo env scope.names [])) G2.objs.size env) c.slots c'.slots tgt L (bdf L) G2.objs.size z var vw ∧ var (pushCells (G2.push { cls := .type "dict", data := .dict #[] }) scope.names) ∧ G2.objs.size ≤ z
theorem cg_name {scope : Scope} {x : Str} {px : Pos} (ok : CompOk c scope x) : CompG D k c scope (.Name x px) (inner c scope x) (bd1 c.nxt) where
 kind := ok.kind
 locs := ok.locs
 frees := ok.frees
 gok := fun g => g
 env := fun _ hE cl C => env_inner hE ok cl C
 tg := fun env A L hE _ G2 hns₁ => by
  have hrl : ∀ {k}, k ≠ .free → scope.names.lookup x = some k → (compEnvC scope (cellsFrom (G2.objs.size + 1) scope.names (closGo env scope.names [])) G2.objs.size env).kindOf x = some k := fun hk q => by
   show (relabel scope env).names.lookup x = _
   rw [relabel_eq hE]; exact relab_at hk q
  rcases ok.var with ⟨q1, q2⟩ | ⟨q1, q2⟩
  ·exact ⟨G2.objs.size, _, _, tg_name (k := k) hE ok, .inl ⟨hrl (by decide) q1, rfl, _, hns₁, trivial⟩, Nat.le_refl _⟩
  ·refine ⟨G2.objs.size + 1, _, _, tg_name (k := k) hE ok, .inr ⟨hrl (by decide) q1, ?_, none, ⟨{ cls := .type "cell", data := .cell none }, ?_, rfl⟩, trivial⟩, Nat.le_succ _⟩
   ·show (cellsFrom (G2.objs.size + 1) scope.names (closGo env scope.names [])).lookup x = _
    rw [(cells_one (h := G2) q2).1, List.lookup_cons, beq_self_eq_true]
   ·rw [(cells_one (n := 0) (acc := []) q2).2]
    have := Heap.get?_push_size (G2.push { cls := .type "dict", data := .dict #[] }) (o := { cls := .type "cell", data := .cell none }) rfl
    rw [Heap.size_push] at this
    exact this
theorem cg_pair {scope : Scope} {x y : Str} {px py tp : Pos} {kt : Nat} (ok : CompOk2 c scope x y) : CompG D k c scope (.Tuple [.Name x px, .Name y py] kt tp) (innerC2 c scope x y) (bd2 c.nxt) where
 kind := ok.kind
 locs := ok.locs
 frees := ok.frees
 gok := fun g => g
 env := fun _ hE cl C => ⟨relabel_eq hE, ok.kind, hE.globals, hE.builtins⟩
 tg := fun env A L hE hA G2 hns₁ => ⟨_, _, _, tg_pair hA hE ok, ⟨_, hns₁⟩, Nat.le_refl _⟩
noncomputable def compW (Φ : Orc) (ss : IE) (kk : SrcK) (ielt : IE) (bdf : Lc → V → Option Lc) : ET := .of fun L H Q X => (wp2 Φ ss).E L H (fun v H1 => pSrc kk v H1 fun items st => compGoB (fun L' H' K => (wp2 Φ ielt).E L' H' K noX) st (bdf L) items [] H1 (fun ys H2 => ys.length ≤ 1000000 ∧ Q (.ref H2.length) (H2 ++ [.list ys]))) X
theorem comp_run {n : Nat} {elt iter tgt : Expr} {pos cp : Pos} {c' : CC} {bdf : Lc → V → Option Lc} {scope : Scope} {ielt : IE} {kk : SrcK} {ss : IE} {env : Env} {A : Around} {X : XL} {L : Lc} {γ : List Addr} {H : Hp} {s : Shared}
  {Kf : List V → Hp → Prop} {use : Option (Value → Sem Unit)} {Qf : Value → Shared → Prop} (g : GOk D c.G c.mts) (ih : ∀ c e ie, GOk D c.G c.mts → compE n c e = some ie → Both D Φ k c e ie) (cg : CompG D k c scope tgt c' bdf)
  (hsrc : compSrc (compE n c) c iter = some (kk, ss)) (hce : compE n c' elt = some ielt) (hE : EnvOk c env) (hA : AOk D k A) (R : HRel D γ H s.heap)
  (lr : LRel D γ env c.slots s.heap L) (hset : ∀ x, foldedSetIterable iter env x = pure x)
  (w : (wp2 Φ ss).E L H (fun v H1 => pSrc kk v H1 fun items st => compGoB (fun L' H' K => (wp2 Φ ielt).E L' H' K noX) st (bdf L) items [] H1 Kf) X)
  (fin : ∀ γ' H' s' Dd C acc, Stp [] γ γ' s s' → HRel D γ' H' s'.heap → (∃ ys n, s'.heap.get? Dd = some { cls := .type "list", data := .seq ys.toArray n } ∧ Reps D γ' s'.heap ys acc) → Dd ∉ γ' → s.heap.get? Dd = none → (∃ m, s'.heap.Ns C m) → C ∉ γ' → s.heap.get? C = none → Dd ≠ C → Kf acc H' →
   compPost D.M A (PostX D γ s X) use Qf (.ref Dd) C (.ok .next) s') :
  wpAny D.M A (comprehension (.ListComp elt [⟨tgt, iter, [], 0⟩] scope pos) scope env cp (newList []) false (eval iter env) use) Qf (PostX D γ s X) s := by
 have hclos : closureFor scope env = pure (closGo env scope.names []) := closureFor_go fun y hy hf => by
  have hk : env.kindOf y.1 = some .cell := by unfold Env.kindOf; rw [hE.scope]; exact cg.frees y hy hf
  refine e2_2 (lr.cel y.1 hk) fun ca u e1 _ => ?_
  exact ⟨ca, e1⟩
 refine wpAny_comprehension_free (use := use) rfl hset hclos cg.kind cg.locs (wpAny_mono (src_ok (K := fun l st H1 => compGoB (fun L' H' K => (wp2 Φ ielt).E L' H' K noX) st (bdf L) l [] H1 Kf) g (fun e ie h => (ih c e ie g h).1) hsrc hE hA R lr w)
  (fun xv s1 h1 => wpAny_mono h1 (fun it s2 h2 => ?_) fun _ _ e => e) fun _ _ e => e)
 refine e7_10 h2 fun γ2 H2 I fp l st Inv e_158 stp2 R2 itr iv fps hI0 hst hlen cgo => ?_
 obtain rfl := e_158
 refine wpAny_newObj_type (hd := by size_fits) (comp_env ?_)
 dsimp only
 generalize hH2 : s2.heap.push { cls := .type "list", dict := none, data := .seq ([] : List Value).toArray } = G2
 have hC : G2.objs.size = s2.heap.objs.size + 1 := by rw [← hH2, Heap.size_push]
 have hDC : s2.heap.objs.size ≠ G2.objs.size := by rw [hC]; exact Nat.ne_of_lt (Nat.lt_succ_self _)
 have fresh : ∀ a, s2.heap.objs.size ≤ a → s2.heap.get? a = none := fun a ha => by
  cases e : s2.heap.get? a with
  | none => rfl
  | some o' => exact absurd (Heap.lt_size e) (Nat.not_lt.mpr ha)
 have fresh0 : ∀ a, s2.heap.objs.size ≤ a → s.heap.get? a = none := fun a ha => none_back stp2 R2 (fresh a ha)
 have nin2 : ∀ a, s2.heap.objs.size ≤ a → a ∉ γ2 := fun a ha => (R2.nin (fresh a ha)).1
 have keep1 : ∀ b o, G2.get? b = some o → (pushCells (G2.push { cls := .type "dict", data := .dict #[] }) scope.names).get? b = some o := fun b o e => pushCells_keeps _ _ b o (Heap.get?_push_of_some _ e)
 have hns₁ : (pushCells (G2.push { cls := .type "dict", data := .dict #[] }) scope.names).Ns G2.objs.size fun _ => none := (Heap.Ns.new G2 (.type "dict")).keeps (pushCells_keeps _ _)
 refine e3_3 (cg.tg env A L hE hA G2 hns₁) fun z var vw tg hvar hz => ?_
 have hz : s2.heap.objs.size < z := by rw [hC] at hz; exact hz
 generalize hh1 : pushCells (G2.push { cls := .type "dict", data := .dict #[] }) scope.names = h₁ at keep1 hns₁ hvar ⊢
 have old : ∀ b o, s2.heap.get? b = some o → h₁.get? b = some o := fun b o e => keep1 b o (hH2 ▸ Heap.get?_push_of_some _ e)
 have hacc : h₁.get? s2.heap.objs.size = some { cls := .type "list", data := .seq ([] : List Value).toArray } := keep1 _ _ (hH2 ▸ Heap.get?_push_size _ rfl)
 have F : CFix D s s2.heap.objs.size G2.objs.size I z fp := by
  refine ⟨fresh0 _ (Nat.le_refl _), fresh0 _ (by rw [hC]; exact Nat.le_succ _), hI0, hDC, fun hm => ?_, fun hm => ?_, fresh0 _ (Nat.le_of_lt hz), Nat.ne_of_lt hz, fun hm => ?_⟩
  ·obtain ⟨_, ⟨o, e⟩, _⟩ := fps _ hm; exact absurd (Heap.lt_size e) (Nat.lt_irrefl _)
  ·obtain ⟨_, ⟨o, e⟩, _⟩ := fps _ hm; exact absurd (Heap.lt_size e) (by rw [hC]; exact Nat.not_lt.mpr (Nat.le_succ _))
  ·obtain ⟨_, ⟨o, e⟩, _⟩ := fps _ hm; exact absurd (Heap.lt_size e) (Nat.not_lt.mpr (Nat.le_of_lt hz))
 have loop : ∀ s3 : Shared, s3 = { s2 with heap := h₁ } →
   codeAny D.M A (.compLoop (.ListComp elt [⟨tgt, iter, [], 0⟩] scope pos) 0 (.ref I) (.ref s2.heap.objs.size) (compEnvC scope (cellsFrom (G2.objs.size + 1) scope.names (closGo env scope.names [])) G2.objs.size env))
    (compPost D.M A (PostX D γ s X) use Qf (.ref s2.heap.objs.size) G2.objs.size) s3 := by
  rintro s3 rfl
  have st3 : Stp [] γ2 γ2 s2 { s2 with heap := h₁ } := stp_grow (tk := s2.toks) old
  refine comp_loop (env := env) (c := c) (c' := c') (st := st) (Inv := Inv) (l := l) (K := Kf) (fp := fp) (L := L) (bd := bdf L) (γ := γ) (H := H) (s := s) (C := G2.objs.size)
   (cg.env env hE _ _) hA R lr (fun e ie h => ih c' e ie (cg.gok g) h) hce F itr tg ?_ 0 [] γ2 H2 _ (Nat.zero_le _) (by simp) hlen ?_ cgo
  ·intro γ' H' s' acc ci hK h' tk hk
   refine e2_2 (ci.out) fun ys ny hy ry => ?_
   have hIg : I ∉ γ' := (ci.fps I itr.mem).1
   have nt := fun ws => itr.notTup γ' l.length s'.heap ws ci.inv
   refine fin γ' H' _ _ _ acc (ci.stp.change (tk := tk) hk F.i0) (ci.rel.but hk hIg (base_none R F.i0) nt (.inr (.inr (R.frs.ne F.i0)))) ⟨ys, ny, hk _ _ (fun q => F.df (q ▸ itr.mem)) hy, Reps.mono ⟨[], by simp⟩ (fun _ _ q => tupAt_but hk nt q) ry⟩ ci.dnin F.d0 ?_ ci.cnin F.c0 hDC hK
   obtain ⟨m, hm⟩ := ci.loc
   exact ⟨m, hm.at' fun o e => hk _ o (fun q => F.cf (q ▸ itr.mem)) e⟩
  ·refine ⟨stp2.trans0 R2 st3, R2.grow old, ⟨[], 0, hacc, (show Reps _ _ _ [] [] from rfl)⟩, nin2 _ (Nat.le_refl _), ⟨_, hns₁⟩, nin2 _ (by rw [hC]; exact Nat.le_succ _), hvar, nin2 _ (Nat.le_of_lt hz), ?_, hst, ?_⟩
   ·exact itr.frame γ2 γ2 0 s2.heap h₁ iv ⟨[], by simp⟩ (fun b hb o e => old b o e) (fun _ _ q => tupAt_grow old q)
   ·intro b hb
    refine e0_3 (fps b hb) fun a e_159 _ => ?_
    obtain ⟨o, e⟩ := e_159
    exact ⟨a, o, old b o e⟩
 have iv1 : Inv γ2 0 h₁ := itr.frame γ2 γ2 0 s2.heap h₁ iv ⟨[], by simp⟩ (fun b hb o e => old b o e) (fun _ _ q => tupAt_grow old q)
 exact codeAny_compStart_list (loop _ rfl) (itr.self γ2 0 _ _ _ iv1 (loop _ rfl))
theorem e_comp {n : Nat} {elt iter tgt : Expr} {pos : Pos} {scope : Scope} {c' : CC} {ielt : IE} {kk : SrcK} {ss ie : IE} {bdf : Lc → V → Option Lc} (g : GOk D c.G c.mts) (ih : ∀ c e ie, GOk D c.G c.mts → compE n c e = some ie → Both D Φ k c e ie) (cg : CompG D k c scope tgt c' bdf)
  (hsrc : compSrc (compE n c) c iter = some (kk, ss)) (hce : compE n c' elt = some ielt) (hset : ∀ env x, foldedSetIterable iter env x = pure x) (hie : wp2 Φ ie = compW Φ ss kk ielt bdf) :
  Both D Φ k c (.ListComp elt [⟨tgt, iter, [], 0⟩] scope pos) ie := by
 refine both_plain (fun env A γ H s L Q X hE hA R lr w => ?_) (by rw [hie]; rfl) (fun _ _ => rfl)
 rw [hie] at w
 rw [eval_ListComp]
 refine comp_run (use := none) (cp := _) g ih cg hsrc hce hE hA R lr (hset env) w ?_
 intro γ' H' s' Dd C acc stp R' ho dn d0 hc cn c0 hdc hK
 obtain ⟨m, hm⟩ := hc
 refine ⟨m, hm, fun h' hs => ?_⟩
 have hk : ∀ b o, b ≠ C → s'.heap.get? b = some o → h'.get? b = some o := fun b o hb e => hs.extBut b o hb e
 have nt := notTup_dict hm
 refine e2_2 ho fun ys ny hy ry => ?_
 have R'' : HRel D γ' H' h' := R'.but hk cn (base_none R c0) nt (.inr (.inr (R.frs.ne c0)))
 have hy' := hk _ _ hdc hy
 have ry' : Reps D γ' h' ys acc := Reps.mono ⟨[], by simp⟩ (fun _ _ q => tupAt_but hk nt q) ry
 exact PostV.adopt (h' := h') (tk := s'.toks) R (stp.change hk c0) R'' ry' (by have := hK.1; lia) dn d0 (base_none R d0) hy' hK.2
end
end Mine
namespace Mine
open PySem PyProof.Rows
section
variable {D : Wd} {Φ : Orc} {k : Nat}
theorem noSetIter {iter : Expr} {n : Nat} {c : CC} {p : SrcK × IE} (h : compSrc (compE n c) c iter = some p) : ∀ env x, foldedSetIterable iter env x = pure x := by
 intro env x
 cases iter <;> first | rfl | (cases n <;> exact no_some h)
theorem opt_part {lo : Option Expr} {il : Option IE} {n : Nat} {c : CC} {env : Env} {A : Around} {γ : List Addr} {H : Hp} {s : Shared} {L : Lc} {Q : V → Hp → Prop} {X : XL} (ih : ∀ e ie, compE n c e = some ie → SE D Φ k c e ie) (h : optE (compE n c) lo = some il)
  (hE : EnvOk c env) (hA : AOk D k A) (R : HRel D γ H s.heap) (lr : LRel D γ env c.slots s.heap L) (w : wpO Φ il L H Q X) : wpAny D.M A (evalPart lo env) (PostV D γ s Q) (PostX D γ s X) s := by
 cases lo with
 | none => obtain rfl := Option.some.inj h; exact wpAny_evalPart_none (PostV.here (V := .none) R (show Rep _ _ _ _ .none from rfl) w)
 | some e =>
  refine e1_2 (Option.map_eq_some_iff.mp h) fun a ha e_160 => ?_
  obtain rfl := e_160
  exact wpAny_evalPart_some (ih _ _ ha env A γ H s L Q X hE hA R lr w)
theorem e_slice {o : Expr} {p pos : Pos} {lo hi : Option Expr} {n : Nat} {c : CC} {io : IE} {il ih' : Option IE} (ih : ∀ e ie, compE n c e = some ie → SE D Φ k c e ie) (ho : compE n c o = some io) (hl : optE (compE n c) lo = some il) (hh : optE (compE n c) hi = some ih') :
  Both D Φ k c (.Subscript o (.Slice lo hi none p) pos) (.slice io il ih') := by
 refine both_plain (fun env A γ H s L Q X hE hA R lr w => ?_) rfl (fun _ _ => rfl)
 refine Subscript_ (andThen (ih _ _ ho env A γ H s L _ X hE hA R lr w) ?_)
 intro vo s1 γ1 Vo H1 st1 R1 ro q1
 refine wpAny_Slice (thenV st1 R1 (opt_part ih hl hE hA R1 (lr.stp R st1) q1) ?_)
 intro vl s2 γ2 Vl H2 st2 R2 rl q2
 have st02 := st1.trans0 R1 st2
 refine thenV st02 R2 (opt_part ih hh hE hA R2 (lr.stp R st02) q2) ?_
 intro vh s3 γ3 Vh H3 st3 R3 rh q3
 rw [evalPart_none]
 refine wpAny_pure ?_
 exact wpAny_mono (slice_ok R3 ((ro.stp0 R1 st2).stp0 R2 st3) (rl.stp0 R2 st3) rh q3) (fun _ _ x => x.back (st02.trans0 R2 st3) R3) (fun _ _ x => x)
theorem okComp_of {scope outer : Scope} (hok : okComp scope outer = true) : scope.kind = .function ∧ (∀ y ∈ scope.names, y.2 = .local → scope.names.lookup y.1 = some .local) ∧ (∀ y ∈ scope.names, y.2 = .free → outer.names.lookup y.1 = some .cell) := by
 unfold okComp at hok
 simp only [Bool.and_eq_true, beq_iff_eq, List.all_eq_true, Bool.or_eq_true, bne_iff_ne, ne_eq] at hok
 exact ⟨hok.1, fun y hy hl => (hok.2 y hy).1.resolve_left fun q => q hl, fun y hy hf => ((hok.2 y hy).2.resolve_left fun q => q hf).2⟩
theorem compOk_of {c : CC} {scope : Scope} {x : Str} {a : Int} (hs : okC c scope x a = true) : a = 0 ∧ CompOk c scope x := by
 unfold okC okVar at hs
 simp only [Bool.and_eq_true, Bool.or_eq_true] at hs
 obtain ⟨⟨⟨⟨ha, hok⟩, hvar⟩, hown⟩, hlow⟩ := hs
 refine e0_3 (okComp_of hok) fun k1 k3 k4 => ?_
 rw [List.all_eq_true] at hown hlow
 refine ⟨eq_of_beq ha, k1, k3, k4, hvar.imp (fun h => ⟨eq_of_beq h.1, List.isEmpty_iff.mp h.2⟩) (fun h => ⟨eq_of_beq h.1, eq_of_beq h.2⟩), fun y hy => ?_, fun y i hl => of_decide_eq_true (hlow (y, i) (mem_of_lookup hl))⟩
 have := hown (y, .local) hy
 simp only [Bool.or_eq_true, bne_iff_ne, ne_eq, beq_iff_eq, Option.isNone_iff_eq_none] at this
 rcases this with (q | q) | q
 ·exact absurd trivial q
 ·exact .inl q
 ·exact .inr q
theorem compOk2_of {c : CC} {scope : Scope} {x y : Str} {a : Int} (hs : okC2 c scope x y a = true) : a = 0 ∧ CompOk2 c scope x y := by
 unfold okC2 at hs
 simp only [Bool.and_eq_true] at hs
 obtain ⟨⟨⟨⟨ha, hok⟩, ⟨⟨⟨hx, hy⟩, hne⟩, hnc⟩⟩, hown⟩, hlow⟩ := hs
 refine e0_3 (okComp_of hok) fun k1 k3 k4 => ?_
 rw [List.all_eq_true] at hown hlow
 refine ⟨eq_of_beq ha, k1, k3, k4, eq_of_beq hx, eq_of_beq hy, fun q => ?_, List.isEmpty_iff.mp hnc, fun w hw => ?_, fun y i hl => of_decide_eq_true (hlow (y, i) (mem_of_lookup hl))⟩
 ·rw [q, beq_self_eq_true] at hne; exact Bool.noConfusion hne
 ·have := hown (w, .local) hw
  simp only [Bool.or_eq_true, bne_iff_ne, ne_eq, beq_iff_eq, Option.isNone_iff_eq_none] at this
  rcases this with ((q | q) | q) | q
  ·exact absurd trivial q
  ·exact .inl q
  ·exact .inr (.inl q)
  ·exact .inr (.inr q)
theorem lc_inv {n : Nat} {c : CC} {elt : Expr} {gens : List Comprehension} {scope : Scope} {ie : IE} (h0 : cLc (compE n) c elt gens scope = some ie) :
  ∃ tgt iter kk ss ielt c' bdf, gens = [⟨tgt, iter, [], 0⟩] ∧ CompG D k c scope tgt c' bdf ∧ compSrc (compE n c) c iter = some (kk, ss) ∧ compE n c' elt = some ielt ∧ wp2 Φ ie = compW Φ ss kk ielt bdf := by
 refine e1_2 (on1_some h0) fun e_161 e0 h1 => ?_
 obtain ⟨tgt, iter, ifs, a⟩ := e_161
 clear h0
 subst e0
 have h : (match isTup tgt with
  | true => onTup tgt fun ts => on2 ts fun tx ty => onName tx fun x => onName ty fun y => onlyIf (okC2 c scope x y a && ifs.isEmpty) (oTwo (fun ks e => IE.comp2 e c.nxt ks.1 ks.2) (compSrc (compE n c) c iter) (compE n (innerC2 c scope x y) elt))
  | false => onName tgt fun x => onlyIf (okC c scope x a && ifs.isEmpty) (oTwo (fun ks e => IE.comp e c.nxt ks.1 ks.2) (compSrc (compE n c) c iter) (compE n (innerC c scope x) elt))) = some ie := h1
 clear h1
 cases ht : isTup tgt with
 | true =>
  rw [ht] at h
  refine e3_2 (onTup_some h) fun es kt tp e1 h2 => ?_
  clear h
  refine e2_2 (on2_some h2) fun tx ty e2 h => ?_
  clear h2
  refine e2_2 (onName_some h) fun x px e3 h2 => ?_
  clear h
  refine e2_2 (onName_some h2) fun y py e4 h => ?_
  clear h2
  subst e4 e3 e2 e1
  obtain ⟨hs, h5⟩ := onlyIf_some h
  rw [Bool.and_eq_true] at hs
  obtain ⟨ha, ok⟩ := compOk2_of hs.1
  refine e2_3 (oTwo_some h5) fun ks e k1 k2 e_162 => ?_
  obtain rfl := e_162
  exact ⟨_, iter, ks.1, ks.2, e, _, _, by rw [ha, List.isEmpty_iff.mp hs.2], cg_pair ok, k1, k2, rfl⟩
 | false =>
  rw [ht] at h
  refine e2_2 (onName_some h) fun x px e1 h2 => ?_
  clear h
  subst e1
  obtain ⟨hs, h5⟩ := onlyIf_some h2
  rw [Bool.and_eq_true] at hs
  obtain ⟨ha, ok⟩ := compOk_of hs.1
  refine e2_3 (oTwo_some h5) fun ks e k1 k2 e_163 => ?_
  obtain rfl := e_163
  exact ⟨_, iter, ks.1, ks.2, e, _, _, by rw [ha, List.isEmpty_iff.mp hs.2], cg_name ok, k1, k2, rfl⟩
theorem e_lc {n : Nat} {c : CC} {elt : Expr} {gens : List Comprehension} {scope : Scope} {pos : Pos} {ie : IE} (g : GOk D c.G c.mts) (ih : ∀ c e ie, GOk D c.G c.mts → compE n c e = some ie → Both D Φ k c e ie) (h : cLc (compE n) c elt gens scope = some ie) : Both D Φ k c (.ListComp elt gens scope pos) ie := by
 obtain ⟨tgt, iter, kk, ss, ielt, c', bdf, rfl, cg, h1, h2, hie⟩ := lc_inv (D := D) (Φ := Φ) (k := k) h
 exact e_comp g ih cg h1 h2 (noSetIter h1) hie
theorem isBk_some {o : Option V} (h : isBk o = true) : o = some .bk := by
 cases o with
 | none => exact Bool.noConfusion h
 | some v => cases v with
  | bk => rfl
  | _ => exact Bool.noConfusion h
theorem e_fn {n : Nat} {c : CC} {fn : Expr} {args : List Expr} {p : Pos} {ie : IE} (hO : OrcOk D k Φ) (g : GOk D c.G c.mts) (ihE : ∀ e ie, compE n c e = some ie → SE D Φ k c e ie) (h : cCall (compE n c) c fn args p = some ie) : Both D Φ k c (.Call fn args [] p) ie := by
 obtain ⟨hs, h⟩ := onlyIf_some h
 rw [Bool.and_eq_true, Bool.not_eq_true'] at hs
 cases fn with
 | Name x px =>
  have h : (match isBk (globV c x) with
   | true => onlyIf args.isEmpty (some IE.new)
   | false => oTwo IE.call (globV c x) (mapO (compE n c) args)) = some ie := h
  cases hb : isBk (globV c x) with
  | true =>
   rw [hb] at h
   obtain ⟨h0, h⟩ := onlyIf_some h
   obtain rfl : args = [] := List.isEmpty_iff.mp h0
   obtain rfl := Option.some.inj h
   exact e_new g hO (isBk_some hb)
  | false =>
   rw [hb] at h
   refine e2_3 (oTwo_some h) fun a b h1 h2 e_165 => ?_
   obtain rfl := e_165
   exact e_call g hO ihE hs.1 h1 h2
 | Attribute o name apos =>
  obtain ⟨hs2, h⟩ := onlyIf_some h
  rw [Bool.and_eq_true] at hs2
  have hl := Nat.eq_of_beq_eq_true hs2.2
  cases hm : mtOf name with
  | some m =>
   rw [hm] at h
   rw [mtOf_some hm]
   refine e1_2 (on1_some (show on1 args _ = some ie from h)) fun a e_166 h => ?_
   obtain rfl := e_166
   refine e2_3 (oTwo_some h) fun v ia ho hia e_167 => ?_
   obtain rfl := e_167
   have hst := hs.1
   rw [List.any_cons, Bool.or_eq_false_iff] at hst
   exact e_meth (ihE _ _ ho) (ihE _ _ hia) hs2.1 hl hst.1
  | none =>
   rw [hm] at h
   obtain ⟨hc, h⟩ := onlyIf_some h
   refine e2_3 (oTwo_some h) fun v as ho ha e_168 => ?_
   obtain rfl := e_168
   exact e_mcall g hO ihE (ihE _ _ ho) hc hs2.1 hl hs.1 (Nat.ble_eq.mp hs.2) ha
 | _ => exact no_some h
theorem e_cm {n : Nat} {c : CC} {l : Expr} {ops : List CmpOp} {rs : List Expr} {p : Pos} {ie : IE} (ihE : ∀ e ie, compE n c e = some ie → SE D Φ k c e ie) (h : cCmp (compE n c) (compE n c l) ops rs = some ie) : Both D Φ k c (.Compare l ops rs p) ie := by
 cases ops with
 | nil => exact no_some h
 | cons op ops =>
  cases ops with
  | nil =>
   refine e1_2 (on1_some (show on1 rs _ = some ie from h)) fun r e_169 h => ?_
   obtain rfl := e_169
   refine e2_3 (oTwo_some h) fun a b h1 h2 e_170 => ?_
   obtain rfl := e_170
   exact e_cmp (ihE _ _ h1) (ihE _ _ h2) (noMarks h2)
  | cons op2 ops =>
   obtain ⟨hl, h⟩ := onlyIf_some (show onlyIf _ _ = some ie from h)
   refine e2_2 (on2_some h) fun r r' e_171 h => ?_
   obtain rfl := e_171
   refine e3_4 (oThree_some h) fun a b d h1 h2 h3 e_172 => ?_
   obtain rfl := e_172
   cases ops with
   | nil => exact e_cmp2 (ihE _ _ h1) (ihE _ _ h2) (ihE _ _ h3) (noMarks h3)
   | cons _ _ => exact Bool.noConfusion hl
theorem soundE (hO : OrcOk D k Φ) : ∀ (n : Nat) (c : CC) (e : Expr) (ie : IE), GOk D c.G c.mts → compE n c e = some ie → Both D Φ k c e ie := by
 intro n
 induction n with
 | zero => intro c e ie g h; exact no_some h
 | succ n ih =>
  intro c e ie g h
  have ihB : ∀ e ie, compE n c e = some ie → Both D Φ k c e ie := fun e ie h => ih c e ie g h
  have ihE : ∀ e ie, compE n c e = some ie → SE D Φ k c e ie := fun e ie h => (ihB e ie h).1
  cases e with
  | Constant kk a b =>
   obtain ⟨W, hW, rfl⟩ := Option.map_eq_some_iff.mp h; exact e_const hW
  | Name x p => exact e_name g h
  | BinOp l op r p => obtain ⟨a, b, h1, h2, rfl⟩ := oTwo_some h; exact e_bin (ihE _ _ h1) (ihE _ _ h2)
  | UnaryOp op x p =>
   cases op with
   | USub => obtain ⟨a, ha, rfl⟩ := Option.map_eq_some_iff.mp h; exact e_neg (ihE _ _ ha)
   | Not => obtain ⟨a, ha, rfl⟩ := Option.map_eq_some_iff.mp h; exact e_not (ihB _ _ ha)
   | _ => exact no_some h
  | BoolOp op vs p =>
   refine e1_2 (Option.bind_eq_some_iff.mp h) fun ies h1 h2 => ?_
   cases op with
   | And => exact e_and ihB h1 h2
   | Or => exact e_or ihB h1 h2
  | IfExp t a b p => obtain ⟨a, b, d, h1, h2, h3, rfl⟩ := oThree_some h; exact e_ite (ihB _ _ h1) (ihB _ _ h2) (ihB _ _ h3)
  | Compare l ops rs p => exact e_cm ihE h
  | Tuple es a p =>
   obtain ⟨hs, h⟩ := onlyIf_some h
   refine e1_2 (Option.map_eq_some_iff.mp h) fun a ha e_173 => ?_
   obtain rfl := e_173
   exact e_tup ihE (bnot hs) ha
  | List es p =>
   obtain ⟨hs, h⟩ := onlyIf_some h
   refine e1_2 (Option.map_eq_some_iff.mp h) fun a ha e_174 => ?_
   obtain rfl := e_174
   exact e_lst ihE (bnot hs) ha
  | Call f args kw p =>
   obtain ⟨hs, h⟩ := onlyIf_some h
   obtain rfl : kw = [] := List.isEmpty_iff.mp hs
   exact e_fn hO g ihE h
  | Subscript o i p =>
   have plain : oTwo IE.sub (compE n c o) (compE n c i) = some ie → Both D Φ k c (.Subscript o i p) ie := fun h => by
    refine e2_3 (oTwo_some h) fun a b h1 h2 e_175 => ?_
    obtain rfl := e_175
    exact e_sub (ihE _ _ h1) (ihE _ _ h2) (noSlice h2)
   cases i with
   | Slice lo hi st sp =>
    obtain ⟨h0, h⟩ := onlyIf_some (show onlyIf st.isNone _ = some ie from h)
    obtain rfl := Option.isNone_iff_eq_none.mp h0
    refine e3_4 (oThree_some h) fun a b d h1 h2 h3 e_176 => ?_
    obtain rfl := e_176
    exact e_slice ihE h1 h2 h3
   | _ => exact plain h
  | ListComp elt gens scope pos => exact e_lc g ih h
  | Attribute o x p =>
   obtain ⟨hc, h⟩ := onlyIf_some h
   rw [Bool.and_eq_true] at hc
   refine e1_2 (Option.map_eq_some_iff.mp h) fun a ha e_177 => ?_
   obtain rfl := e_177
   exact e_attr g (ihE _ _ ha) hc.1 hc.2
  | Dict ks vs p =>
   obtain ⟨hc, h⟩ := onlyIf_some h
   rw [Bool.and_eq_true] at hc
   obtain rfl := Option.some.inj h
   obtain rfl := List.isEmpty_iff.mp hc.1
   obtain rfl := List.isEmpty_iff.mp hc.2
   exact e_dct
  | _ => exact no_some h
end
end Mine
namespace Mine
open PySem PyProof.Rows
noncomputable def ownA (env : Env) : List Addr := env.locals :: env.cells.map (·.2)
structure FRel (D : Wd) (γ : List Addr) (env : Env) (slots : List (Str × Nat)) (h : Heap) (L : Lc) : Prop where
 l : LRel D γ env slots h L
 own : ∀ a ∈ ownA env, a ∉ γ ∧ D.hB.get? a = none ∧ (∃ o, h.get? a = some o) ∧ ∀ ws, ¬ TupAt h a ws
 apart : env.cells.Pairwise fun x y => x.2 ≠ y.2
 above : ∀ p ∈ env.cells, p.2 ≠ env.locals
 top : ∃ outer, D.fr = env :: outer ∧ env.frame = some env.locals
noncomputable def FlRep (mg : Wd) (γ : List Addr) (h : Heap) (fl : Flow) (F : Fl) : Prop := match F with
 | .next => fl = .next
 | .ret V => ∃ v, fl = .ret v ∧ Rep mg γ h v V
noncomputable def PostF (D : Wd) (γ : List Addr) (s : Shared) (env : Env) (slots : List (Str × Nat)) (Q : QS) (fl : Flow) (s' : Shared) : Prop :=
 ∃ γ' H' L' F, Stp (ownA env) γ γ' s s' ∧ HRel D γ' H' s'.heap ∧ FRel D γ' env slots s'.heap L' ∧ FlRep D γ' s'.heap fl F ∧ Q F L' H'
noncomputable def PostE (D : Wd) (γ : List Addr) (s : Shared) (env : Env) (slots : List (Str × Nat)) (X : XS) (e : Value) (s' : Shared) : Prop :=
 ∃ γ' H' L' x, Stp (ownA env) γ γ' s s' ∧ HRel D γ' H' s'.heap ∧ FRel D γ' env slots s'.heap L' ∧ ((XNew D γ' s s'.heap e x ∨ XFly D γ' s s'.heap e x) ∧ (x.cls, x.ups) ∈ D.ex) ∧ X x L' H'
theorem PostE.no {D : Wd} {γ : List Addr} {s : Shared} {env : Env} {slots : List (Str × Nat)} {e : Value} {s' : Shared} (h : PostE D γ s env slots noXS e s') : False := by
 obtain ⟨_, _, _, _, _, _, _, _, x⟩ := h; exact x
structure SlotsOk (c : CC) : Prop where
 inj : ∀ (x y : Str) (i : Nat), c.slots.lookup x = some i → c.slots.lookup y = some i → x = y
section
variable {D : Wd} {Φ : Orc} {k : Nat} {γ γ1 : List Addr} {H H1 : Hp} {s s1 : Shared} {env : Env} {slots : List (Str × Nat)} {L : Lc}
theorem FRel.stp (f : FRel D γ env slots s.heap L) (R : HRel D γ H s.heap) (t : Stp [] γ γ1 s s1) : FRel D γ1 env slots s1.heap L where
 l := f.l.stp R t
 own := fun a ha => by
  refine e0_4 (f.own a ha) fun h1 h2 e_178 h3 => ?_
  obtain ⟨o, e⟩ := e_178
  refine e1_2 (t.keepS _ _ h1 (fun h => nomatch h) e) fun sl e' hs => ?_
  refine ⟨notin_ext t h1 e, h2, ⟨_, e'⟩, fun ws q => h3 ws ?_⟩
  refine e1_2 q fun n q1 q2 => ?_
  rw [e'] at q1
  have hd : o.data = .seq ws.toArray n := congrArg Obj.data (Option.some.inj q1)
  rw [hs (notD_seq hd)] at q1
  exact ⟨n, e.trans q1, q2⟩
 apart := f.apart
 above := f.above
 top := f.top
theorem Stp.transF {wr γ2 : List Addr} {s2 : Shared} (R1 : HRel D γ1 H1 s1.heap) (a : Stp wr γ γ1 s s1) (b : Stp wr γ1 γ2 s1 s2) (hw : ∀ x ∈ wr, ∃ o', s1.heap.get? x = some o') : Stp wr γ γ2 s s2 :=
 a.trans R1 b (fun x hx _ _ => hw x hx)
theorem FRel.alive (f : FRel D γ env slots s.heap L) : ∀ x ∈ ownA env, ∃ o', s.heap.get? x = some o' := fun x hx => by
 obtain ⟨_, _, e, _⟩ := f.own x hx; exact e
theorem PostF.back {Q : QS} {fl : Flow} {s' : Shared} {L1 : Lc} (t : Stp (ownA env) γ γ1 s s1) (R : HRel D γ1 H1 s1.heap) (f : FRel D γ1 env slots s1.heap L1) (h : PostF D γ1 s1 env slots Q fl s') : PostF D γ s env slots Q fl s' := by
 refine e4_5 h fun γ' H' L' F a b c d e => ?_
 exact ⟨γ', H', L', F, t.transF R a f.alive, b, c, d, e⟩
theorem fresh_backF {wr : List Addr} (t : Stp wr γ γ1 s s1) (R : HRel D γ1 H1 s1.heap) (hw : ∀ x ∈ wr, ∃ o', s1.heap.get? x = some o') {a : Addr} (h : s1.heap.get? a = none) : s.heap.get? a = none := by
 cases e : s.heap.get? a with
 | none => rfl
 | some o =>
  by_cases hg : a ∈ γ
  ·refine e1_2 (t.ext) fun δ e1 _ => ?_
   obtain ⟨⟨o', e'⟩, _⟩ := R.alive (a := a) (by rw [e1]; exact List.mem_append_left _ hg)
   rw [h] at e'; exact no_some e'
  ·by_cases hx : a ∈ wr
   ·obtain ⟨o', e'⟩ := hw a hx
    rw [h] at e'; exact no_some e'
   ·obtain ⟨o', e'⟩ := t.live hg hx e
    rw [h] at e'; exact no_some e'
theorem PostE.back {X : XS} {e : Value} {s' : Shared} {L1 : Lc} (t : Stp (ownA env) γ γ1 s s1) (R : HRel D γ1 H1 s1.heap) (f : FRel D γ1 env slots s1.heap L1) (h : PostE D γ1 s1 env slots X e s') : PostE D γ s env slots X e s' := by
 refine e4_5 h fun γ' H' L' x a b c e_179 q => ?_
 obtain ⟨d, m⟩ := e_179
 have fb : ∀ a, s1.heap.get? a = none → s.heap.get? a = none := fun a => fresh_backF t R f.alive
 exact ⟨γ', H', L', x, t.transF R a f.alive, b, c, ⟨d.imp (·.from fb) (·.from fb), m⟩, q⟩
theorem PostX.toE {X : XS} {e : Value} {s' : Shared} (f : FRel D γ env slots s.heap L) (R : HRel D γ H s.heap) (h : PostX D γ s (fun x => X x L) e s') : PostE D γ s env slots X e s' := by
 refine e3_4 h fun γ' H' x a b e_180 q => ?_
 obtain ⟨c, m⟩ := e_180
 exact ⟨γ', H', L, x, a.weak, b, f.stp R a, ⟨.inr c, m⟩, q⟩
theorem lookup_cell_mem {x : Str} {c : Addr} (h : env.cells.lookup x = some c) : c ∈ ownA env := List.mem_cons_of_mem _ (List.mem_map.mpr ⟨(x, c), mem_of_lookup h, rfl⟩)
theorem notTup_cell {h : Heap} {c : Addr} {u : Option Value} (x : h.IsCell c u) (ws : List Value) : ¬ TupAt h c ws := fun q => by
 refine e1_2 x fun o e d => ?_
 refine e1_2 q fun n e' _ => ?_
 rw [e] at e'; cases e'; cases d
theorem notTup_same {h h' : Heap} {a : Addr} {o : Obj} (e : h.get? a = some o) (e' : h'.get? a = some o) (q : ∀ ws, ¬ TupAt h a ws) (ws : List Value) : ¬ TupAt h' a ws := fun x => by
 refine e1_2 x fun n q1 q2 => ?_
 rw [e'] at q1; cases q1
 exact q ws ⟨n, e, q2⟩
theorem store_ok {c : CC} {A : Around} {E : Value → Shared → Prop} {x : Str} {i : Nat} {v : Value} {W : V} (hE : EnvOk c env) (so : SlotsOk c) (R : HRel D γ H s.heap) (f : FRel D γ env c.slots s.heap L) (hs : slotV c x = some i) (rv : Rep D γ s.heap v W) :
  wpAny D.M A (storeName env x v) (fun _ s' => Stp (ownA env) γ γ s s' ∧ HRel D γ H s'.heap ∧ FRel D γ env c.slots s'.heap (L.set i (some W))) E s := by
 have hkf : env.scope.kind = .function := by rw [hE.scope]; exact hE.kind
 have hkind : ∀ y, env.kindOf y = c.scope.names.lookup y := fun y => by unfold Env.kindOf; rw [hE.scope]
 refine e1_2 (Option.bind_eq_some_iff.mp hs) fun kk hk hs => ?_
 have hk' : env.kindOf x = some kk := (hkind x).trans hk
 cases kk with
 | «local» =>
  have hs : c.slots.lookup x = some i := hs
  refine e1_2 (f.l.ns) fun m hn fm => ?_
  refine e0_4 (f.own env.locals List.mem_cons_self) fun lg lB _ cL => ?_
  refine wpAny_storeName_local hk' hn (fun h' hn' hs' => ?_) (by rw [hkf]; rfl)
  have hkk : ∀ b o, b ≠ env.locals → s.heap.get? b = some o → h'.get? b = some o := fun b o hb e => hs'.extBut b o hb e
  have tt : ∀ a ws, TupAt s.heap a ws → TupAt h' a ws := fun a ws q => tupAt_but hkk cL q
  refine ⟨Stp.of ⟨_, _, rfl⟩ (fun b o _ hb e => hkk b o (fun q => hb (q ▸ List.mem_cons_self)) e) ⟨[], by simp, by simp⟩, R.but hkk lg lB cL (.inr (.inl (isD_ns hn'))), ⟨⟨⟨_, hn', ?_⟩, ?_, lg, f.l.tp⟩, ?_, f.apart, f.above, f.top⟩⟩
  ·intro y j V hy hj hL
   by_cases hxy : y = x
   ·subst hxy
    rw [hs] at hj; obtain rfl := Option.some.inj hj
    obtain rfl := set_get hL
    exact ⟨v, by simp, Rep.mono ⟨[], by simp⟩ tt rv⟩
   ·have hij : i ≠ j := fun q => hxy (so.inj y x i (q ▸ hj) hs)
    rw [List.getElem?_set_ne hij] at hL
    refine e1_2 (fm y j V hy hj hL) fun u hu ru => ?_
    exact ⟨u, by simp [hxy, hu], Rep.mono ⟨[], by simp⟩ tt ru⟩
  ·intro y hy
   refine e2_4 (f.l.cel y hy) fun ca u e1 e2 e3 e4 => ?_
   refine ⟨ca, u, e1, e2.sameBut hs' (f.above (y, ca) (mem_of_lookup e1)), e3, fun j V hj hL => ?_⟩
   have hij : i ≠ j := fun q => by
    have := so.inj y x i (q ▸ hj) hs
    subst this; rw [hy] at hk'; cases hk'
   rw [List.getElem?_set_ne hij] at hL
   refine e1_2 (e4 j V hj hL) fun w hw rw_ => ?_
   exact ⟨w, hw, Rep.mono ⟨[], by simp⟩ tt rw_⟩
  ·intro a ha
   refine e0_4 (f.own a ha) fun a1 a2 e_181 a3 => ?_
   obtain ⟨o, e⟩ := e_181
   by_cases hal : a = env.locals
   ·subst hal
    exact ⟨a1, a2, (let ⟨o', _, _, eo, _⟩ := hn'; ⟨o', eo⟩), notTup_dict hn'⟩
   ·exact ⟨a1, a2, ⟨o, hkk _ _ hal e⟩, notTup_same e (hkk _ _ hal e) a3⟩
 | cell =>
  have hs : c.slots.lookup x = some i := hs
  refine e2_4 (f.l.cel x hk') fun ca u e1 e2 e3 e4 => ?_
  refine e0_4 (f.own ca (lookup_cell_mem e1)) fun lg lB _ cL => ?_
  have hcl : ca ≠ env.locals := f.above (x, ca) (mem_of_lookup e1)
  refine wpAny_storeName_cell hkf hk' e1 e2 (fun h' hc' hs' => ?_)
  have hkk : ∀ b o, b ≠ ca → s.heap.get? b = some o → h'.get? b = some o := fun b o hb e => hs'.extBut b o hb e
  have tt : ∀ a ws, TupAt s.heap a ws → TupAt h' a ws := fun a ws q => tupAt_but hkk cL q
  refine e1_2 (f.l.ns) fun m hn fm => ?_
  refine ⟨Stp.of ⟨_, s.toks, rfl⟩ (fun b o _ hb e => hkk b o (fun q => hb (q ▸ lookup_cell_mem e1)) e) ⟨[], by simp, by simp⟩, R.but hkk lg lB cL (.inl (let ⟨o, e, d⟩ := e2; ⟨o, e, fun es n q => by rw [d] at q; cases q⟩)), ⟨⟨⟨m, hn.sameBut hs' (Ne.symm hcl), ?_⟩, ?_, f.l.nin, f.l.tp⟩, ?_, f.apart, f.above, f.top⟩⟩
  ·intro y j V hy hj hL
   have hij : i ≠ j := fun q => by
    have := so.inj y x i (q ▸ hj) hs
    subst this; rw [hy] at hk'; cases hk'
   rw [List.getElem?_set_ne hij] at hL
   refine e1_2 (fm y j V hy hj hL) fun w hw rw_ => ?_
   exact ⟨w, hw, Rep.mono ⟨[], by simp⟩ tt rw_⟩
  ·intro y hy
   by_cases hxy : y = x
   ·subst hxy
    refine ⟨ca, some v, e1, hc', e3, fun j V hj hL => ?_⟩
    rw [hs] at hj; obtain rfl := Option.some.inj hj
    obtain rfl := set_get hL
    exact ⟨v, rfl, Rep.mono ⟨[], by simp⟩ tt rv⟩
   ·refine e2_4 (f.l.cel y hy) fun cb u' f1 f2 f3 f4 => ?_
    have hne : cb ≠ ca := fun q => hxy (name_of_addr f.apart (mem_of_lookup f1) (q ▸ mem_of_lookup e1))
    refine ⟨cb, u', f1, f2.sameBut hs' hne, f3, fun j V hj hL => ?_⟩
    have hij : i ≠ j := fun q => hxy (so.inj y x i (q ▸ hj) hs)
    rw [List.getElem?_set_ne hij] at hL
    refine e1_2 (f4 j V hj hL) fun w hw rw_ => ?_
    exact ⟨w, hw, Rep.mono ⟨[], by simp⟩ tt rw_⟩
  ·intro a ha
   refine e0_4 (f.own a ha) fun a1 a2 e_182 a3 => ?_
   obtain ⟨o, e⟩ := e_182
   by_cases hal : a = ca
   ·subst hal
    exact ⟨a1, a2, (let ⟨o', eo, _⟩ := hc'; ⟨o', eo⟩), notTup_cell hc'⟩
   ·exact ⟨a1, a2, ⟨o, hkk _ _ hal e⟩, notTup_same e (hkk _ _ hal e) a3⟩
 | _ => exact no_some hs
end
section
variable {D : Wd} {γ γ1 γ0 : List Addr} {H H1 H0 : Hp} {s s1 : Shared} {env : Env} {slots : List (Str × Nat)} {L : Lc} {ex : List Addr} {h h' : Heap}
theorem FRel.butN {h h' : Heap} {I : Addr} (f : FRel D γ env slots h L) (hk : ∀ b o, b ≠ I → h.get? b = some o → h'.get? b = some o) (hI : I ∉ ownA env) (nt : ∀ ws, ¬ TupAt h I ws) : FRel D γ env slots h' L where
 l := {
  ns := by
   refine e1_2 (f.l.ns) fun m n r => ?_
   refine ⟨m, n.at' fun o e => hk _ o (fun q => hI (q ▸ List.mem_cons_self)) e, fun x i V a b c => ?_⟩
   refine e1_2 (r x i V a b c) fun v e q => ?_
   exact ⟨v, e, Rep.mono ⟨[], by simp⟩ (fun _ _ q => tupAt_but hk nt q) q⟩
  cel := fun x hx => by
   refine e2_4 (f.l.cel x hx) fun c u a e_183 hc r => ?_
   obtain ⟨o, ho, hd⟩ := e_183
   refine ⟨c, u, a, ⟨o, hk _ _ (fun q => hI (q ▸ lookup_cell_mem a)) ho, hd⟩, hc, fun i V b d => ?_⟩
   refine e1_2 (r i V b d) fun v e q => ?_
   exact ⟨v, e, Rep.mono ⟨[], by simp⟩ (fun _ _ q => tupAt_but hk nt q) q⟩
  nin := f.l.nin
  tp := f.l.tp }
 own := fun a ha => by
  refine e0_4 (f.own a ha) fun a1 a2 e_184 a3 => ?_
  obtain ⟨o, e⟩ := e_184
  have e' := hk a o (fun q => hI (q ▸ ha)) e
  exact ⟨a1, a2, ⟨o, e'⟩, notTup_same e e' a3⟩
 apart := f.apart
 above := f.above
 top := f.top
theorem Stp.butF {wr : List Addr} {h' : Heap} {tk : Nat} {z : Addr} (t : Stp wr γ γ1 s s1) (hk : ∀ b o, b ≠ z → s1.heap.get? b = some o → h'.get? b = some o) (hz : s.heap.get? z = none) : Stp wr γ γ1 s { s1 with heap := h', toks := tk } := by
 refine ⟨?_, fun b o hb hw e => let ⟨sl, e', q⟩ := t.keepS b o hb hw e; ⟨sl, hk b _ (by rintro rfl; rw [hz] at e; exact no_some e) e', q⟩, t.ext⟩
 refine e2_1 (t.same) fun h1 t1 e_185 => ?_
 obtain rfl := e_185
 exact ⟨_, _, rfl⟩
theorem Land.frel (l : Land ex h h') (R : HRel D γ H h) (X : ExF D γ s h ex) (alive : ∀ a ∈ ownA env, ∃ o, s.heap.get? a = some o) (f : FRel D γ env slots h L) : FRel D γ env slots h' L where
 l := {
  ns := by
   refine e1_2 (f.l.ns) fun m n r => ?_
   refine ⟨m, l.up.ns n, fun x i V a b c => ?_⟩
   refine e1_2 (r x i V a b c) fun v e q => ?_
   exact ⟨v, e, l.rep R.frs X q⟩
  cel := fun x hx => by
   refine e2_4 (f.l.cel x hx) fun c u a e_186 hc r => ?_
   obtain ⟨o, ho, hd⟩ := e_186
   refine ⟨c, u, a, ⟨o, l.same R.frs X (fun es n q => by rw [hd] at q; cases q) (fun vs q => by rw [hd] at q; cases q) ho, hd⟩, hc, fun i V b d => ?_⟩
   refine e1_2 (r i V b d) fun v e q => ?_
   exact ⟨v, e, l.rep R.frs X q⟩
  nin := f.l.nin
  tp := f.l.tp }
 own := fun a ha => by
  refine e0_4 (f.own a ha) fun a1 a2 e_187 a3 => ?_
  obtain ⟨o, e⟩ := e_187
  by_cases hx : a ∈ ex
  ·rcases X.each a hx with q | ⟨q, _⟩
   ·obtain ⟨_, o', e', d⟩ := R.frs.at q
    rw [e] at e'; cases e'
    obtain ⟨sl, e2⟩ := l.up a o e fun vs q => d (notD_fields q)
    refine ⟨a1, a2, ⟨_, e2⟩, fun ws t => d ?_⟩
    refine e1_2 t fun n t1 _ => ?_
    rw [e2] at t1
    have hd : o.data = .seq ws.toArray n := congrArg Obj.data (Option.some.inj t1)
    exact notD_seq hd
   ·obtain ⟨o', e'⟩ := alive a ha
    rw [e'] at q; cases q
  ·have e2 := l.stays a o hx e
   exact ⟨a1, a2, ⟨o, e2⟩, notTup_same e e2 a3⟩
 apart := f.apart
 above := f.above
 top := f.top
theorem not_g {a : Addr} (R : HRel D γ H h) (X : ExF D γ s h ex) (ha : a ∈ ex) : a ∉ γ := by
 rcases X.each a ha with q | ⟨_, _, q, _⟩
 ·exact (R.frs.at q).1.2
 ·exact q
theorem held_back {A : Around} {X : XS} {e : Value} {k : Nat} (hA : AOk D k A) (R0 : HRel D γ H s.heap) (alive : ∀ a ∈ ownA env, ∃ o, s.heap.get? a = some o) (p : PostE D γ s env slots X e s1) :
  notedBy D.M A env (fun e s' => cameBackBy D.M A env (PostE D γ s env slots X) e s') e s1 := by
 refine e4_5 p fun γ' H' L' x st R1 fr1 e_188 q => ?_
 obtain ⟨hx, hex⟩ := e_188
 refine e1_2 (fr1.top) fun outer htop hfr => ?_
 refine note_any hA.frames R0 R1 htop hfr hx fun a C a0 ex h' e1 hmg hn hax XF up hh => ?_
 subst e1
 refine came hh fun h2 hh2 up2 => ?_
 obtain ⟨k1, k2, k3, fl, k4⟩ := hh2
 have land : Land ex s1.heap h2 := Land.of k1 (up.trans up2)
 exact ⟨γ', H', L', x, land.stp R1.frs XF st, land.rel R1 XF, land.frel R1 XF alive fr1, ⟨.inr (fly_of (fun b => fresh_backF st R1 fr1.alive) R1.frs (fun b hb => (R1.nin hb).1) (not_g R1 XF hax) XF land hmg hn k4), hex⟩, q⟩
end
end Mine
set_option maxRecDepth 100000
namespace Mine
open PySem
open Sem (wp)
section
variable {prog : Program} {w : World} {A : Around} {E : Value → Shared → Prop} {h : Heap} {g : Array GenState} {d : Drawn} {t : Nat} {os : OsState} {a C : Addr} {o : Obj} {bm : List Value}
theorem subOwn {M : Model} {base : Value} {Q : Bool → Shared → Prop} (hC : ClsAt h C bm) (hq : Q ((Value.ref C :: bm).contains base) ⟨h, g, d, t, os⟩) : wpAny M A (isSubtype (.ref C) base) Q E ⟨h, g, d, t, os⟩ := by
 obtain ⟨N, nm, q, bs, hdct, sn, sub, ab, col, dd, k0, k1, k2, k3, k5, mN, hC, hN, hmN, T⟩ := hC
 exact wpAny_isSubtype_exc hC hq
theorem hasT (hC : ClsAt h C bm) {X : String} {b : Bool} (hb : bmV.contains (.type X) = b) : (Value.ref C :: bm).contains (.type X) = b := by
 obtain ⟨N, nm, q, bs, hdct, sn, sub, ab, col, dd, k0, k1, k2, k3, k5, mN, hC, hN, hmN, T⟩ := hC
 rw [List.contains_cons, T.hasType hb]; rfl
theorem partOwn (hC : ClsAt h C bm) : ∃ oC cd, h.get? C = some oC ∧ oC.cls = .type "type" ∧ oC.data = .cls cd := by
 obtain ⟨N, nm, q, bs, hdct, sn, sub, ab, col, dd, k0, k1, k2, k3, k5, mN, hC, hN, hmN, T⟩ := hC
 exact ⟨_, _, hC, rfl, rfl⟩
theorem matchOwn {M : Model} {Cy : Addr} {bmy : List Value} {Q : Bool → Shared → Prop} {s : Shared} (hC : ClsAt s.heap C bm) (hCy : ClsAt s.heap Cy bmy) (hx : s.heap.get? a = some o) (hc : o.cls = .ref C)
  (hq : Q ((Value.ref C :: bm).contains (.ref Cy)) s) : wpAny M A (excMatches (.ref a) (.ref Cy)) Q E s := by
 obtain ⟨h, g, d, t, os⟩ := s
 refine e2_3 (partOwn hCy) fun oy cdy hy1 hy2 hy3 => ?_
 have hcB : (Value.ref Cy :: bmy).contains (.type "BaseException") = true := hasT hCy rfl
 have f := tc_notTuple
 unfold excMatches
 cases hb : (Value.ref C :: bm).contains (.ref Cy) with
 | true =>
  rw [hb] at hq
  repeat (any_goals (first | assumption | (with_reducible refine wpAny_loadPart_at hx ?_; rw [hc]) | (with_reducible refine wpAny_loadPart_at hy1 ?_; rw [hy2]) | (with_reducible refine wpAny_loadPart_at hy1 ?_; rw [hy3]) | (with_reducible refine subOwn hCy ?_; rw [hcB]) | (with_reducible refine subOwn hC ?_; rw [hb]) | wp_step))
 | false =>
  rw [hb] at hq
  repeat (any_goals (first | assumption | (with_reducible refine wpAny_loadPart_at hx ?_; rw [hc]) | (with_reducible refine wpAny_loadPart_at hy1 ?_; rw [hy2]) | (with_reducible refine wpAny_loadPart_at hy1 ?_; rw [hy3]) | (with_reducible refine subOwn hCy ?_; rw [hcB]) | (with_reducible refine subOwn hC ?_; rw [hb]) | wp_step))
end
end Mine
namespace Mine
open PySem PyProof.Rows
noncomputable def SS (D : Wd) (Φ : Orc) (k : Nat) (c : CC) (st : Stmt) (is : IS) : Prop := ∀ env A γ H s L Q X, EnvOk c env → AOk D k A → HRel D γ H s.heap → FRel D γ env c.slots s.heap L →
 wpS Φ is L H Q X → wpAny D.M A (exec st env) (PostF D γ s env c.slots Q) (PostE D γ s env c.slots X) s
noncomputable def SSs (D : Wd) (Φ : Orc) (k : Nat) (c : CC) (sts : List Stmt) (iss : List IS) : Prop := ∀ env A γ H s L Q X, EnvOk c env → AOk D k A → HRel D γ H s.heap → FRel D γ env c.slots s.heap L →
 wpSs Φ iss L H Q X → wpAny D.M A (execs sts env) (PostF D γ s env c.slots Q) (PostE D γ s env c.slots X) s
section
variable {D : Wd} {Φ : Orc} {k : Nat} {c : CC}
theorem sss_of {f : Stmt → Option IS} (ih : ∀ st is, f st = some is → SS D Φ k c st is) : ∀ (sts : List Stmt) (iss : List IS), mapO f sts = some iss → SSs D Φ k c sts iss
 | [], iss, hm => by
  rw [mapO_nil hm]
  intro env A γ H s L Q X hE hA R fr w
  exact wpAny_execs_nil ⟨γ, H, L, .next, Stp.refl, R, fr, rfl, w⟩
 | st :: r, iss, hm => by
  refine e2_3 (mapO_cons hm) fun b bs e_189 h1 h2 => ?_
  obtain rfl := e_189
  intro env A γ H s L Q X hE hA R fr w
  refine wpAny_execs_cons (wpAny_mono (ih st b h1 env A γ H s L _ X hE hA R fr w) (fun fl s1 p => ?_) fun _ _ x => x)
  refine e4_5 p fun γ1 H1 L1 F st1 R1 fr1 hf q => ?_
  cases F with
  | next =>
   obtain rfl := hf
   exact wpAny_mono (sss_of ih r bs h2 env A γ1 H1 s1 L1 Q X hE hA R1 fr1 q) (fun _ _ x => x.back st1 R1 fr1) fun _ _ x => x.back st1 R1 fr1
  | ret V =>
   refine e1_2 hf fun v e_190 rv => ?_
   obtain rfl := e_190
   exact ⟨γ1, H1, L1, .ret V, st1, R1, fr1, ⟨v, rfl, rv⟩, q⟩
theorem kindF {env : Env} (hE : EnvOk c env) : env.scope.kind = .function := by rw [hE.scope]; exact hE.kind
theorem s_expr {e : Expr} {pos : Pos} {ie : IE} (h : SE D Φ k c e ie) (hc : isComp e = false) : SS D Φ k c (.Expr e pos) (.expr ie) := by
 intro env A γ H s L Q X hE hA R fr w
 have hk := kindF hE
 refine wpAny_Expr_any (wpAny_mono (h env A γ H s L _ _ hE hA R fr.l w) (fun v s1 p => ?_) fun _ _ x => x.toE fr R) (by unfold interactive; rw [hk]; rfl) (by cases e <;> first | rfl | exact Bool.noConfusion hc)
 refine e3_4 p fun γ1 V H1 st R1 rv q => ?_
 exact ⟨γ1, H1, L, .next, st.weak, R1, fr.stp R st, rfl, q⟩
theorem s_ret {e : Expr} {pos : Pos} {ie : IE} (h : SE D Φ k c e ie) : SS D Φ k c (.Return (some e) pos) (.ret ie) := by
 intro env A γ H s L Q X hE hA R fr w
 refine wpAny_Return_some (wpAny_mono (h env A γ H s L _ _ hE hA R fr.l w) (fun v s1 p => ?_) fun _ _ x => x.toE fr R)
 refine e3_4 p fun γ1 V H1 st R1 rv q => ?_
 exact ⟨γ1, H1, L, .ret V, st.weak, R1, fr.stp R st, ⟨v, rfl, rv⟩, q⟩
theorem s_assign {e : Expr} {x : Str} {px pos : Pos} {ie : IE} {i : Nat} (so : SlotsOk c) (h : SE D Φ k c e ie) (hs : slotV c x = some i) (hw : ∀ env, EnvOk c env → swapsWith e (some (.Name x px)) pos.line env = pure false) :
  SS D Φ k c (.Assign [.Name x px] e pos) (.assign i ie) := by
 intro env A γ H s L Q X hE hA R fr w
 refine wpAny_Assign_Name (wpAny_mono (h env A γ H s L _ _ hE hA R fr.l w) (fun v s1 p => ?_) fun _ _ x => x.toE fr R) (hw env hE)
 refine e3_4 p fun γ1 V H1 st R1 rv q => ?_
 refine wpAny_mono (store_ok hE so R1 (fr.stp R st) hs rv) (fun _ s2 p => ?_) fun _ _ x => x
 refine e0_3 p fun st2 R2 fr2 => ?_
 exact ⟨γ1, H1, _, .next, st.weak.transF R1 st2 (fr.stp R st).alive, R2, fr2, rfl, q⟩
theorem valueAt_cons {K : Type} [DecidableEq K] (a : K) (b : Value) (r : List (K × Value)) (y : K) : valueAt ((a, b) :: r) y = if a = y then some b else valueAt r y := by
 unfold valueAt
 rw [List.find?_cons]
 by_cases h : a = y
 ·rw [if_pos h, decide_eq_true h]; rfl
 ·rw [if_neg h, decide_eq_false h]
theorem valueAt_map {K : Type} [DecidableEq K] (k : K) (v : Value) (y : K) : ∀ kvs : List (K × Value), valueAt (kvs.map fun kv => if kv.1 = k then (kv.1, v) else kv) y = if y = k ∧ (kvs.any fun kv => kv.1 = k) = true then some v else valueAt kvs y
 | [] => by rw [if_neg (fun h => nomatch h.2)]; rfl
 | (a, b) :: r => by
  rw [List.map_cons, List.any_cons]
  by_cases ha : a = k
  ·rw [show (if (a, b).1 = k then ((a, b).1, v) else (a, b)) = (a, v) from if_pos ha, valueAt_cons, valueAt_cons, valueAt_map k v y r, show decide ((a, b).1 = k) = true from decide_eq_true ha]
   by_cases hy : y = k
   ·rw [if_pos (ha.trans hy.symm), if_pos ⟨hy, rfl⟩]
   ·have hay : ¬ a = y := fun q => hy (q.symm.trans ha)
    rw [if_neg hay, if_neg (fun h => hy h.1), if_neg (fun h => hy h.1), if_neg hay]
  ·rw [show (if (a, b).1 = k then ((a, b).1, v) else (a, b)) = (a, b) from if_neg ha, valueAt_cons, valueAt_cons, valueAt_map k v y r, show decide ((a, b).1 = k) = false from decide_eq_false ha, Bool.false_or]
   by_cases hay : a = y
   ·have hy : ¬ y = k := fun q => ha (hay.trans q)
    rw [if_pos hay, if_pos hay, if_neg (fun h => hy h.1)]
   ·rw [if_neg hay, if_neg hay]
theorem valueAt_app {K : Type} [DecidableEq K] (k : K) (v : Value) (y : K) : ∀ kvs : List (K × Value), (kvs.any fun kv => kv.1 = k) = false → valueAt (kvs ++ [(k, v)]) y = if y = k then some v else valueAt kvs y
 | [], _ => by
  rw [List.nil_append, valueAt_cons]
  by_cases hy : y = k
  ·rw [if_pos hy.symm, if_pos hy]
  ·rw [if_neg (fun q => hy q.symm), if_neg hy]
 | (a, b) :: r, h => by
  rw [List.any_cons, Bool.or_eq_false_iff] at h
  have ha : ¬ a = k := of_decide_eq_false h.1
  rw [List.cons_append, valueAt_cons, valueAt_cons, valueAt_app k v y r h.2]
  by_cases hay : a = y
  ·rw [if_pos hay, if_pos hay, if_neg (fun q => ha (hay.trans q))]
  ·rw [if_neg hay, if_neg hay]
theorem valueAt_stored {K : Type} [DecidableEq K] (kvs : List (K × Value)) (k : K) (v : Value) (y : K) : valueAt (stored kvs k v) y = if y = k then some v else valueAt kvs y := by
 unfold stored
 cases h : kvs.any fun kv => kv.1 = k with
 | true =>
  rw [if_pos rfl, valueAt_map, h]
  by_cases hy : y = k
  ·rw [if_pos ⟨hy, rfl⟩, if_pos hy]
  ·rw [if_neg (fun q => hy q.1), if_neg hy]
 | false => rw [if_neg Bool.false_ne_true]; exact valueAt_app k v y kvs h
theorem FsRep.cons {γ : List Addr} {h : Heap} {fs : List (Str × V)} {m : Str → Option Value} {x : Str} {v : Value} {W : V} (f : FsRep D γ h fs m) (r : Rep D γ h v W) : FsRep D γ h ((x, W) :: fs) (fun y => if y = x then some v else m y) := by
 refine ⟨fun y V hy => ?_, fun y hy => ?_⟩
 ·rw [List.lookup_cons] at hy
  by_cases hxy : y = x
  ·rw [beq_iff_eq.mpr hxy] at hy
   obtain rfl := Option.some.inj hy
   exact ⟨v, if_pos hxy, r⟩
  ·rw [beq_eq_false_iff_ne.mpr hxy] at hy
   refine e1_2 (f.1 y V hy) fun u hu ru => ?_
   exact ⟨u, (if_neg hxy).trans hu, ru⟩
 ·rw [List.lookup_cons] at hy
  by_cases hxy : y = x
  ·rw [beq_iff_eq.mpr hxy] at hy; exact no_some hy.symm
  ·rw [beq_eq_false_iff_ne.mpr hxy] at hy
   exact (if_neg hxy).trans (f.2 y hy)
theorem s_set {o i value : Expr} {pos' pos : Pos} {io ii iv : IE} (hv : SE D Φ k c value iv) (ho : SE D Φ k c o io) (hi : SE D Φ k c i ii) (hw : ∀ env, swapsWith value (some (.Subscript o i pos')) pos.line env = pure false) :
  SS D Φ k c (.Assign [.Subscript o i pos'] value pos) (.setItem io ii iv) := by
 intro env A γ H s L Q X hE hA R fr w
 refine wpAny_Assign_Subscript (wpAny_mono (hv env A γ H s L _ _ hE hA R fr.l w) (fun v s1 p => ?_) fun _ _ x => x.toE fr R) (hw env)
 refine e3_4 p fun γ1 V H1 st R1 rv q => ?_
 have fr1 := fr.stp R st
 refine wpAny_mono (ho env A γ1 H1 s1 L _ _ hE hA R1 fr1.l q) (fun ov s2 p => ?_) fun _ _ x => (x.toE fr1 R1).back st.weak R1 fr1
 refine e3_4 p fun γ2 Vo H2 st2 R2 ro q2 => ?_
 have fr2 := fr1.stp R1 st2
 refine wpAny_mono (hi env A γ2 H2 s2 L _ _ hE hA R2 fr2.l q2) (fun iv s3 p => ?_) fun _ _ x => (x.toE fr2 R2).back (st.trans0 R1 st2).weak R2 fr2
 refine e3_4 p fun γ3 Vi H3 st3 R3 ri q3 => ?_
 have fr3 := fr2.stp R2 st3
 have st03 := (st.trans0 R1 st2).trans0 R2 st3
 have rv3 := (rv.stp0 R1 st2).stp0 R2 st3
 have ro3 := ro.stp0 R2 st3
 refine e1_2 (oK_elim q3) fun j hj q3 => ?_
 rw [refV_some hj] at ro3
 refine e1_2 ro3 fun a ha e_191 => ?_
 obtain rfl := e_191
 cases Vi with
 | int m =>
  refine e1_3 (oK_elim q3) fun l hl hb q4 => ?_
  obtain ⟨u, rfl⟩ := ri
  refine e2_3 (R3.list ha hl) fun vs n e rs z => ?_
  have hlen := rs.length
  refine PySem.W.ki_setAt (items := vs.toArray) (n := n) e hb.1 (by lia) (by rw [List.size_toArray]; lia) ?_
  have e' := IsL.update e fun xs => xs.setIfInBounds m.toNat v
  have em : vs.toArray.setIfInBounds m.toNat v = (vs.set m.toNat v).toArray := by apply Array.toList_inj.mp; simp
  simp only [em] at e'
  have rs' : Reps D γ3 s3.heap (vs.set m.toNat v) (l.set m.toNat V) := by
   refine Reps.of_get (by rw [List.length_set, List.length_set, hlen]) fun y w W h1 h2 => ?_
   by_cases hy : m.toNat = y
   ·subst hy
    rw [List.getElem?_set_self (by lia)] at h1 h2
    obtain rfl := Option.some.inj h1
    obtain rfl := Option.some.inj h2
    exact rv3
   ·rw [List.getElem?_set_ne hy] at h1 h2
    refine e1_2 (rs.get h2) fun w' hw' rw' => ?_
    rw [h1] at hw'; obtain rfl := Option.some.inj hw'; exact rw'
  have hk : ∀ b o', b ≠ a → s3.heap.get? b = some o' → (s3.heap.update a (Obj.mapSeq fun xs => xs.setIfInBounds m.toNat v)).get? b = some o' := fun b o' hb q => (Heap.SameBut.update ..).extBut b o' hb q
  have st4 := stp_set (s := s3) (tk := s3.toks) ha hk
  exact ⟨γ3, _, L, .next, (st03.trans0 R3 st4).weak, R3.setList ha rs' (by rw [List.length_set, ← hlen]; exact z) e' hk, fr3.stp R3 st4, rfl, q4⟩
 | str x =>
  refine e1_3 (oK_elim q3) fun es he hb q4 => ?_
  refine e1_2 ri fun u e_192 _ => ?_
  obtain rfl := e_192
  refine e1_3 (R3.dict ha he) fun kvs hd hf hz => ?_
  refine wpAny_setItem_pairs (knd := strKind D.prog D.w) (k := x) (isStr (t := u)) hd (fun h' hd' hs => ?_) (by rw [sizeLine_eq]; lia)
  have hk : ∀ b o', b ≠ a → s3.heap.get? b = some o' → h'.get? b = some o' := fun b o' hb q => hs.extBut b o' hb q
  have st4 := stp_set (s := s3) (tk := s3.toks + 1) ha hk
  refine ⟨γ3, _, L, .next, (st03.trans0 R3 st4).weak, R3.setObj (o := .dict ((x, V) :: es)) ha hk fun ht => ⟨_, hd', ?_, ?_⟩, fr3.stp R3 st4, rfl, q4⟩
  ·rw [show valueAt (stored kvs x v) = fun y => if y = x then some v else valueAt kvs y from funext fun y => valueAt_stored kvs x v y]
   exact (hf.mono ⟨[], by simp⟩ ht).cons (Rep.mono ⟨[], by simp⟩ ht rv3)
  ·exact Nat.le_trans (stored_length_le _ _ _) (Nat.succ_le_succ hz)
 | _ => exact q3.elim
theorem s_setAttr {o value : Expr} {x : Str} {pos' pos : Pos} {io iv : IE} (g : GOk D c.G c.mts) (hx : fldOk x = true) (hv : SE D Φ k c value iv) (ho : SE D Φ k c o io) (hw : ∀ env, swapsWith value (some (.Attribute o x pos')) pos.line env = pure false) :
  SS D Φ k c (.Assign [.Attribute o x pos'] value pos) (.setAttr io x iv) := by
 intro env A γ H s L Q X hE hA R fr w
 refine plainObj_wpAny_Assign_Attribute (wpAny_mono (hv env A γ H s L _ _ hE hA R fr.l w) (fun v s1 p => ?_) fun _ _ x => x.toE fr R) (hw env)
 refine e3_4 p fun γ1 V H1 st R1 rv q => ?_
 have fr1 := fr.stp R st
 refine wpAny_mono (ho env A γ1 H1 s1 L _ _ hE hA R1 fr1.l q) (fun ov s2 p => ?_) fun _ _ x => (x.toE fr1 R1).back st.weak R1 fr1
 refine e3_4 p fun γ2 Vo H2 st2 R2 ro q2 => ?_
 have fr2 := fr1.stp R1 st2
 have st02 := st.trans0 R1 st2
 have rv2 := rv.stp0 R1 st2
 refine e1_2 (oK_elim q2) fun i hi q3 => ?_
 rw [refV_some hi] at ro
 refine e1_3 (oK_elim q3) fun pr hp hb q4 => ?_
 refine e1_2 ro fun a ha e_193 => ?_
 obtain rfl := e_193
 obtain ⟨o', dx, m, e, hc, hd, hj, I, hf, hno⟩ := inst_at R2 ha hp
 obtain ⟨N, nm, qn, bs, sn, sub, col, dd, k0, k1, k2, k3, k5, hC, hN⟩ := g.bk.cls
 have hne : a ≠ D.bk := fun q => by
  have := R2.fresh a (List.mem_of_getElem? ha)
  rw [q, hC] at this; exact no_some this.symm
 have hwi : PySem.Within m (pr.2.map (·.1)) := fun y hy => by
  cases hl : pr.2.lookup y with
  | none => exact absurd (hf.2 y hl) hy
  | some V => exact List.mem_map.mpr ⟨(y, V), mem_of_lookup hl, rfl⟩
 obtain ⟨hh, gg, d, t, os⟩ := s2
 refine store_attr F.store_object (R2.base _ _ hC) (hN.keeps R2.base) g.bk.noS (g.bk.noF x hx) (fld_obj hx) hne I (fun h' tk' I' hk hsame => ?_) hwi (by rw [List.length_map, sizeLine_eq]; lia)
 obtain ⟨o1, e1, c1, d1, s1', dd1⟩ := hsame o' e
 have eo : o1 = o' := by
  obtain ⟨a1, a2, a3, a4⟩ := o1
  obtain ⟨b1, b2, b3, b4⟩ := o'
  obtain rfl : a1 = b1 := c1
  obtain rfl : a3 = b3 := d1
  obtain rfl : a4 = b4 := s1'
  obtain rfl : b2 = some dx := hd
  rw [show a2 = some dx from dd1 dx rfl]
 rw [eo] at e1
 have hk2 : ∀ b ob, b ≠ dx → hh.get? b = some ob → h'.get? b = some ob := fun b ob hb eb => by
  by_cases hba : b = a
  ·subst hba
   rw [e1, ← e]; exact eb
  ·exact hk b ob hba (fun o₀ dy h1 h2 => by
    rw [e] at h1
    obtain rfl := Option.some.inj h1
    rw [hd] at h2
    obtain rfl := Option.some.inj h2
    exact hb) eb
 have st4 := stp_set (s := ⟨hh, gg, d, t, os⟩) (tk := tk') hj hk2
 refine ⟨γ2, _, L, .next, (st02.trans0 R2 st4).weak, R2.setObj hj hk2 fun ht => ?_, fr2.stp R2 st4, rfl, q4⟩
 refine e1_4 I' fun o2 e2 _ _ hd2 => ?_
 rw [e1] at e2
 obtain rfl := Option.some.inj e2
 rcases hd2 with ⟨q, _⟩ | ⟨d', q, _, hn'⟩
 ·rw [hd] at q; exact no_some q.symm
 rw [hd] at q
 obtain rfl := Option.some.inj q
 refine ⟨_, hn', (hf.mono ⟨[], by simp⟩ ht).cons (Rep.mono ⟨[], by simp⟩ ht rv2), fun y hy => ?_⟩
 have hxy : y ≠ x := fun q => by rw [q, hx] at hy; exact Bool.noConfusion hy
 rw [if_neg hxy]; exact hno y hy
theorem s_assign_comp {n : Nat} {elt iter tgt : Expr} {y : Str} {py pos spos : Pos} {scope : Scope} {ielt : IE} {kk : SrcK} {ss ie : IE} {i : Nat} {c' : CC} {bdf : Lc → V → Option Lc} (g : GOk D c.G c.mts) (so : SlotsOk c)
  (ih : ∀ c e ie, GOk D c.G c.mts → compE n c e = some ie → Both D Φ k c e ie) (cg : CompG D k c scope tgt c' bdf)
  (hsrc : compSrc (compE n c) c iter = some (kk, ss)) (hce : compE n c' elt = some ielt) (hset : ∀ env x, foldedSetIterable iter env x = pure x) (hs : slotV c y = some i) (hie : wp2 Φ ie = compW Φ ss kk ielt bdf) :
  SS D Φ k c (.Assign [.Name y py] (.ListComp elt [⟨tgt, iter, [], 0⟩] scope pos) spos) (.assign i ie) := by
 intro env A γ H s L Q X hE hA R fr w
 have hsw : ∃ b, swapsWith (.ListComp elt [⟨tgt, iter, [], 0⟩] scope pos) (some (.Name y py)) spos.line env = pure b := ⟨_, rfl⟩
 obtain ⟨b, hb⟩ := hsw
 cases b with
 | false =>
  refine wpAny_Assign_Name (wpAny_mono ((e_comp g ih cg hsrc hce hset hie).1 env A γ H s L _ _ hE hA R fr.l w) (fun v s1 p => ?_) fun _ _ x => x.toE fr R) hb
  refine e3_4 p fun γ1 V H1 st R1 rv q => ?_
  refine wpAny_mono (store_ok hE so R1 (fr.stp R st) hs rv) (fun _ s2 p => ?_) fun _ _ x => x
  refine e0_3 p fun st2 R2 fr2 => ?_
  exact ⟨γ1, H1, _, .next, st.weak.transF R1 st2 (fr.stp R st).alive, R2, fr2, rfl, q⟩
 | true =>
  have w : (wp2 Φ ie).E L H (fun v H1 => Q .next (L.set i (some v)) H1) (fun x => X x L) := w
  rw [hie] at w
  rw [exec_Assign_Name_used _ _ _ _ hb]
  refine wpAny_bind (wpAny_standAt (wpAny_bind ?_))
  show wpAny _ A (do let _ ← comprehension (.ListComp elt [⟨tgt, iter, [], 0⟩] scope pos) scope env _ (newList []) false (eval iter env) (some (assign (.Name y py) env))) _ _ s
  refine wpAny_bind (wpAny_mono (comp_run (use := some (assign (.Name y py) env)) (Qf := fun _ s' => PostF D γ s env c.slots Q .next s') g ih cg hsrc hce hE hA R fr.l (hset env) w ?_) (fun _ s' hq => wpAny_pure (wpAny_pure hq)) fun _ _ x => x.toE fr R)
  intro γ' H' s' Dd C acc stp R' ho dn d0 hc cn c0 hdc hK
  refine e2_2 ho fun ys ny hy ry => ?_
  obtain ⟨m, hm⟩ := hc
  have dB := base_none R d0
  have R2 := R'.adoptList ry (by have := hK.1; lia) dn dB (R.frs.ne d0) hy
  have fr' := fr.stp R stp
  have stp2 : Stp [] γ (γ' ++ [Dd]) s s' := by
   refine ⟨stp.same, stp.keepS, ?_⟩
   refine e1_2 (stp.ext) fun δ e f => ?_
   refine ⟨δ ++ [Dd], by rw [e]; simp, fun b hb => ?_⟩
   rcases List.mem_append.mp hb with q | q
   ·exact f b q
   ·simp at q; subst q; exact d0
  have fr2 : FRel D (γ' ++ [Dd]) env c.slots s'.heap L := fr.stp R stp2
  show wpAny D.M A (assign (.Name y py) env (.ref Dd)) _ _ s'
  refine wpAny_assign_Name (wpAny_mono (store_ok (W := .ref H'.length) hE so R2 fr2 hs (Exists.intro _ ⟨by rw [List.getElem?_append_right (by rw [R'.len]; exact Nat.le_refl _)]; simp [R'.len], rfl⟩)) (fun _ s2 p => ?_) fun _ _ x => x)
  refine e0_3 p fun st3 R3 fr3 => ?_
  have hCown : C ∉ ownA env := fun hm' => by
   obtain ⟨o, e⟩ := fr.alive C hm'
   rw [c0] at e; cases e
  have cn2 : C ∉ γ' ++ [Dd] := by
   intro q
   rcases List.mem_append.mp q with q | q
   ·exact cn q
   ·exact hdc (List.mem_singleton.mp q).symm
  have hm3 : s2.heap.Ns C m := st3.ns cn2 hCown hm
  refine ⟨m, hm3, fun h' hs' => ?_⟩
  have hk : ∀ b o, b ≠ C → s2.heap.get? b = some o → h'.get? b = some o := fun b o hb e => hs'.extBut b o hb e
  have nt := notTup_dict hm3
  have fr4 : FRel D (γ' ++ [Dd]) env c.slots h' (L.set i (some (.ref H'.length))) := fr3.butN hk hCown nt
  refine ⟨γ' ++ [Dd], _, _, .next, ?_, R3.but hk cn2 (base_none R c0) nt (.inr (.inr (R.frs.ne c0))), fr4, rfl, hK.2⟩
  have st4 := stp2.weak.transF R2 st3 fr2.alive
  refine ⟨?_, fun b o hb hw e => let ⟨sl, e', q⟩ := st4.keepS b o hb hw e; ⟨sl, hk b _ (by rintro rfl; rw [c0] at e; exact no_some e) e', q⟩, st4.ext⟩
  refine e2_1 (st4.same) fun h4 t4 e4 => ?_
  rw [e4]; exact ⟨_, _, rfl⟩
theorem s_if {t : Expr} {a b : List Stmt} {pos : Pos} {it : IE} {ia ib : List IS} (ht : ST D Φ k c t it) (ha : SSs D Φ k c a ia) (hb : SSs D Φ k c b ib) : SS D Φ k c (.If t a b pos) (.ite it ia ib) := by
 intro env A γ H s L Q X hE hA R fr w
 refine wpAny_If (wpAny_mono (ht env A γ H s L _ _ hE hA R fr.l w) (fun v s1 p => ?_) fun _ _ x => x.toE fr R)
 refine e2_3 p fun γ1 H1 st R1 q => ?_
 cases v with
 | true => exact wpAny_mono (ha env A γ1 H1 s1 L Q X hE hA R1 (fr.stp R st) q) (fun _ _ x => x.back st.weak R1 (fr.stp R st)) fun _ _ x => x.back st.weak R1 (fr.stp R st)
 | false => exact wpAny_mono (hb env A γ1 H1 s1 L Q X hE hA R1 (fr.stp R st) q) (fun _ _ x => x.back st.weak R1 (fr.stp R st)) fun _ _ x => x.back st.weak R1 (fr.stp R st)
theorem s_while {t : Expr} {b : List Stmt} {pos : Pos} {it : IE} {ib : List IS} (ht : ST D Φ k c t it) (hb : SSs D Φ k c b ib) : SS D Φ k c (.While t b [] pos) (.while it ib) := by
 intro env A γ H s L Q X hE hA R fr w
 obtain ⟨n, w⟩ := w
 obtain ⟨Iv, hIv⟩ : ∃ Iv : Nat → Shared → Prop, Iv = fun m s' => ∃ γ' H' L', Stp (ownA env) γ γ' s s' ∧ HRel D γ' H' s'.heap ∧ FRel D γ' env c.slots s'.heap L' ∧
  whileGo (fun L' H' K => (wp2 Φ it).T L' H' K noX) (fun L' H' K => wpSs Φ ib L' H' K noXS) m L' H' Q := ⟨_, rfl⟩
 refine wpAny_While (codeAny_whileLoop Iv ?_ n (by rw [hIv]; exact ⟨γ, H, L, Stp.refl, R, fr, w⟩))
 intro m s' hI
 rw [hIv] at hI
 refine e3_4 hI fun γ' H' L' st R' fr' w => ?_
 cases m with
 | zero => exact w.elim
 | succ m =>
  refine wpAny_mono (ht env A γ' H' s' L' _ _ hE hA R' fr'.l w) (fun v s1 p => ?_) fun _ _ x => x.no.elim
  refine e2_3 p fun γ1 H1 st1 R1 q => ?_
  have st01 : Stp (ownA env) γ γ1 s s1 := st.transF R' st1.weak fr'.alive
  have fr1 := fr'.stp R' st1
  cases v with
  | true =>
   refine wpAny_mono (hb env A γ1 H1 s1 L' _ noXS hE hA R1 fr1 q) (fun fl s2 p => ?_) fun _ _ x => x.no.elim
   refine e4_5 p fun γ2 H2 L2 F st2 R2 fr2 hf q2 => ?_
   have st02 := st01.transF R1 st2 fr1.alive
   cases F with
   | next => obtain rfl := hf; exact ⟨m, Nat.lt_succ_self _, by rw [hIv]; exact ⟨γ2, H2, L2, st02, R2, fr2, q2⟩⟩
   | ret V => obtain ⟨v, rfl, rv⟩ := hf; exact ⟨γ2, H2, L2, .ret V, st02, R2, fr2, ⟨v, rfl, rv⟩, q2⟩
  | false => exact wpAny_execs_nil ⟨γ1, H1, L', .next, st01, R1, fr1, rfl, q⟩
theorem s_for {n : Nat} {x : Str} {px pos : Pos} {iter : Expr} {b : List Stmt} {kk : SrcK} {ss : IE} {ib : List IS} {i : Nat} (g : GOk D c.G c.mts) (so : SlotsOk c) (ih : ∀ e ie, compE n c e = some ie → SE D Φ k c e ie) (hs : slotV c x = some i)
  (hsrc : compSrc (compE n c) c iter = some (kk, ss)) (hb : SSs D Φ k c b ib) : SS D Φ k c (.For (.Name x px) iter b [] pos) (.for i kk ss ib) := by
 intro env A γ H s L Q X hE hA R fr w
 refine wpAny_For (wpAny_mono (src_ok (K := fun l st H1 => forGo (fun L' H' K => wpSs Φ ib L' H' K X) st i l L H1 Q) g ih hsrc hE hA R fr.l w) (fun xv s1 h1 => wpAny_mono h1 (fun it s2 h2 => ?_) fun _ _ x => x.toE fr R) fun _ _ x => x.toE fr R) (noSetIter hsrc env)
 refine e7_10 h2 fun γ2 H2 I fp l st Inv e_194 stp2 R2 itr iv fps hI0 hst hlen w2 => ?_
 obtain rfl := e_194
 have fr2 := fr.stp R stp2
 have IB := base_none R hI0
 have fpo : ∀ b ∈ fp, b ∉ ownA env := fun b hb hm => by
  rcases (fps b hb).2.2 with q | ⟨ws, q⟩
  ·subst q; obtain ⟨o, e⟩ := fr.alive _ hm; rw [hI0] at e; cases e
  ·exact (fr2.own b hm).2.2.2 ws q
 obtain ⟨Iv, hIv⟩ : ∃ Iv : Nat → Shared → Prop, Iv = fun m s' => ∃ j γ' H' L', m = l.length - j ∧ j ≤ l.length ∧ Stp (ownA env) γ γ' s s' ∧ HRel D γ' H' s'.heap ∧ FRel D γ' env c.slots s'.heap L' ∧ Inv γ' j s'.heap ∧ st H' ∧ (∀ b ∈ fp, b ∉ γ' ∧ ∃ o, s'.heap.get? b = some o) ∧
  forGo (fun L' H' K => wpSs Φ ib L' H' K X) st i (l.drop j) L' H' Q := ⟨_, rfl⟩
 refine codeAny_forLoop Iv ?_ l.length (by rw [hIv]; exact ⟨0, γ2, H2, L, rfl, Nat.zero_le _, stp2.weak, R2, fr2, iv, hst, fun b hb => ⟨(fps b hb).1, (fps b hb).2.1⟩, w2⟩)
 intro m s' hI
 rw [hIv] at hI
 obtain ⟨j, γ', H', L', rfl, hj, st', R', fr', iv', hst', fp', w'⟩ := hI
 have hIg : I ∉ γ' := (fp' I itr.mem).1
 have nt := fun ws => itr.notTup γ' j s'.heap ws iv'
 have hIo : I ∉ ownA env := fpo I itr.mem
 have change : ∀ {h1 : Heap} {tk : Nat}, (∀ b o, b ≠ I → s'.heap.get? b = some o → h1.get? b = some o) → Stp (ownA env) γ γ' s { s' with heap := h1, toks := tk } ∧ HRel D γ' H' h1 ∧ FRel D γ' env c.slots h1 L' := by
  intro h1 tk hk
  exact ⟨st'.butF hk hI0, R'.but hk hIg IB nt (.inr (.inr (R.frs.ne hI0))), fr'.butN hk hIo nt⟩
 by_cases hlt : j < l.length
 ·have hW : l[j]? = some l[j] := by simp [hlt]
  rw [List.drop_eq_getElem_cons hlt] at w'
  refine itr.next γ' H' s' j _ _ _ hW R' hIg hst' iv' fun v h1 tk1 hI1 hk1 iv1 rv1 => ?_
  refine e0_3 (change (tk := tk1) hk1) fun stc Rc frc => ?_
  show wpAny D.M A (assign (.Name x px) env v) _ _ _
  refine wpAny_assign_Name (wpAny_mono (store_ok (s := { s' with heap := h1, toks := tk1 }) hE so Rc frc hs rv1) (fun _ s3 p => ?_) fun _ _ x => x)
  refine e0_3 p fun st3 R3 fr3 => ?_
  have stc3 : Stp (ownA env) γ γ' s s3 := stc.transF (s1 := { s' with heap := h1, toks := tk1 }) Rc st3 (FRel.alive (s := { s' with heap := h1, toks := tk1 }) frc)
  have tt3 : ∀ a ws, TupAt h1 a ws → TupAt s3.heap a ws := fun a ws q => TupAt.stp (s := { s' with heap := h1, toks := tk1 }) Rc st3 (fun x hx => (frc.own x hx).2.2.2) q
  have fp1 : ∀ b ∈ fp, b ∉ γ' ∧ ∃ o, h1.get? b = some o := fun b hb => by
   refine ⟨(fp' b hb).1, ?_⟩
   by_cases hbI : b = I
   ·subst hbI; exact hI1
   ·obtain ⟨o, e⟩ := (fp' b hb).2; exact ⟨o, hk1 _ _ hbI e⟩
  have fp3 : ∀ b ∈ fp, b ∉ γ' ∧ ∃ o, s3.heap.get? b = some o := fun b hb => by
   obtain ⟨a, o, e⟩ := fp1 b hb
   exact ⟨a, o, st3.keep b o a (fpo b hb) (itr.nd γ' (j + 1) h1 iv1 b hb o e) e⟩
  have iv3 : Inv γ' (j + 1) s3.heap := itr.frame γ' γ' (j + 1) h1 s3.heap iv1 ⟨[], by simp⟩ (fun b hb o e => st3.keep b o (fp1 b hb).1 (fpo b hb) (itr.nd γ' (j + 1) h1 iv1 b hb o e) e) tt3
  refine wpAny_mono (hb env A γ' H' s3 _ _ X hE hA R3 fr3 w') (fun fl s4 p => ?_) fun _ _ x => held_back hA R fr.alive (x.back stc3 R3 fr3)
  refine e4_5 p fun γ4 H4 L4 F st4 R4 fr4 hf q4 => ?_
  have stc4 := stc3.transF R3 st4 fr3.alive
  have ext4 : ∃ δ, γ4 = γ' ++ δ := let ⟨δ, e, _⟩ := st4.ext; ⟨δ, e⟩
  have tt4 : ∀ a ws, TupAt s3.heap a ws → TupAt s4.heap a ws := fun a ws q => TupAt.stp R3 st4 (fun x hx => (fr3.own x hx).2.2.2) q
  have go : st H4 ∧ forGo (fun L' H' K => wpSs Φ ib L' H' K X) st i (l.drop (j + 1)) L4 H4 Q → ∃ m, m < l.length - j ∧ Iv m s4 := fun q => by
   refine ⟨l.length - (j + 1), by lia, ?_⟩
   rw [hIv]
   refine ⟨j + 1, γ4, H4, L4, rfl, hlt, stc4, R4, fr4, ?_, q.1, ?_, q.2⟩
   ·exact itr.frame γ' γ4 (j + 1) s3.heap s4.heap iv3 ext4 (fun b hb o e => st4.keep b o (fp3 b hb).1 (fpo b hb) (itr.nd γ' (j + 1) s3.heap iv3 b hb o e) e) tt4
   ·intro b hb
    obtain ⟨a, o, e⟩ := fp3 b hb
    have e' := st4.keep b o a (fpo b hb) (itr.nd γ' (j + 1) s3.heap iv3 b hb o e) e
    refine ⟨?_, o, e'⟩
    refine e1_2 (st4.ext) fun δ ed fd => ?_
    subst ed
    intro q
    rcases List.mem_append.mp q with q | q
    ·exact a q
    ·rw [fd b q] at e; cases e
  cases F with
  | next => obtain rfl := hf; exact go q4
  | ret V => obtain ⟨v, rfl, rv⟩ := hf; exact ⟨γ4, H4, L4, .ret V, stc4, R4, fr4, ⟨v, rfl, rv⟩, q4⟩
 ·have hin : j = l.length := by lia
  subst hin
  rw [List.drop_length] at w'
  refine itr.done γ' H' s' _ _ R' hst' iv' fun h1 tk1 hk1 => ?_
  refine e0_3 (change (tk := tk1) hk1) fun stc Rc frc => ?_
  exact wpAny_execs_nil ⟨γ', H', L', .next, stc, Rc, frc, rfl, w'⟩
end
end Mine
namespace Mine
open PySem PyProof.Rows
section
variable {D : Wd} {γ γ0 : List Addr} {H H0 : Hp} {s s1 : Shared} {env : Env} {outer : List Env} {A : Around} {E : Value → Shared → Prop} {v : Value} {x : Exc} {La : Addr} {Q : Unit → Shared → Prop}
theorem leave_any (hfr : A.frames = some D.fr) (R0 : HRel D γ0 H0 s.heap) (R : HRel D γ H s1.heap) (htop : D.fr = env :: outer) (hf : env.frame = some La) (hx : XNew D γ s s1.heap v x ∨ XFly D γ s s1.heap v x)
  (h : ∀ a C a0 ex h', v = .ref a → D.mg x.cls = some (.ref C) → s.heap.get? a = none → a ∈ ex → ExF D γ s s1.heap ex → Land ex s1.heap h' → h'.TracedW (PySem.W.hideAll s1.heap ex) a (.ref C) a0 → Q () { s1 with heap := h' }) :
  wpAny D.M A (leaving env v) Q E s1 := by
 unfold leaving
 refine wpAny_bind (note_any hfr R0 R htop hf hx fun a C a0 ex h' e1 hm hn hax X up hh => ?_)
 subst e1
 exact lands hh fun h2 ⟨k1, k2, k3, k4⟩ up2 => h a C a0 ex h2 rfl hm hn hax X (Land.of k1 (up.trans up2)) k4
end
end Mine
namespace Mine
open PySem PyProof.Rows PySem.Spec
theorem glob_ok {D : Wd} {c : CC} {env : Env} {A : Around} {γ : List Addr} {H : Hp} {s : Shared} {Q : Value → Shared → Prop} {E : Value → Shared → Prop} {x : Str} {pos : Pos} {W : V} (g : GOk D c.G c.mts) (he : EnvOk c env) (R : HRel D γ H s.heap)
  (hc : globV c x = some W) (h : ∀ v, Rep D γ s.heap v W → Q v s) : wpAny D.M A (eval (.Name x pos) env) Q E s := by
 refine e1_2 (Option.bind_eq_some_iff.mp hc) fun kk hk hc => ?_
 obtain ⟨hd, hk⟩ := onlyIf_some hk
 have hkf : env.scope.kind = .function := by rw [he.scope]; exact he.kind
 have hk' : env.kindOf x = some kk := by unfold Env.kindOf; rw [he.scope]; exact hk
 cases kk with
 | globalImplicit =>
  refine e1_2 (g.val x W hc) fun v hv rv => ?_
  refine Calls.Name_function_global hkf hk' ?_ (bnot hd)
  have rr : Rep D γ s.heap v W := Rep.mono ⟨[], by simp⟩ (fun _ _ => tupAt_grow R.base) (rv γ)
  rcases hv with hv | ⟨hv1, hv2⟩
  ·exact Calls.loadGlobal_global (by rw [he.globals]; exact g.gns.keeps R.base) hv (h v rr)
  ·exact Calls.loadGlobal_builtin (by rw [he.globals]; exact g.gns.keeps R.base) hv1 (by rw [he.builtins]; exact g.bns.keeps R.base) hv2 (h v rr)
 | _ => exact no_some hc
theorem globV_lookup {c : CC} {x : Str} {W : V} (hz : globV c x = some W) : c.G.lookup x = some W := by
 refine e1_2 (Option.bind_eq_some_iff.mp hz) fun kk _ h => ?_
 cases kk with
 | globalImplicit => exact h
 | _ => exact no_some h
theorem ownC_some {c : CC} {y : Str} {ups : List Str} (h : ownC c y = some ups) : globV c y = some (.cls y ups) := by
 refine e1_2 (Option.bind_eq_some_iff.mp h) fun u h1 h => ?_
 refine e1_2 (Option.bind_eq_some_iff.mp h1) fun V hV h1 => ?_
 obtain ⟨h2, h⟩ := onlyIf_some h
 cases V with
 | cls z us =>
  obtain rfl := Option.some.inj h1
  obtain rfl := Option.some.inj h
  rw [hV, ← eq_of_beq h2]
 | _ => exact no_some h1
end Mine
namespace Mine
open PySem PyProof.Rows
section
variable {D : Wd} {Φ : Orc} {k : Nat} {c : CC}
theorem s_raise (g : GOk D c.G c.mts) {x : Str} {np cpos pos kp : Pos} {kk : Const} {kn : Nat} {W : V} {ups : List Str} (hg : globV c x = some (.cls x ups)) (hk : constV kk = some W) :
  SS D Φ k c (.Raise (some (.Call (.Name x np) [.Constant kk kn kp] [] cpos)) none pos) (.raise x ups) := by
 intro env A γ H s L Q X hE hA R fr w
 have hex : (x, ups) ∈ D.ex := g.cls x x ups (globV_lookup hg)
 refine e2_3 (g.exs _ _ hex) fun C bm hmg hat hcon => ?_
 obtain ⟨N, nm, q, bs, hdct, sn, sub, ab, col, dd, k0, k1, k2, k3, k5, mN, hC, hN, hmN, T⟩ := id hat
 have e1 : backTo cpos (starEach [.Constant kk kn kp] env) = [(false, eval (.Constant kk kn kp) env)] := by rw [starEach_of (by rfl)]; rfl
 refine wpAny_Raise_call_subT (nm := nm) (q := q) (C := C) (N := N) (bs := bs) (hdct := hdct) (sn := sn) (sub := sub) (ab := ab) (col := col) (dd := dd) (k0 := k0) (k1 := k1) (k2 := k2) (k3 := k3) (k5 := k5) F.excBase_ValueError (T.hasType rfl) hA.handled (by rw [e1]; rfl) (hmN) (glob_ok g hE R hg fun v r => ?_)
 refine e1_2 r fun C' e_196 hC' => ?_
 obtain rfl := e_196
 rw [hmg] at hC'; cases hC'
 refine ⟨rfl, ?_⟩
 rw [e1]
 refine Calls.evalArgs_plain (Calls.spliced_cons (wpAny_mono (const_ok (Q := fun _ H' => H' = H) (X := fun x => X x L) R hk rfl) (fun v s1 p => Calls.spliced_nil ?_) fun _ _ p => p.toE fr R))
 refine e3_4 p fun γ1 V H1 st R1 rv e_197 => ?_
 obtain rfl := e_197
 refine ⟨rfl, by rw [sizeLine_eq]; simp, R1.base _ _ hC, hN.keeps R1.base, T.keeps R1.base, fun h' e hm => ?_⟩
 refine e1_3 (hm.there) fun t ht _ _ => ?_
 have st2 : Stp [] γ1 γ1 s1 { s1 with heap := h' } := stp_grow (tk := s1.toks) hm.keeps
 have st3 := st.trans0 R1 st2
 exact ⟨γ1, _, L, ⟨x, ups⟩, st3.weak, R1.grow hm.keeps, fr.stp R st3, ⟨.inl ⟨e, _, _, C, .ref t, rfl, fresh_back st R1 hm.new, ht, rfl, hmg, rfl, rfl, rfl, (R1.nin hm.new).1⟩, hex⟩, w⟩
theorem ret_ok {env : Env} {A : Around} {E : Value → Shared → Prop} {γ : List Addr} {H : Hp} {s : Shared} {L : Lc} {e : Expr} {ie : IE} {V : V} (hE : EnvOk c env) (R : HRel D γ H s.heap) (f : FRel D γ env c.slots s.heap L) (hc : compR c e = some ie) (hv : evR L ie = some V) :
  wpAny D.M A (eval e env) (PostV D γ s fun V' H' => V' = V ∧ H' = H) E s := by
 unfold compR at hc
 cases hn : isNm e with
 | true =>
  rw [hn] at hc
  refine e2_2 (onName_some (show onName e _ = some ie from hc)) fun x p e_198 hc => ?_
  obtain rfl := e_198
  obtain ⟨h0, hc⟩ := onlyIf_some hc
  refine e1_2 (Option.map_eq_some_iff.mp hc) fun i hi e_199 => ?_
  obtain rfl := e_199
  rw [Bool.and_eq_true] at h0
  refine e1_2 (Option.bind_eq_some_iff.mp (show L[i]?.bind id = some V from hv)) fun o0 hL hv => ?_
  have hL : L[i]? = some (some V) := by rw [hL]; exact congrArg some hv
  have hkf : env.scope.kind = .function := by rw [hE.scope]; exact hE.kind
  have hk' : env.kindOf x = some .local := by unfold Env.kindOf; rw [hE.scope]; exact eq_of_beq h0.1
  refine e1_2 (f.l.ns) fun m hm fm => ?_
  refine e1_2 (fm x i _ hk' hi hL) fun v hv rv => ?_
  exact wpAny_Name (wpAny_loadName_local hkf hk' hm hv (PostV.here R rv ⟨rfl, rfl⟩)) (bnot h0.2)
 | false =>
  rw [hn] at hc
  refine e3_2 (onConst_some (show onConst e _ = some ie from hc)) fun kc n p e_200 hc => ?_
  obtain rfl := e_200
  refine e1_2 (Option.map_eq_some_iff.mp hc) fun W hW e_201 => ?_
  obtain rfl := e_201
  obtain rfl := Option.some.inj (show some W = some V from hv)
  exact wpAny_mono (const_ok (Q := fun V' H' => V' = W ∧ H' = H) (X := noX) R hW ⟨rfl, rfl⟩) (fun _ _ p => p) fun _ _ p => p.no.elim
theorem compH_inv {h : ExceptHandler} {ih : Str × IE} (hc : compH c h = some ih) :
  ∃ yp hp ups e rp, globV c ih.1 = some (.cls ih.1 ups) ∧ h = .ExceptHandler (some (.Name ih.1 yp)) none [.Return (some e) rp] hp ∧ compR c e = some ih.2 := by
 obtain ⟨ty, nm, body, p⟩ := h
 obtain ⟨h0, hc⟩ := onlyIf_some (show onlyIf nm.isNone _ = some ih from hc)
 obtain rfl := Option.isNone_iff_eq_none.mp h0
 refine e1_2 (Option.bind_eq_some_iff.mp hc) fun t e_202 hc => ?_
 obtain rfl := e_202
 refine e2_2 (onName_some hc) fun y yp e_203 hc => ?_
 obtain rfl := e_203
 refine e1_2 (Option.bind_eq_some_iff.mp hc) fun ups hu hc => ?_
 refine e1_2 (on1_some hc) fun st e_204 hc => ?_
 obtain rfl := e_204
 refine e2_2 (onRet_some hc) fun e rp e_205 hc => ?_
 obtain rfl := e_205
 refine e1_2 (Option.map_eq_some_iff.mp hc) fun ie h1 e_206 => ?_
 obtain rfl := e_206
 exact ⟨yp, p, ups, e, rp, ownC_some hu, rfl, h1⟩
theorem handle_ok {env : Env} {A : Around} {E : Value → Shared → Prop} {γ γ1 : List Addr} {H1 : Hp} {s s1 : Shared} {L1 : Lc} {Q : QS} {x : Exc} {a C : Addr} {a0 : Value} {ex : List Addr} {h2 : Heap} (g : GOk D c.G c.mts) (hE : EnvOk c env)
  (alive : ∀ a ∈ ownA env, ∃ o, s.heap.get? a = some o) (st : Stp (ownA env) γ γ1 s s1) (R1 : HRel D γ1 H1 s1.heap) (f1 : FRel D γ1 env c.slots s1.heap L1) (hex : (x.cls, x.ups) ∈ D.ex) (hmg : D.mg x.cls = some (.ref C)) (XF : ExF D γ1 s s1.heap ex)
  (land : Land ex s1.heap h2) (fl : Heap.FlyingW (PySem.W.hideAll s1.heap ex) D.fr a (.ref C) a0 h2) :
  ∀ (hds : List ExceptHandler) (bs : List (Str × IE)), mapO (compH c) hds = some bs → hndl x L1 H1 Q bs →
   wpAny D.M A (handleBy (.ref a) env hds) (PostF D γ s env c.slots Q) E { s1 with heap := h2 }
 | [], bs, hb, w => by obtain rfl := Option.some.inj hb; exact w.elim
 | hd :: hds, bs, hb, w => by
  refine e2_3 (mapO_cons hb) fun b bs' e_207 hb1 hb2 => ?_
  obtain rfl := e_207
  obtain ⟨yp, hp, ups, e, rp, hy, rfl, hcr⟩ := compH_inv hb1
  refine e2_3 (g.exs _ _ hex) fun C' bm hmg' hat hcon => ?_
  rw [hmg] at hmg'; cases hmg'
  have hexy := g.cls _ _ _ (globV_lookup hy)
  refine e2_3 (g.exs _ _ hexy) fun Cy bmy hmgy haty _ => ?_
  have R2 := land.rel R1 XF
  refine e1_2 (fl.there) fun oe he hc => ?_
  refine wpAny_handleBy_cons (codeAny_handlers_test (glob_ok g hE R2 hy fun v rv => ?_)) (by intro q; cases q)
  refine e1_2 rv fun Cy' e_209 hy' => ?_
  obtain rfl := e_209
  rw [hmgy] at hy'; cases hy'
  refine matchOwn (s := { s1 with heap := h2 }) (hat.keeps R2.base) (haty.keeps R2.base) he hc ?_
  rw [hcon _ ups Cy hexy hmgy]
  have w : ifP (x.ups.contains b.1) (oK (evR L1 b.2) fun v => Q (.ret v) L1 H1) (hndl x L1 H1 Q bs') := w
  cases hu : x.ups.contains b.1 with
  | false => rw [hu] at w; exact handle_ok g hE alive st R1 f1 hex hmg XF land fl hds bs' hb2 w
  | true =>
   rw [hu] at w
   refine e1_2 (oK_elim w) fun V hV w => ?_
   refine codeAny_handlers_suite (lands_againW fl fun h3 fl3 up3 => ?_)
   have land3 : Land ex s1.heap h3 := Land.of fl3.1 (land.up.trans up3)
   have R3 := land3.rel R1 XF
   have f3 := land3.frel R1 XF alive f1
   refine wpAny_execs_cons (wpAny_Return_some (wpAny_mono (ret_ok (s := { s1 with heap := h3 }) hE R3 f3 hcr hV) (fun v s4 p => ?_) fun _ _ q => q))
   obtain ⟨γ4, V4, H4, st4, R4, rv, rfl, rfl⟩ := p
   exact ⟨γ4, _, L1, .ret _, (land3.stp R1.frs XF st).transF R3 st4.weak f3.alive, R4, f3.stp R3 st4, ⟨v, rfl, rv⟩, w⟩
theorem s_try {b : List Stmt} {ib : List IS} {hd : ExceptHandler} {hds : List ExceptHandler} {hs : List (Str × IE)} {pos : Pos} (g : GOk D c.G c.mts) (hb : SSs D Φ k c b ib) (hh : mapO (compH c) (hd :: hds) = some hs) :
  SS D Φ k c (.Try b (hd :: hds) [] [] pos) (.tryR ib hs) := by
 intro env A γ H s L Q X hE hA R fr w
 refine wpAny_Try_except (wpAny_mono (hb env A γ H s L Q _ hE hA R fr w) (fun fl s1 p => ?_) fun v s1 p => ?_)
 ·cases fl <;> first | exact p | exact wpAny_execs_nil p
 ·refine e4_5 p fun γ1 H1 L1 x st R1 fr1 e_212 q => ?_
  obtain ⟨hx, hex⟩ := e_212
  refine e1_2 (fr1.top) fun outer htop hfr => ?_
  refine note_any hA.frames R R1 htop hfr hx fun a C a0 ex h' e1 hmg hn hax XF up hh' => ?_
  subst e1
  refine lands hh' fun h2 fl up2 => ?_
  exact handle_ok g hE fr.alive st R1 fr1 hex hmg XF (Land.of fl.1 (up.trans up2)) fl (hd :: hds) hs hh q
end
end Mine
namespace Mine
open PySem PyProof.Rows
section
variable {D : Wd} {Φ : Orc} {k : Nat}
theorem noSwap {e : Expr} {n : Nat} {c : CC} {ie : IE} (h : compE n c e = some ie) (hl : ∀ a b d f, e ≠ .ListComp a b d f) (t : Option Expr) (l : Nat) (env : Env) : swapsWith e t l env = pure false := by
 cases e <;> first | rfl | exact absurd rfl (hl _ _ _ _) | (cases n <;> exact no_some h)
theorem s_assign_any (hO : OrcOk D k Φ) {n : Nat} {c : CC} (g : GOk D c.G c.mts) (so : SlotsOk c) {x : Str} {px pos : Pos} {e : Expr} {i : Nat} {ie : IE} (h1 : slotV c x = some i) (h2 : compE n c e = some ie) : SS D Φ k c (.Assign [.Name x px] e pos) (.assign i ie) := by
 by_cases hl : ∃ a b d f, e = .ListComp a b d f
 ·obtain ⟨elt, gens, scope, pos', rfl⟩ := hl
  cases n with
  | zero => exact no_some h2
  | succ n =>
   obtain ⟨tgt, iter, kk, ss, ielt, c', bdf, rfl, cg, e1, e2, hie⟩ := lc_inv (D := D) (Φ := Φ) (k := k) (show cLc (compE n) c elt gens scope = some ie from h2)
   exact s_assign_comp g so (fun c e ie g h => soundE hO n c e ie g h) cg e1 e2 (noSetIter e1) h1 hie
 ·exact s_assign so (soundE hO n c e ie g h2).1 h1 (fun env _ => noSwap h2 (fun a b d f q => hl ⟨a, b, d, f, q⟩) _ _ env)
theorem soundS (hO : OrcOk D k Φ) : ∀ (n : Nat) (c : CC) (st : Stmt) (is : IS), GOk D c.G c.mts → SlotsOk c → compS n c st = some is → SS D Φ k c st is := by
 intro n
 induction n with
 | zero => intro c st is g so h; exact no_some h
 | succ n ih =>
  intro c st is g so h
  have ihE : ∀ e ie, compE n c e = some ie → Both D Φ k c e ie := fun e ie h => soundE hO n c e ie g h
  have ihS := sss_of (f := compS n c) (fun st is h => ih c st is g so h)
  cases st with
  | Expr e p =>
   obtain ⟨hc, h⟩ := onlyIf_some h
   refine e1_2 (Option.map_eq_some_iff.mp h) fun a ha e_215 => ?_
   obtain rfl := e_215
   exact s_expr (ihE _ _ ha).1 (bnot hc)
  | Assign ts e p =>
   refine e1_2 (on1_some (show on1 ts _ = some is from h)) fun t e_216 h => ?_
   obtain rfl := e_216
   cases t with
   | Name x px =>
    refine e2_3 (oTwo_some (show oTwo IS.assign _ _ = some is from h)) fun a b h1 h2 e_217 => ?_
    obtain rfl := e_217
    exact s_assign_any hO g so h1 h2
   | Subscript o i p' =>
    obtain ⟨hc, h⟩ := onlyIf_some (show onlyIf (!isComp e) _ = some is from h)
    refine e3_4 (oThree_some h) fun a b d h1 h2 h3 e_218 => ?_
    obtain rfl := e_218
    exact s_set (ihE _ _ h1).1 (ihE _ _ h2).1 (ihE _ _ h3).1 (fun env => noSwap h1 (fun a b d f q => by subst q; exact Bool.noConfusion hc) _ _ env)
   | Attribute o x p' =>
    obtain ⟨hc, h⟩ := onlyIf_some (show onlyIf (!isComp e && fldOk x) _ = some is from h)
    rw [Bool.and_eq_true] at hc
    refine e2_3 (oTwo_some h) fun a b h1 h2 e_219 => ?_
    obtain rfl := e_219
    exact s_setAttr g hc.2 (ihE _ _ h1).1 (ihE _ _ h2).1 (fun env => noSwap h1 (fun a b d f q => by subst q; exact Bool.noConfusion hc.1) _ _ env)
   | _ => exact no_some h
  | Return e p =>
   refine e1_2 (Option.bind_eq_some_iff.mp h) fun e e_220 h => ?_
   obtain rfl := e_220
   obtain ⟨a, ha, rfl⟩ := Option.map_eq_some_iff.mp h; exact s_ret (ihE _ _ ha).1
  | If t a b p => obtain ⟨t, a, b, h1, h2, h3, rfl⟩ := oThree_some h; exact s_if (ihE _ _ h1).2 (ihS _ _ h2) (ihS _ _ h3)
  | While t b e p =>
   obtain ⟨h0, h⟩ := onlyIf_some h
   obtain rfl : e = [] := List.isEmpty_iff.mp h0
   obtain ⟨t, b, h1, h2, rfl⟩ := oTwo_some h; exact s_while (ihE _ _ h1).2 (ihS _ _ h2)
  | For t iter b e p =>
   obtain ⟨h0, h⟩ := onlyIf_some h
   obtain rfl : e = [] := List.isEmpty_iff.mp h0
   refine e2_2 (onName_some h) fun x px e_221 h => ?_
   obtain rfl := e_221
   obtain ⟨i, ks, b, h1, h2, h3, rfl⟩ := oThree_some h; exact s_for g so (fun e ie h => (ihE e ie h).1) h1 h2 (ihS _ _ h3)
  | Raise e d p =>
   refine e1_2 (Option.bind_eq_some_iff.mp (show (raiseOf e d).bind _ = some is from h)) fun e_222 hr h1 => ?_
   obtain ⟨x, kk⟩ := e_222
   obtain ⟨h0, h2⟩ := onlyIf_some h1
   obtain ⟨np, kn, kp, cp, rfl, rfl⟩ := raiseOf_some hr
   obtain ⟨W, hW⟩ := Option.isSome_iff_exists.mp h0
   refine e1_2 (Option.map_eq_some_iff.mp (show (ownC c x).map _ = some is from h2)) fun ups hu e_225 => ?_
   obtain rfl := e_225
   exact s_raise g (ownC_some hu) hW
  | Try b hs o f p =>
   obtain ⟨h0, h'⟩ := onlyIf_some h
   clear h
   rw [Bool.and_eq_true, Bool.and_eq_true] at h0
   obtain rfl : o = [] := List.isEmpty_iff.mp h0.1.1
   obtain rfl : f = [] := List.isEmpty_iff.mp h0.1.2
   refine e2_3 (oTwo_some h') fun a u h1 h2 e_226 => ?_
   obtain rfl := e_226
   cases hs with
   | nil => exact Bool.noConfusion h0.2
   | cons hd hs => exact s_try g (ihS _ _ h1) h2
  | _ => exact no_some h
theorem slotsGo_lookup : ∀ (names : List Str) (k : Nat) (x : Str) (i : Nat), (slotsGo names k).lookup x = some i → ∃ j, i = k + j ∧ names[j]? = some x
 | [], _, _, _, h => by simp [slotsGo] at h
 | y :: r, k, x, i, h => by
  simp only [slotsGo, List.lookup_cons] at h
  cases hxy : x == y with
  | true =>
   rw [hxy] at h
   simp only [Option.some.injEq] at h
   exact ⟨0, by lia, by simp; exact (by simpa using hxy : x = y).symm⟩
  | false =>
   rw [hxy] at h
   refine e1_2 (slotsGo_lookup r (k + 1) x i h) fun j e1 e2 => ?_
   exact ⟨j + 1, by lia, by simpa using e2⟩
theorem bindL_spec {kindOf : Str → Option NameKind} : ∀ (binds : List (Str × Value)) (m : Str → Option Value) (x : Str), kindOf x = some .local → (binds.map (·.1)).Nodup → bindL kindOf binds m x = (binds.lookup x).or (m x)
 | [], m, x, _, _ => by simp [bindL]
 | (n, v) :: r, m, x, hx, hn => by
  simp only [List.map_cons, List.nodup_cons] at hn
  rw [bindL, bindL_spec r _ x hx hn.2, List.lookup_cons]
  cases hxn : x == n with
  | true =>
   have : x = n := by simpa using hxn
   subst this
   have hr : r.lookup x = none := by
    rw [List.lookup_eq_none_iff]
    intro p hp
    have : x ≠ p.1 := fun q => hn.1 (q ▸ List.mem_map_of_mem hp)
    simpa using this
   simp [hr, hx]
  | false =>
   have hne : x ≠ n := by simpa using hxn
   congr 1
   split
   ·simp [hne]
   ·rfl
theorem bindC_spec {kindOf : Str → Option NameKind} : ∀ (binds : List (Str × Value)) (m : Str → Option Value) (x : Str), kindOf x ≠ some .local → (binds.map (·.1)).Nodup → bindC kindOf binds m x = (binds.lookup x).or (m x)
 | [], m, x, _, _ => by simp [bindC]
 | (n, v) :: r, m, x, hx, hn => by
  simp only [List.map_cons, List.nodup_cons] at hn
  rw [bindC, bindC_spec r _ x hx hn.2, List.lookup_cons]
  cases hxn : x == n with
  | true =>
   have : x = n := by simpa using hxn
   subst this
   have hr : r.lookup x = none := by
    rw [List.lookup_eq_none_iff]
    intro p hp
    have : x ≠ p.1 := fun q => hn.1 (q ▸ List.mem_map_of_mem hp)
    simpa using this
   simp [hr, hx]
  | false =>
   have hne : x ≠ n := by simpa using hxn
   congr 1
   split
   ·rfl
   ·simp [hne]
theorem zip_lookup : ∀ (ps : List Str) (vals : List Value) (i : Nat) (x : Str) (v : Value), ps.Nodup → ps[i]? = some x → vals[i]? = some v → (ps.zip vals).lookup x = some v
 | p :: ps, [], i, x, v, _, _, h => by simp at h
 | p :: ps, w :: vals, 0, x, v, hn, h1, h2 => by
  simp at h1 h2; subst h1; subst h2; simp [List.lookup_cons]
 | p :: ps, w :: vals, i + 1, x, v, hn, h1, h2 => by
  simp only [List.nodup_cons] at hn
  simp at h1 h2
  have hne : (x == p) = false := by
   have : x ≠ p := fun q => hn.1 (q ▸ List.mem_of_getElem? h1)
   simpa using this
  rw [List.zip_cons_cons, List.lookup_cons, hne]
  exact zip_lookup ps vals i x v hn.2 h1 h2
 | [], _, _, _, _, _, h, _ => by simp at h
theorem cellsFrom_names : ∀ (names : List (Str × NameKind)) (n : Nat) (acc : List (Str × Addr)) (x : Str), x ∈ (cellsFrom n names acc).map (·.1) → x ∈ acc.map (·.1) ∨ (x, NameKind.cell) ∈ names
 | [], _, _, _, h => .inl h
 | (y, kd) :: r, n, acc, x, h => by
  unfold cellsFrom at h
  split at h
  ·rename_i hk
   rcases cellsFrom_names r _ _ x h with q | q
   ·simp only [List.map_cons, List.mem_cons] at q
    rcases q with q | q
    ·subst q
     have : kd = .cell := by simpa using hk
     subst this
     exact .inr List.mem_cons_self
    ·exact .inl q
   ·exact .inr (List.mem_cons_of_mem _ q)
  ·rcases cellsFrom_names r _ _ x h with q | q
   ·exact .inl q
   ·exact .inr (List.mem_cons_of_mem _ q)
theorem cellsFrom_nodup : ∀ (names : List (Str × NameKind)) (n : Nat) (acc : List (Str × Addr)), (names.map (·.1)).Nodup → (acc.map (·.1)).Nodup → (∀ x ∈ acc.map (·.1), x ∉ names.map (·.1)) → ((cellsFrom n names acc).map (·.1)).Nodup
 | [], _, _, _, h, _ => h
 | (y, kd) :: r, n, acc, hn, ha, hd => by
  simp only [List.map_cons, List.nodup_cons] at hn
  unfold cellsFrom
  split
  ·refine cellsFrom_nodup r _ _ hn.2 ?_ ?_
   ·simp only [List.map_cons, List.nodup_cons]
    exact ⟨fun q => hd y q (by simp), ha⟩
   ·intro x hx
    simp only [List.map_cons, List.mem_cons] at hx
    rcases hx with q | q
    ·subst q; exact hn.1
    ·exact fun q' => hd x q (by simp at q' ⊢; exact .inr q')
  ·exact cellsFrom_nodup r _ _ hn.2 ha (fun x hx q' => hd x hx (by simp at q' ⊢; exact .inr q'))
theorem lookup_of_nodup : ∀ {l : List (Str × Addr)} {n : Str} {a : Addr}, (l.map (·.1)).Nodup → (n, a) ∈ l → l.lookup n = some a
 | (m, b) :: r, n, a, hn, h => by
  simp only [List.map_cons, List.nodup_cons] at hn
  rw [List.lookup_cons]
  rcases List.mem_cons.mp h with q | q
  ·cases q; simp
  ·have : (n == m) = false := by
    have : n ≠ m := fun e => hn.1 (e ▸ List.mem_map_of_mem q)
    simpa using this
   rw [this]
   exact lookup_of_nodup hn.2 q
structure FnOk (D : Wd) (G : List (Str × V)) (mts : List Str) (x : Str) (f : Fn) : Prop where
 at' : ∃ a o name qual params body scope pm cd doc ps, D.fa x = some a ∧ D.hB.get? a = some o ∧ o.data = .func (methDef name qual params body scope pm cd doc) ∧ D.hB.CodeRec cd qual ∧
  compFn G mts ps body scope = some f ∧ (∀ vals : List Value, vals.length = ps.length → bindArgs (methDef name qual params body scope pm cd doc) ⟨vals, []⟩ = pure (ps.zip vals)) ∧
  ps.Nodup ∧ (scope.names.map (·.1)).Nodup ∧ (∀ p ∈ ps, scope.names.lookup p = some .local ∨ scope.names.lookup p = some .cell) ∧ scope.isCoroutine = false ∧ scope.isGenerator = false ∧ scope.kind = .function
noncomputable abbrev Wd.on (D : Wd) (fr : List Env) : Wd := { D with fr := fr }
mutual
theorem Rep.on {D : Wd} {fr fr' : List Env} {γ : List Addr} {h : Heap} {v : Value} : ∀ {V : V}, Rep (D.on fr) γ h v V → Rep (D.on fr') γ h v V
 | .none, x => x
 | .bool _, x => x
 | .int _, x => x
 | .str _, x => x
 | .tup l, x => by
  refine e2_3 x fun a vs e t r => ?_
  exact Exists.intro a ⟨vs, e, t, Reps.on r⟩
 | .ref _, x => x
 | .fn _, x => x
 | .ty _, x => x
 | .bi _, x => x
 | .scr _, x => x
 | .bk, x => x
 | .cls _ _, x => x
theorem Reps.on {D : Wd} {fr fr' : List Env} {γ : List Addr} {h : Heap} {vs : List Value} : ∀ {l : List V}, Reps (D.on fr) γ h vs l → Reps (D.on fr') γ h vs l
 | [], x => x
 | V :: l, x => by
  refine e2_3 x fun v r e a b => ?_
  exact Exists.intro v ⟨r, e, Rep.on a, Reps.on b⟩
end
theorem FsRep.on {D : Wd} {fr fr' : List Env} {γ : List Addr} {h : Heap} {fs : List (Str × V)} {m : Str → Option Value} (x : FsRep (D.on fr) γ h fs m) : FsRep (D.on fr') γ h fs m :=
 ⟨fun y V e => let ⟨v, q, r⟩ := x.1 y V e; ⟨v, q, r.on⟩, x.2⟩
theorem HRel.on {D : Wd} {fr fr' : List Env} {γ : List Addr} {H : Hp} {h : Heap} (R : HRel (D.on fr) γ H h) (F : FrsOk (D.on fr') γ h) : HRel (D.on fr') γ H h where
 len := R.len
 nodup := R.nodup
 objs := fun i a o e1 e2 => by
  have := R.objs i a o e1 e2
  cases o with
  | list xs => obtain ⟨vs, n, e, r, z⟩ := this; exact ⟨vs, n, e, r.on, z⟩
  | inst j => exact this
  | ns fs => obtain ⟨m, n, r, q⟩ := this; exact ⟨m, n, r.on, q⟩
  | dict es => obtain ⟨kvs, n, r, q⟩ := this; exact ⟨kvs, n, r.on, q⟩
 fresh := R.fresh
 base := R.base
 frs := F
theorem GOk.on {D : Wd} {G : List (Str × V)} {mts : List Str} (g : GOk D G mts) (fr : List Env) : GOk (D.on fr) G mts where
 gns := g.gns
 bns := g.bns
 val := fun x V h => by
  refine e1_2 (g.val x V h) fun v hv r => ?_
  exact ⟨v, hv, fun γ => Rep.on (D := D) (fr := D.fr) (fr' := fr) (r γ)⟩
 lim := g.lim
 bk := ⟨g.bk.cls, g.bk.noG, g.bk.noH, g.bk.noS, g.bk.noF, g.bk.mts, g.bk.init⟩
 cls := g.cls
 exs := g.exs
theorem fn_ok {G : List (Str × V)} {mts : List Str} (g0 : GOk D G mts) (hO : OrcOk D k Φ) {x : Str} {f : Fn} (fo : FnOk D G mts x f) : ∀ fr vs H Q X, wpFn Φ f vs H Q X → ∀ A γ s vals a, AOkC (D.on fr) (k + 1) A → HRel (D.on fr) γ H s.heap → Reps (D.on fr) γ s.heap vals vs → D.fa x = some a →
  (∃ o fd, D.hB.get? a = some o ∧ o.data = .func fd) ∧ wpAny D.M A (call (.ref a) vals) (PostV (D.on fr) γ s Q) (PostX (D.on fr) γ s X) s := by
 intro fr vs H Q X w A γ s vals a hA R rv hxa
 obtain ⟨a', o, name, qual, params, body, scope, pm, cd, doc, ps, hx, ho, hd, hcd, hf, hb, hps, hnn, hk, hco, hgen, hkind⟩ := fo.at'
 rw [hxa] at hx; obtain rfl := Option.some.inj hx
 refine ⟨⟨o, _, ho, hd⟩, ?_⟩
 refine e1_2 (Option.map_eq_some_iff.mp hf) fun ib hib e_227 => ?_
 obtain rfl := e_227
 obtain ⟨hlen, w⟩ := w
 simp only at hlen
 have hvl : vals.length = ps.length := by rw [rv.length, hlen]
 have hz : (ps.zip vals).map (·.1) = ps := by rw [List.map_fst_zip]; lia
 have hzn : ((ps.zip vals).map (·.1)).Nodup := by rw [hz]; exact hps
 have kinds : ∀ y ∈ ps.zip vals, scope.names.lookup y.1 = some .local ∨ (scope.names.lookup y.1 = some .cell ∧ ((cellsFrom (s.heap.objs.size + 1) scope.names []).lookup y.1).isSome = true) := fun y hy => by
  have : y.1 ∈ ps := by rw [← hz]; exact List.mem_map_of_mem hy
  rcases hk y.1 this with q | q
  ·exact .inl q
  ·exact .inr ⟨q, PySem.W.cellsFrom_some _ _ _ (.inl q)⟩
 refine wpAny_call (codeAny_call_cells (fd := methDef name qual params body scope pm cd doc) (body := body) (binds := ps.zip vals) (Nat.lt_of_lt_of_le (Nat.lt_of_le_of_lt (Nat.le_add_right _ _) hA.depth) (by decide)) (R.base _ _ ho) hd (g0.lim.keeps R.base) (hcd.keeps R.base) rfl (hb vals hvl) rfl kinds (fun s1 ic => ?_) hco hgen hkind)
 generalize henv : callEnvC (methDef name qual params body scope pm cd doc) s.heap.objs.size a = env at ic ⊢
 have hko : ∀ y, env.kindOf y = scope.names.lookup y := fun y => by subst henv; rfl
 have hloc : env.locals = s.heap.objs.size := by subst henv; rfl
 have hcells : env.cells = cellsFrom (s.heap.objs.size + 1) scope.names [] := by subst henv; rfl
 let c : CC := { G, mts, scope, slots := slotsGo (ownNames ps scope) 0, nxt := (ownNames ps scope).length }
 have g : GOk (D.on (env :: fr)) G mts := g0.on _
 have hE : EnvOk c env := ⟨by subst henv; rfl, hkind, by subst henv; rfl, by subst henv; rfl⟩
 have so : SlotsOk c := ⟨fun y z i h1 h2 => by
  refine e1_2 (slotsGo_lookup _ _ _ _ h1) fun j e1 e2 => ?_
  refine e1_2 (slotsGo_lookup _ _ _ _ h2) fun j' e1' e2' => ?_
  have : j = j' := by lia
  subst this
  rw [e2] at e2'; cases e2'; rfl⟩
 have new : ∀ b, s.heap.objs.size ≤ b → b ∉ γ ∧ D.hB.get? b = none := fun b hb => by
  have e : s.heap.get? b = none := by
   cases q : s.heap.get? b with
   | none => rfl
   | some o => exact absurd (Heap.lt_size q) (Nat.not_lt.mpr hb)
  exact R.nin e
 have keep := ic.toInCall.keep
 have tt : ∀ a ws, TupAt s.heap a ws → TupAt s1.heap a ws := fun _ _ q => tupAt_grow keep q
 have cn : ((env.cells).map (·.1)).Nodup := by rw [hcells]; exact cellsFrom_nodup _ _ _ hnn (by simp) (by simp)
 have ini : ∀ (y : Str) (i : Nat) (V : V), c.slots.lookup y = some i → (initL { names := (ownNames ps scope).length + 3, params := ps.length, body := ib } vs)[i]? = some (some V) → ∃ v, (ps.zip vals).lookup y = some v ∧ Rep (D.on (env :: fr)) γ s1.heap v V := by
  intro y i V hs hL
  refine e1_2 (slotsGo_lookup _ _ _ _ hs) fun j e1 e2 => ?_
  have hij : i = j := by lia
  subst hij
  unfold initL at hL
  have hi : i < vs.length := by
   apply Classical.byContradiction
   intro hn
   rw [List.getElem?_append_right (by simp; lia), List.getElem?_replicate] at hL
   split at hL <;> cases hL
  rw [List.getElem?_append_left (by simpa using hi), List.getElem?_map] at hL
  simp only [Option.map_eq_some_iff, Option.some.injEq, exists_eq_right] at hL
  refine e1_2 (rv.get hL) fun v hv rvv => ?_
  have hpi : ps[i]? = some y := by
   unfold ownNames at e2
   rw [List.getElem?_append_left (by lia)] at e2
   exact e2
  exact ⟨v, zip_lookup ps vals i y v hps hpi hv, (Rep.mono ⟨[], by simp⟩ tt rvv).on⟩
 have frl : FRel (D.on (env :: fr)) γ env c.slots s1.heap (initL { names := (ownNames ps scope).length + 3, params := ps.length, body := ib } vs) := by
  refine ⟨⟨⟨_, ic.toInCall.ns, ?_⟩, ?_, ?_, ⟨env, fr, rfl, rfl⟩⟩, ?_, ic.apart, ?_, ⟨fr, rfl, by subst henv; rfl⟩⟩
  ·intro y i V hy hs hL
   refine e1_2 (ini y i V hs hL) fun v hv r => ?_
   exact ⟨v, by rw [bindL_spec _ _ _ hy hzn, hv]; rfl, r⟩
  ·intro y hy
   have hc' : (env.cells.lookup y).isSome = true := by rw [hcells]; exact PySem.W.cellsFrom_some _ _ _ (.inl (by rw [← hko]; exact hy))
   obtain ⟨ca, hca⟩ := Option.isSome_iff_exists.mp hc'
   have habove := ic.above y ca (mem_of_lookup hca)
   rw [hloc] at habove
   refine ⟨ca, _, hca, ic.cell y ca hca, (new ca (Nat.le_of_lt habove)).1, fun i V hs hL => ?_⟩
   refine e1_2 (ini y i V hs hL) fun v hv r => ?_
   exact ⟨v, by rw [bindC_spec _ _ _ (by rw [hy]; intro q; cases q) hzn, hv]; rfl, r⟩
  ·exact (new _ (by rw [hloc]; exact Nat.le_refl _)).1
  ·intro b hb
   rcases List.mem_cons.mp hb with q | q
   ·subst q
    have n1 := new env.locals (by rw [hloc]; exact Nat.le_refl _)
    exact ⟨n1.1, n1.2, (let ⟨o, _, _, e, _⟩ := ic.toInCall.ns; ⟨o, e⟩), notTup_dict ic.toInCall.ns⟩
   ·refine e1_2 (List.mem_map.mp q) fun e_228 hm e_229 => ?_
    obtain ⟨y, ca⟩ := e_228
    obtain rfl := e_229
    have habove := ic.above y ca hm
    rw [hloc] at habove
    have n1 := new ca (Nat.le_of_lt habove)
    have hcell := ic.cell y ca (lookup_of_nodup cn hm)
    exact ⟨n1.1, n1.2, (let ⟨o, e, _⟩ := hcell; ⟨o, e⟩), notTup_cell hcell⟩
  ·intro p hp
   exact Nat.ne_of_gt (ic.above p.1 p.2 hp)
 have own0 : ∀ b ∈ ownA env, s.heap.get? b = none := fun b hb => by
  have hge : s.heap.objs.size ≤ b := by
   rcases List.mem_cons.mp hb with q | q
   ·rw [q, hloc]; exact Nat.le_refl _
   ·refine e1_2 (List.mem_map.mp q) fun e_230 hm e_231 => ?_
    obtain ⟨y, ca⟩ := e_230
    obtain rfl := e_231
    have habove := ic.above y ca hm
    rw [hloc] at habove
    exact Nat.le_of_lt habove
  cases q : s.heap.get? b with
  | none => rfl
  | some o => exact absurd (Heap.lt_size q) (Nat.not_lt.mpr hge)
 have fresh0 : ∀ b, s1.heap.get? b = none → s.heap.get? b = none := fun b hb => by
  cases q : s.heap.get? b with
  | none => rfl
  | some o => rw [keep b o q] at hb; cases hb
 have stp0 : ∀ {γ2 : List Addr} {s2 : Shared}, Stp (ownA env) γ γ2 s1 s2 → Stp [] γ γ2 s s2 := fun {γ2 s2} st2 => by
  refine ⟨?_, fun b o hb _ e => st2.keepS b o hb (fun q => by rw [own0 b q] at e; exact no_some e) (keep b o e), ?_⟩
  ·refine e2_1 (ic.toInCall.same) fun h1 t1 e1 => ?_
   refine e2_1 (st2.same) fun h2 t2 e2 => ?_
   rw [e2, e1]; exact ⟨_, _, rfl⟩
  ·refine e1_2 (st2.ext) fun δ e f => ?_
   exact ⟨δ, e, fun b hb => fresh0 b (f b hb)⟩
 have frs1 : FrsOk (D.on (env :: fr)) γ s1.heap := fun e he => by
  rcases List.mem_cons.mp he with q | q
  ·subst q
   refine e1_2 (isD_ns ic.toInCall.ns) fun o e1 e2 => ?_
   have n1 := new e.locals (by rw [hloc]; exact Nat.le_refl _)
   exact ⟨by rw [hE.scope]; exact hkind, _, o, (by subst henv; rfl), n1.2, n1.1, e1, e2⟩
  ·exact (R.frs.grow keep) e q
 have R1 : HRel (D.on (env :: fr)) γ H s1.heap := (R.grow keep).on frs1
 have outer : ∀ {γ : List Addr} {h : Heap}, FrsOk (D.on (env :: fr)) γ h → FrsOk (D.on fr) γ h := fun F e he => F e (List.mem_cons_of_mem _ he)
 have body_ok := sss_of (D := D.on (env :: fr)) (f := compS 40 c) (fun st is h => soundS (D := D.on (env :: fr)) (Φ := Φ) (k := k) hO 40 c st is g so h) body ib hib env (A.deeper env) γ H s1 _ _ _ hE (hA.deeper env) R1 frl w
 refine wpAny_mono body_ok (fun fl s2 p => ?_) fun e s2 p => ?_
 ·refine e4_5 p fun γ2 H2 L2 F st2 R2 fr2 hf2 q2 => ?_
  have st0 := stp0 st2
  have R2' : HRel (D.on fr) γ2 H2 s2.heap := R2.on (outer R2.frs)
  cases F with
  | next => obtain rfl := hf2; exact ⟨γ2, .none, H2, st0, R2', (show Rep _ _ _ _ .none from rfl), q2⟩
  | ret V => obtain ⟨v, rfl, rv⟩ := hf2; exact ⟨γ2, V, H2, st0, R2', rv.on, q2⟩
 ·refine e4_5 p fun γ2 H2 L2 x st2 R2 fr2 e_232 q2 => ?_
  obtain ⟨hx, hex⟩ := e_232
  refine leave_any (D := D.on (env :: fr)) (hA.deeper env).frames R1 R2 rfl (by subst henv; rfl) hx fun a C a0 ex h' e1 hmg hn hax XF land tr => ?_
  subst e1
  have fly := fly_of (fun b => fresh_backF st2 R2 fr2.alive) R2.frs (fun b hb => (R2.nin hb).1) (not_g R2 XF hax) XF land hmg hn tr
  have R3 := land.rel R2 XF
  exact ⟨γ2, H2, x, stp0 (land.stp R2.frs XF st2), R3.on (outer R3.frs), ⟨fly.from fresh0, hex⟩, q2⟩
end
end Mine
namespace Mine
open PySem PyProof.Rows
theorem zip_lookup_some : ∀ (ps : List Str) (vals : List Value) (n : Str), vals.length = ps.length → n ∈ ps → ((ps.zip vals).lookup n).isSome = true
 | [], _, n, _, h => by cases h
 | p :: ps, [], n, e, _ => by simp at e
 | p :: ps, v :: vals, n, e, h => by
  simp only [List.zip_cons_cons, List.lookup_cons]
  split
  ·rfl
  ·rename_i q
   refine zip_lookup_some ps vals n (by simpa using e) ?_
   rcases List.mem_cons.mp h with q' | q'
   ·subst q'; simp at q
   ·exact q'
theorem zip_filterMap : ∀ (ps : List Str) (vals : List Value) (pre : List (Str × Value)), vals.length = ps.length → ps.Nodup → (∀ p ∈ ps, pre.lookup p = none) → ps.filterMap (fun n => ((pre ++ ps.zip vals).lookup n).map (n, ·)) = ps.zip vals
 | [], _, _, _, _, _ => by simp
 | p :: ps, [], _, e, _, _ => by simp at e
 | p :: ps, v :: vals, pre, e, hn, hp => by
  have h1 : (pre ++ (p :: ps).zip (v :: vals)).lookup p = some v := by
   rw [List.lookup_append, hp p (by simp)]; simp
  simp only [List.filterMap_cons, h1, Option.map_some]
  simp only [List.zip_cons_cons, List.cons.injEq, true_and]
  have := zip_filterMap ps vals (pre ++ [(p, v)]) (by simpa using e) (List.nodup_cons.mp hn).2 (fun q hq => by
   rw [List.lookup_append, hp q (by simp [hq])]
   have : (q == p) = false := by
    have : q ≠ p := fun e => (List.nodup_cons.mp hn).1 (e ▸ hq)
    simpa using this
   simp [List.lookup_cons, this])
  simpa using this
theorem bind_simple {name qual : Str} {args : List Arg} {body : List Stmt} {scope : Scope} {pm cd doc : Value} {kd : List (Option Expr)} {vals : List Value} (hn : (args.map (·.arg)).Nodup) (hl : vals.length = (args.map (·.arg)).length) :
  bindArgs (methDef name qual ⟨[], args, none, [], kd, none, []⟩ body scope pm cd doc) ⟨vals, []⟩ = pure ((args.map (·.arg)).zip vals) := by
 unfold bindArgs
 simp only [methDef, seqItems?, notAStandIn, List.map_nil, List.nil_append, List.append_nil, Option.isNone_none]
 generalize args.map (·.arg) = ps at *
 have h1 : (ps.filter fun n => ((ps.zip vals).lookup n).isNone) = [] := by
  rw [List.filter_eq_nil_iff]
  intro n hm
  have := zip_lookup_some _ vals n hl hm
  simp only [Option.isNone_iff_eq_none]
  intro q; rw [q] at this; cases this
 have h2 := zip_filterMap _ vals [] hl hn (by simp)
 simp only [List.nil_append] at h2
 have h3 : ¬ vals.length > ps.length := by lia
 simp [h1, h2, h3]
noncomputable def strsNodup : List Str → Bool
 | [] => true
 | x :: r => !r.contains x && strsNodup r
theorem strsNodup_ok : ∀ {l : List Str}, strsNodup l = true → l.Nodup
 | [], _ => List.nodup_nil
 | x :: r, h => by
  simp only [strsNodup, Bool.and_eq_true, Bool.not_eq_true', List.contains_eq_mem, decide_eq_false_iff_not] at h
  exact List.nodup_cons.mpr ⟨h.1, strsNodup_ok h.2⟩
noncomputable def simpleArgs (a : Arguments) : Option (List Str) := onlyIf (a.posonlyargs.isEmpty && a.vararg.isNone && a.kwonlyargs.isEmpty && a.kwarg.isNone && a.defaults.isEmpty) (some (a.args.map (·.arg)))
noncomputable def okFn (ps : List Str) (scope : Scope) : Bool := strsNodup ps && strsNodup (scope.names.map (·.1)) && (ps.all fun p => scope.names.lookup p == some .local || scope.names.lookup p == some .cell) && !scope.isCoroutine && !scope.isGenerator && scope.kind == .function
noncomputable def checkRec (G : List (Str × V)) (mts : List Str) (params : Arguments) (body : List Stmt) (scope : Scope) : Option Fn := (simpleArgs params).bind fun ps => onlyIf (okFn ps scope) (compFn G mts ps body scope)
noncomputable def checkFn (G : List (Str × V)) (mts : List Str) (p : Program) (x : Str) : Option Fn := ((recsOf p).find? (fun d => d.name == x)).bind fun d => checkRec G mts d.params d.body d.scope
noncomputable def checkMt (G : List (Str × V)) (mts : List Str) (c : ClsRec) (m : Str) : Option Fn := (c.meths.find? (fun d => d.name == m)).bind fun d => checkRec G mts d.params d.body d.scope
theorem simple_some {params : Arguments} {ps : List Str} (h : simpleArgs params = some ps) : ∃ ar kd, params = ⟨[], ar, none, [], kd, none, []⟩ ∧ ps = ar.map (·.arg) := by
 obtain ⟨po, ar, va, ko, kd, kw, df⟩ := params
 obtain ⟨hb, h⟩ := onlyIf_some (show onlyIf (po.isEmpty && va.isNone && ko.isEmpty && kw.isNone && df.isEmpty) (some (ar.map (·.arg))) = some ps from h)
 simp only [Bool.and_eq_true, List.isEmpty_iff, Option.isNone_iff_eq_none] at hb
 obtain ⟨⟨⟨⟨rfl, rfl⟩, rfl⟩, rfl⟩, rfl⟩ := hb
 exact ⟨ar, kd, rfl, (Option.some.inj h).symm⟩
theorem fnOk_of {D : Wd} {G : List (Str × V)} {mts : List Str} {x : Str} {f : Fn} {a : Addr} {o : Obj} {name qual : Str} {params : Arguments} {body : List Stmt} {scope : Scope} {pm cd doc : Value} (hx : D.fa x = some a) (ho : D.hB.get? a = some o)
  (hd : o.data = .func (methDef name qual params body scope pm cd doc)) (hcd : D.hB.CodeRec cd qual) (h : checkRec G mts params body scope = some f) : FnOk D G mts x f := by
 refine e1_2 (Option.bind_eq_some_iff.mp h) fun ps hps h => ?_
 obtain ⟨hc, h⟩ := onlyIf_some h
 unfold okFn at hc
 rw [Bool.and_eq_true, Bool.and_eq_true, Bool.and_eq_true, Bool.and_eq_true, Bool.and_eq_true] at hc
 obtain ⟨⟨⟨⟨⟨c1, c2⟩, c3⟩, c4⟩, c5⟩, c6⟩ := hc
 have hnd := strsNodup_ok c1
 refine ⟨⟨a, o, name, qual, params, body, scope, pm, cd, doc, ps, hx, ho, hd, hcd, h, ?_, hnd, strsNodup_ok c2, fun q hq => ?_, bnot c4, bnot c5, ?_⟩⟩
 ·intro vals hl
  refine e2_2 (simple_some hps) fun ar kd e_233 e_234 => ?_
  obtain rfl := e_233
  obtain rfl := e_234
  exact bind_simple hnd hl
 ·have := List.all_eq_true.mp c3 q hq
  rw [Bool.or_eq_true, beq_iff_eq, beq_iff_eq] at this
  exact this
 ·revert c6; cases scope.kind <;> intro c6 <;> first | rfl | exact Bool.noConfusion c6
theorem fnOk_of_top {D : Wd} {G : List (Str × V)} {mts : List Str} {p : Program} {loose : List Str} {mean : ExcName → Option Value} (T : Top p loose mean D.mg D.mb D.hB) {x : Str} {f : Fn} (hs : strip x = none) (h : checkFn G mts p x = some f) : FnOk D G mts x f := by
 refine e1_2 (Option.bind_eq_some_iff.mp h) fun d hd h2 => ?_
 have hn : (d.name == x) = true := List.find?_some (p := fun (d : DefRec) => d.name == x) hd
 obtain rfl : d.name = x := eq_of_beq hn
 obtain ⟨a, o, pm, cd, doc, h1, q2, h3, h4⟩ := T.fn d (List.mem_of_find?_eq_some hd)
 exact fnOk_of (qual := d.name) (fa_fn hs h1) q2 h3 h4 h2
theorem fnOk_of_cls {D : Wd} {G : List (Str × V)} {mts : List Str} {c : ClsRec} {N : Addr} (P : PlainAt D.hB c D.bk N D.mt) {m : Str} {f : Fn} (h : checkMt G mts c m = some f) : FnOk D G mts (Str.ofString "Book." ++ m) f := by
 refine e1_2 (Option.bind_eq_some_iff.mp h) fun d hd h2 => ?_
 have hn : (d.name == m) = true := List.find?_some (p := fun (d : MethRec) => d.name == m) hd
 obtain rfl : d.name = m := eq_of_beq hn
 obtain ⟨a, o, pm, cd, doc, h1, q2, _, h3, h4⟩ := P.meths d (List.mem_of_find?_eq_some hd)
 exact fnOk_of (fa_mt h1) q2 h3 h4 h2
noncomputable def bkChk (c : ClsRec) (mts : List Str) : Bool := (["names", "free_rules", "busy_rules", "held", "given"] : List Str).all c.quiet.contains && ((Str.ofString "__init__") :: mts).all fun m => !fldOk m && (fastLookup "object" m).isSome && c.meths.any (·.name == m)
theorem bkOk_of {D : Wd} {mts : List Str} {c : ClsRec} {N : Addr} (P : PlainAt D.hB c D.bk N D.mt) (h : bkChk c mts = true) : BkOk D mts := by
 unfold bkChk at h
 rw [Bool.and_eq_true, List.all_eq_true, List.all_eq_true] at h
 have mt : ∀ m ∈ (Str.ofString "__init__") :: mts, fldOk m = false ∧ (∃ y, typeLookup (.type "object") m = pure y) ∧ ∃ a o, D.mt m = some (.ref a) ∧ D.hB.get? a = some o ∧ o.cls = .type "function" ∧ (∃ fd, o.data = .func fd) ∧ D.fa (Str.ofString "Book." ++ m) = some a := fun m hm => by
  have h2 := h.2 m hm
  rw [Bool.and_eq_true, Bool.and_eq_true, List.any_eq_true] at h2
  obtain ⟨⟨h3, h4⟩, d, hd, e⟩ := h2
  obtain rfl : d.name = m := eq_of_beq e
  obtain ⟨a, o, pm, cd, doc, q1, q2, q3, q4, _⟩ := P.meths d hd
  refine ⟨bnot h3, ?_, a, o, q1, q2, q3, ⟨_, q4⟩, fa_mt q1⟩
  obtain ⟨r, hr⟩ := Option.isSome_iff_exists.mp h4
  exact ⟨r, by rw [typeLookup_type, builtinLookup_eq_fast, hr]⟩
 obtain ⟨nm, q, bs, sn, sub, col, dd, k0, k1, k2, k3, k5, e⟩ := P.cls.obj
 obtain ⟨_, _, a, o, q1, q2, q3, _, q5⟩ := mt _ List.mem_cons_self
 refine ⟨⟨N, nm, q, bs, sn, sub, col, dd, k0, k1, k2, k3, k5, e, P.cls.ns⟩, P.quiet _ (.tail _ (.head _)), P.quiet _ (.tail _ (.tail _ (.head _))), P.quiet _ (.head _), fun x hx => ?_, fun m hm => mt m (List.mem_cons_of_mem _ (List.contains_iff_mem.mp hm)), a, o, q1, q2, q3, q5⟩
 have : x ∈ (["names", "free_rules", "busy_rules", "held", "given"] : List Str) := by
  rcases fld_cases hx with rfl | rfl | rfl | rfl | rfl
  ·exact .head _
  ·exact .tail _ (.head _)
  ·exact .tail _ (.tail _ (.head _))
  ·exact .tail _ (.tail _ (.tail _ (.head _)))
  ·exact .tail _ (.tail _ (.tail _ (.tail _ (.head _))))
 exact P.quiet x (List.contains_iff_mem.mp (h.1 x this))
end Mine
namespace Mine
open PySem PySem.W PyProof.Rows
noncomputable def isName : Stmt → Bool
 | .Assign [.Name x _] _ _ => x == ("__name__" : Str)
 | _ => false
noncomputable def viewOf (p : Program) : Program := { p with main := { p.main with body := p.main.body.filter fun st => !isName st } }
theorem noΦ_ok {D : Wd} : OrcOk D 0 noΦ := fun _ _ _ _ _ _ h => h.elim
theorem ext_ok {D : Wd} {G : List (Str × V)} {mts : List Str} {k : Nat} {Φ : Orc} {n : Str} {f : Fn} {C : List V → Hp → (V → Hp → Prop) → XL → Prop} (g : GOk D G mts) (hO : OrcOk D k Φ) (fo : FnOk D G mts n f)
  (h : ∀ vs H Q X, C vs H Q X → wpFn Φ f vs H Q X) : OrcOk D (k + 1) (ext n C Φ) := by
 intro fr x vs H Q X hx A γ s vals a hA R rv ha
 unfold ext at hx
 cases e : x == n with
 | true =>
  rw [e] at hx
  obtain rfl : x = n := eq_of_beq e
  exact fn_ok g hO fo fr vs H Q X (h vs H Q X hx) A γ s vals a hA R rv ha
 | false =>
  rw [e] at hx
  exact hO fr x vs H Q X hx A γ s vals a (hA.mono (Nat.le_succ k)) R rv ha
theorem ints_get : ∀ {vs : List Value} {ns : List Int}, IntsAre vs ns → vs.length = ns.length ∧ ∀ (k : Nat) (i : Int), ns[k]? = some i → ∃ t, vs[k]? = some (.int i t)
 | _, _, .nil => ⟨rfl, fun k i h => by simp at h⟩
 | _, _, .cons n t r => by
  obtain ⟨h1, h2⟩ := ints_get r
  refine ⟨by simp [h1], fun k i h => ?_⟩
  cases k with
  | zero => simp at h; subst h; exact ⟨t, by simp⟩
  | succ k => simp at h; obtain ⟨u, hu⟩ := h2 k i h; exact ⟨u, by simpa using hu⟩
noncomputable def GVal (D : Wd) (x : Str) (W : V) : Prop := ∃ v, (D.mg x = some v ∨ (D.mg x = none ∧ D.mb x = some v)) ∧ ∀ γ, Rep D γ D.hB v W
noncomputable def GAll (D : Wd) : List (Str × V) → Prop
 | [] => True
 | p :: r => GVal D p.1 p.2 ∧ GAll D r
theorem gall_lookup {D : Wd} : ∀ {G : List (Str × V)}, GAll D G → ∀ (x : Str) (W : V), G.lookup x = some W → GVal D x W
 | [], _, x, W, h => by cases h
 | (y, U) :: r, g, x, W, h => by
  rw [List.lookup_cons] at h
  split at h
  ·rename_i e
   have e : x = y := by simpa using e
   cases h; subst e; exact g.1
  ·exact gall_lookup g.2 x W h
noncomputable def valA : Value → Option Addr
 | .ref a => some a
 | _ => none
theorem valA_some {v : Value} {a : Addr} (h : valA v = some a) : v = .ref a := by
 cases v with
 | ref _ => exact congrArg Value.ref (Option.some.inj h)
 | _ => exact no_some h
noncomputable def asCls : Data → Option ClassData
 | .cls cd => some cd
 | _ => none
theorem asCls_some {d : Data} {cd : ClassData} (h : asCls d = some cd) : d = .cls cd := by
 cases d with
 | cls _ => exact congrArg Data.cls (Option.some.inj h)
 | _ => exact no_some h
noncomputable def noIni (K : Frag) (N : Addr) : Bool := nsOkIn K N && nsIn K N "__init__" == some none
theorem noIni_of {K : Frag} {h : Heap} {N : Addr} (X : K.In h) (q : noIni K N = true) : h.Ns N (h.nsMap N) ∧ h.nsMap N "__init__" = none := by
 obtain ⟨q1, q2⟩ := (Bool.and_eq_true _ _).mp q
 exact ⟨.of_isNs (isNs_of_in X q1), nsMap_none_of_in X q1 (beq_iff_eq.mp q2)⟩
noncomputable def anyO {α : Type} (x : Option α) (p : α → Bool) : Bool := match x with | some a => p a | none => false
theorem anyO_some {α : Type} {x : Option α} {p : α → Bool} (h : anyO x p = true) : ∃ a, x = some a ∧ p a = true := by cases x with | some a => exact ⟨a, rfl, h⟩ | none => exact Bool.noConfusion h
noncomputable def tailInN (K : Frag) : List Value → Bool
 | [] => false
 | v :: r => (v :: r) == bmV || (anyO ((valA v).bind fun A => (K.lookup A).bind fun o => asCls o.data) fun cd => noIni K cd.ns) && tailInN K r
theorem tailN_of {K : Frag} {h : Heap} (X : K.In h) : ∀ {l : List Value}, tailInN K l = true → OwnTail h bmV l
 | [], e => Bool.noConfusion e
 | v :: r, e => by
  rcases (Bool.or_eq_true _ _).mp e with q | q
  ·rw [beq_iff_eq.mp q]; exact .base
  ·obtain ⟨q, q3⟩ := (Bool.and_eq_true _ _).mp q
   refine e1_2 (anyO_some q) fun cd q1 q2 => ?_
   refine e1_2 (Option.bind_eq_some_iff.mp q1) fun A hA q1 => ?_
   refine e1_2 (Option.bind_eq_some_iff.mp q1) fun o ho q1 => ?_
   obtain ⟨c0, dd, dt, sl⟩ := o
   obtain ⟨n1, n2⟩ := noIni_of X q2
   rw [valA_some hA]
   rw [show dt = .cls cd from asCls_some q1] at ho
   exact .own (X _ _ ho) n1 n2 (tailN_of X q3)
noncomputable def slN (sl : Array (Option Value)) : Bool := sl.toList.length == 6 && sl.toList[4]? == some (some (.builtin "ValueError.__new__"))
theorem slN_of {sl : Array (Option Value)} (h : slN sl = true) : ∃ k0 k1 k2 k3 k5, sl = #[k0, k1, k2, k3, some (.builtin "ValueError.__new__"), k5] := by
 obtain ⟨l⟩ := sl
 obtain ⟨h1, h2⟩ := (Bool.and_eq_true _ _).mp h
 have h1 : l.length = 6 := beq_iff_eq.mp h1
 have h2 : l[4]? = some (some (.builtin "ValueError.__new__")) := beq_iff_eq.mp h2
 rcases l with _ | ⟨k0, _ | ⟨k1, _ | ⟨k2, _ | ⟨k3, _ | ⟨k4, _ | ⟨k5, _ | ⟨k6, l⟩⟩⟩⟩⟩⟩⟩ <;> first | exact absurd h1 (Nat.ne_of_beq_eq_false rfl) | skip
 ·obtain rfl := Option.some.inj h2
  exact ⟨k0, k1, k2, k3, k5, rfl⟩
noncomputable def clsIn (K : Frag) (C : Addr) : Option (List Value) := (K.lookup C).bind fun o => (asCls o.data).bind fun cd => onlyIf (o.cls == .type "type" && cd.mro.head? == some (.ref C) && !cd.hasDel && slN o.slots && tailInN K cd.mro.tail && noIni K cd.ns) (some cd.mro.tail)
theorem clsAt_of {K : Frag} {h : Heap} {C : Addr} {bm : List Value} (X : K.In h) (q : clsIn K C = some bm) : ClsAt h C bm := by
 refine e1_2 (Option.bind_eq_some_iff.mp q) fun e_236 ho q => ?_
 obtain ⟨c0, dd, dt, sl⟩ := e_236
 refine e1_2 (Option.bind_eq_some_iff.mp q) fun e_237 hd' q => ?_
 obtain ⟨nm, bs, mro, ns, qn, hd, sn, sub, ab, col, del⟩ := e_237
 obtain ⟨qq, e⟩ := onlyIf_some q
 clear q
 obtain rfl := Option.some.inj e
 simp only [Bool.and_eq_true] at qq
 obtain ⟨⟨⟨⟨⟨q1, q2⟩, q3⟩, q4⟩, q5⟩, q6⟩ := qq
 obtain ⟨k0, k1, k2, k3, k5, rfl⟩ := slN_of q4
 obtain ⟨n1, n2⟩ := noIni_of X q6
 cases mro with
 | nil => exact no_some (beq_iff_eq.mp q2)
 | cons v r =>
  obtain rfl : v = .ref C := Option.some.inj (beq_iff_eq.mp q2)
  obtain rfl : c0 = .type "type" := beq_iff_eq.mp q1
  obtain rfl : del = false := bnot q3
  rw [show dt = .cls _ from asCls_some hd'] at ho
  exact ⟨ns, nm, qn, bs, hd, sn, sub, ab, col, dd, k0, k1, k2, k3, k5, _, X _ _ ho, n1, n2, tailN_of X q5⟩
noncomputable def exRow (K : Frag) (tab : List (Str × List Str × Addr)) (t : Str × List Str × Addr) : Bool := anyO (clsIn K t.2.2) fun bm => nsIn K mainGlobals t.1 == some (some (.ref t.2.2)) && (tab.all fun u => (Value.ref t.2.2 :: bm).contains (.ref u.2.2) == t.2.1.contains u.1)
noncomputable def exOk (K : Frag) (tab : List (Str × List Str × Addr)) : Bool := tab.all (exRow K tab)
noncomputable def exOf (tab : List (Str × List Str × Addr)) : List (Str × List Str) := tab.map fun t => (t.1, t.2.1)
noncomputable def clsG (G : List (Str × V)) (ex : List (Str × List Str)) : Bool := G.all fun p => match p.2 with
 | .cls z ups => ex.any fun e => e.1 == z && e.2 == ups
 | _ => true
theorem exs_of {D : Wd} {K : Frag} {tab : List (Str × List Str × Addr)} (X : K.In D.hB) (g : D.hB.Ns mainGlobals D.mg) (he : D.ex = exOf tab) (q : exOk K tab = true) : ∀ (x : Str) (ups : List Str), (x, ups) ∈ D.ex → ∃ C, ClsOk D x ups C := by
 have row : ∀ t ∈ tab, ∃ bm, D.mg t.1 = some (.ref t.2.2) ∧ ClsAt D.hB t.2.2 bm ∧ (∀ u ∈ tab, (Value.ref t.2.2 :: bm).contains (.ref u.2.2) = t.2.1.contains u.1) := fun t ht => by
  have h := List.all_eq_true.mp q t ht
  refine e1_2 (anyO_some h) fun bm hb h => ?_
  simp only [Bool.and_eq_true, beq_iff_eq, List.all_eq_true] at h
  exact ⟨bm, mg_of X g h.1, clsAt_of X hb, h.2⟩
 intro x ups hx
 rw [he] at hx
 refine e1_2 (List.mem_map.mp hx) fun t ht e => ?_
 cases e
 refine e1_3 (row t ht) fun bm h1 h2 h3 => ?_
 refine ⟨t.2.2, bm, h1, h2, fun y ups' Cy hy hmy => ?_⟩
 rw [he] at hy
 refine e1_2 (List.mem_map.mp hy) fun u hu e => ?_
 cases e
 refine e1_2 (row u hu) fun _ g1 _ => ?_
 rw [hmy] at g1
 cases g1
 exact h3 u hu
theorem cls_of {G : List (Str × V)} {ex : List (Str × List Str)} (q : clsG G ex = true) : ∀ (x z : Str) (ups : List Str), G.lookup x = some (.cls z ups) → (z, ups) ∈ ex := fun x z ups h => by
 have := List.all_eq_true.mp q (x, .cls z ups) (mem_of_lookup h)
 simp only at this
 refine e1_2 (List.any_eq_true.mp this) fun e he h2 => ?_
 simp only [Bool.and_eq_true, beq_iff_eq] at h2
 obtain ⟨rfl, rfl⟩ := h2
 exact he
theorem gok {D : Wd} {G : List (Str × V)} {mts : List Str} {p : Program} {loose : List Str} {mean : ExcName → Option Value} {c : ClsRec} {N : Addr} {K : Frag} {tab : List (Str × List Str × Addr)} (T : Top p loose mean D.mg D.mb D.hB) (g : GAll D G) (P : PlainAt D.hB c D.bk N D.mt) (q : bkChk c mts = true)
  (X : K.In D.hB) (he : D.ex = exOf tab) (qe : exOk K tab = true) (hc : clsG G (exOf tab) = true) : GOk D G mts :=
 ⟨T.g, T.b, fun x V h => gall_lookup g x V h, T.nolimit, bkOk_of P q, by rw [he]; exact cls_of hc, exs_of X T.g he qe⟩
theorem gv_cls {D : Wd} {x : Str} {ups : List Str} {a : Addr} (h : D.mg x = some (.ref a)) : GVal D x (.cls x ups) := ⟨_, .inl h, fun _ => Exists.intro a ⟨rfl, h⟩⟩
theorem gv_bk {D : Wd} {x : Str} (h : D.mg x = some (.ref D.bk)) : GVal D x .bk := ⟨_, .inl h, fun _ => rfl⟩
theorem gv_fn {D : Wd} {x : Str} {a : Addr} (hs : strip x = none) (h : D.mg x = some (.ref a)) : GVal D x (.fn x) :=
 ⟨_, .inl h, fun _ => Exists.intro a ⟨rfl, fa_fn hs h⟩⟩
theorem gv_int {D : Wd} {x : Str} {i : Int} {t : Tok} (h : D.mg x = some (.int i t)) : GVal D x (.int i) := ⟨_, .inl h, fun _ => rep_i⟩
theorem gv_str {D : Wd} {x s : Str} {t : Tok} (h : D.mg x = some (.str s t)) (f : StrFine s) : GVal D x (.str s) := ⟨_, .inl h, fun _ => rep_s f⟩
theorem gv_tup {D : Wd} {x : Str} {a : Addr} {vs : List Value} {n : Nat} {l : List V} (h : D.mg x = some (.ref a)) (e : D.hB.get? a = some { cls := .type "tuple", data := .seq vs.toArray n }) (hz : vs.length ≤ 2000000) (r : ∀ γ, Reps D γ D.hB vs l) : GVal D x (.tup l) :=
 ⟨_, .inl h, fun γ => Exists.intro a ⟨vs, rfl, ⟨n, e, hz⟩, r γ⟩⟩
theorem gv_bi {D : Wd} {b : Bi} {x : Str} (h : D.mg x = none) (e : D.mb x = some (.builtin b.name)) : GVal D x (.bi b) := ⟨_, .inr ⟨h, e⟩, fun _ => rfl⟩
theorem gv_ty {D : Wd} {b : Ty} {x : Str} (h : D.mg x = none) (e : D.mb x = some (.type b.name)) : GVal D x (.ty b) := ⟨_, .inr ⟨h, e⟩, fun _ => rfl⟩
theorem reps_int {D : Wd} {γ : List Addr} {h : Heap} {i : Int} {t : Tok} {vs : List Value} {l : List V} (r : Reps D γ h vs l) : Reps D γ h (.int i t :: vs) (.int i :: l) := Exists.intro _ ⟨_, rfl, rep_i, r⟩
theorem reps_str {D : Wd} {γ : List Addr} {h : Heap} {x : Str} {t : Tok} {vs : List Value} {l : List V} (f : StrFine x) (r : Reps D γ h vs l) : Reps D γ h (.str x t :: vs) (.str x :: l) := Exists.intro _ ⟨_, rfl, rep_s f, r⟩
theorem reps_nil {D : Wd} {γ : List Addr} {h : Heap} : Reps D γ h [] [] := rfl
theorem law_top {prog : Program} {w : World} {s₁ : Shared} {mg mb mN : Str → Option Value} {C : Addr} {k : Nat} {Φ : Orc} {c : ClaimW} {cl : Str → Option Addr} {mean : ExcName → Option Value} {fa a : Addr} {vs : List Value} {ns : List Int} {args : List WData} {x : Str} {exs : List (Str × List Str)}
  (hO : OrcOk ⟨prog, w, s₁.heap, mg, mb, C, mN, exs, []⟩ k Φ) (hA : AOkC ⟨prog, w, s₁.heap, mg, mb, C, mN, exs, []⟩ k callerA) (hs : strip x = none) (hx : mg x = some (.ref fa)) (hL : s₁.heap.IsList a vs.toArray) (hI : IntsAre vs ns) (hΦ : Φ x [.scr ns] [] (fun V _ => V = .bool true) (fun _ _ => False)) (hlen : ns.length ≤ 2000000)
  (hg : s₁.gens = #[]) (hr : ∀ cls, c.raises args cls = false) (hp : c.post args (.bool true) args = true) :
  wpAny (model prog w) callerA (call (.ref fa) [.ref a]) (fun v s' => GoodWG c cl mean args s₁ (.ok (.ret v)) s') (fun e s' => GoodWG c cl mean args s₁ (.error e) s') s₁ := by
 obtain ⟨h1, h2⟩ := ints_get hI
 have R : HRel ⟨prog, w, s₁.heap, mg, mb, C, mN, exs, []⟩ [] [] s₁.heap := ⟨rfl, List.nodup_nil, fun _ _ _ e => no_some e, fun _ h => (nomatch h), fun _ _ e => e, fun _ h => (nomatch h)⟩
 have rv : Reps ⟨prog, w, s₁.heap, mg, mb, C, mN, exs, []⟩ [] s₁.heap [.ref a] [.scr ns] := Reps.one (Exists.intro a ⟨vs, rfl, hL, by lia, h1, h2⟩)
 refine wpAny_mono (hO [] x [.scr ns] [] _ _ hΦ callerA [] s₁ [.ref a] fa hA R rv (fa_fn hs hx)).2 ?_ (fun _ _ p => p.no.elim)
 rintro v s' ⟨γ', V, H', st, R', r, rfl⟩
 obtain rfl := r
 refine e2_1 (st.same) fun h' tk e_239 => ?_
 obtain rfl := e_239
 exact GoodW.toG ⟨.inl ⟨_, _, [], rfl, hr, ReadsW.bool true, hp, fun _ => ⟨List.nodup_nil, fun _ hm => (nomatch hm)⟩⟩, fun b o e => R'.base b o e, rfl, hg⟩
theorem caller_ok {D : Wd} {k : Nat} (h : k ≤ 100) (hf : D.fr = []) : AOkC D k callerA := ⟨by rw [hf]; rfl, rfl, by show 1 + claimMargin + 3 * k < 900; unfold claimMargin; lia, by show 4 + 16 * k < 9000; lia, rfl⟩
end Mine
namespace Mine
open PySem
noncomputable def f_is_whole : Fn := { names := 4, params := 1, body := [
 (.ret (.and (.call (.bi .isinstance) [(.loc 0), (.lit (.ty .int))]) (.not (.call (.bi .isinstance) [(.loc 0), (.lit (.ty .bool))]))))] }
noncomputable def f_is_between : Fn := { names := 6, params := 3, body := [
 (.ret (.and (.call (.fn "is_whole") [(.loc 0)]) (.cmp2 (.loc 1) .LtE (.loc 0) .LtE (.loc 2))))] }
noncomputable def f_is_time : Fn := { names := 4, params := 1, body := [
 (.ret (.call (.fn "is_between") [(.loc 0), (.lit (.int 0)), (.bin .Sub (.lit (.int 1000000000000)) (.lit (.int 1)))]))] }
noncomputable def f_are_rising : Fn := { names := 8, params := 3, body := [
 (.ite (.or (.not (.call (.bi .isinstance) [(.loc 0), (.lit (.ty .tuple))])) (.not (.cmp2 (.lit (.int 1)) .LtE (.call (.bi .len) [(.loc 0)]) .LtE (.loc 1)))) [(.ret (.lit (.bool false)))] []),
 (.assign 3 (.neg (.lit (.int 1)))),
 (.for 4 .val (.loc 0) [(.ite (.not (.call (.fn "is_between") [(.loc 4), (.bin .Add (.loc 3) (.lit (.int 1))), (.loc 2)])) [(.ret (.lit (.bool false)))] []), (.assign 3 (.loc 4))]),
 (.ret (.lit (.bool true)))] }
noncomputable def f_is_plain : Fn := { names := 5, params := 1, body := [
 (.assign 1 (.sub (.loc 0) (.lit (.int 0)))),
 (.ite (.cmp (.loc 1) .Eq (.lit (.str "once"))) [(.ret (.and (.cmp (.call (.bi .len) [(.loc 0)]) .Eq (.lit (.int 3))) (.and (.call (.fn "is_time") [(.sub (.loc 0) (.lit (.int 1)))]) (.call (.fn "is_between") [(.sub (.loc 0) (.lit (.int 2))), (.lit (.int 1)), (.lit (.int 48))]))))] []),
 (.ite (.cmp (.call (.bi .len) [(.loc 0)]) .NotEq (.lit (.int 4))) [(.ret (.lit (.bool false)))] []),
 (.ite (.cmp (.loc 1) .Eq (.lit (.str "every"))) [(.ret (.and (.call (.fn "is_time") [(.sub (.loc 0) (.lit (.int 1)))]) (.and (.call (.fn "is_between") [(.sub (.loc 0) (.lit (.int 2))), (.lit (.int 1)), (.lit (.int 48))]) (.call (.fn "is_between") [(.sub (.loc 0) (.lit (.int 3))), (.lit (.int 1)), (.lit (.int 1000000))]))))] []),
 (.ite (.or (.not (.call (.fn "is_between") [(.sub (.loc 0) (.lit (.int 2))), (.lit (.int 0)), (.lit (.int 23))])) (.not (.call (.fn "is_between") [(.sub (.loc 0) (.lit (.int 3))), (.lit (.int 1)), (.lit (.int 48))]))) [(.ret (.lit (.bool false)))] []),
 (.ite (.cmp (.loc 1) .Eq (.lit (.str "week"))) [(.ret (.call (.fn "are_rising") [(.sub (.loc 0) (.lit (.int 1))), (.lit (.int 7)), (.lit (.int 6))]))] []),
 (.ret (.and (.cmp (.loc 1) .Eq (.lit (.str "month"))) (.and (.call (.fn "is_between") [(.sub (.loc 0) (.lit (.int 1))), (.neg (.lit (.int 31))), (.lit (.int 31))]) (.cmp (.sub (.loc 0) (.lit (.int 1))) .NotEq (.lit (.int 0))))))] }
noncomputable def f_is_rule : Fn := { names := 5, params := 1, body := [
 (.for 1 .range (.lit (.int 8)) [(.ite (.or (.not (.call (.bi .isinstance) [(.loc 0), (.lit (.ty .tuple))])) (.or (.cmp (.call (.bi .len) [(.loc 0)]) .Eq (.lit (.int 0))) (.not (.call (.bi .isinstance) [(.sub (.loc 0) (.lit (.int 0))), (.lit (.ty .str))])))) [(.ret (.lit (.bool false)))] []), (.ite (.cmp (.sub (.loc 0) (.lit (.int 0))) .NotIn (.lit (.tup [(.str "from"), (.str "until"), (.str "also"), (.str "but")]))) [(.ret (.call (.fn "is_plain") [(.loc 0)]))] []), (.ite (.cmp (.call (.bi .len) [(.loc 0)]) .NotEq (.lit (.int 3))) [(.ret (.lit (.bool false)))] []), (.ite (.and (.cmp (.sub (.loc 0) (.lit (.int 0))) .Eq (.lit (.str "but"))) (.not (.call (.fn "are_rising") [(.sub (.loc 0) (.lit (.int 1))), (.lit (.int 20)), (.bin .Sub (.lit (.int 100000000000)) (.lit (.int 1)))]))) [(.ret (.lit (.bool false)))] []), (.ite (.and (.cmp (.sub (.loc 0) (.lit (.int 0))) .NotEq (.lit (.str "but"))) (.not (.call (.fn "is_time") [(.sub (.loc 0) (.lit (.int 1)))]))) [(.ret (.lit (.bool false)))] []), (.assign 0 (.sub (.loc 0) (.lit (.int 2))))]),
 (.ret (.lit (.bool false)))] }
noncomputable def f_innermost : Fn := { names := 4, params := 1, body := [
 (.while (.cmp (.sub (.loc 0) (.lit (.int 0))) .In (.lit (.tup [(.str "from"), (.str "until"), (.str "also"), (.str "but")]))) [(.assign 0 (.sub (.loc 0) (.lit (.int 2))))]),
 (.ret (.loc 0))] }
noncomputable def f_length_of : Fn := { names := 5, params := 1, body := [
 (.assign 1 (.call (.fn "innermost") [(.loc 0)])),
 (.ite (.or (.cmp (.sub (.loc 1) (.lit (.int 0))) .Eq (.lit (.str "once"))) (.cmp (.sub (.loc 1) (.lit (.int 0))) .Eq (.lit (.str "every")))) [(.ret (.sub (.loc 1) (.lit (.int 2))))] []),
 (.ret (.sub (.loc 1) (.lit (.int 3))))] }
noncomputable def f_begins_plain : Fn := { names := 6, params := 2, body := [
 (.ite (.cmp (.sub (.loc 0) (.lit (.int 0))) .Eq (.lit (.str "once"))) [(.ret (.cmp (.loc 1) .Eq (.sub (.loc 0) (.lit (.int 1)))))] []),
 (.ite (.cmp (.sub (.loc 0) (.lit (.int 0))) .Eq (.lit (.str "every"))) [(.ret (.and (.cmp (.loc 1) .GtE (.sub (.loc 0) (.lit (.int 1)))) (.cmp (.bin .Mod (.bin .Sub (.loc 1) (.sub (.loc 0) (.lit (.int 1)))) (.sub (.loc 0) (.lit (.int 3)))) .Eq (.lit (.int 0)))))] []),
 (.ite (.cmp (.bin .Mod (.loc 1) (.lit (.int 24))) .NotEq (.sub (.loc 0) (.lit (.int 2)))) [(.ret (.lit (.bool false)))] []),
 (.assign 2 (.bin .FloorDiv (.loc 1) (.lit (.int 24)))),
 (.ite (.cmp (.sub (.loc 0) (.lit (.int 0))) .Eq (.lit (.str "week"))) [(.ret (.cmp (.bin .Mod (.loc 2) (.lit (.int 7))) .In (.sub (.loc 0) (.lit (.int 1)))))] []),
 (.ite (.cmp (.sub (.loc 0) (.lit (.int 1))) .Lt (.lit (.int 0))) [(.ret (.cmp (.call (.fn "from_end") [(.loc 2)]) .Eq (.sub (.loc 0) (.lit (.int 1)))))] []),
 (.ret (.cmp (.sub (.call (.fn "date_of") [(.loc 2)]) (.lit (.int 2))) .Eq (.sub (.loc 0) (.lit (.int 1)))))] }
noncomputable def f_begins : Fn := { names := 5, params := 2, body := [
 (.ite (.cmp (.loc 1) .Lt (.lit (.int 0))) [(.ret (.lit (.bool false)))] []),
 (.while (.cmp (.sub (.loc 0) (.lit (.int 0))) .In (.lit (.tup [(.str "from"), (.str "until"), (.str "also"), (.str "but")]))) [(.ite (.and (.cmp (.sub (.loc 0) (.lit (.int 0))) .Eq (.lit (.str "from"))) (.cmp (.loc 1) .Lt (.sub (.loc 0) (.lit (.int 1))))) [(.ret (.lit (.bool false)))] []), (.ite (.and (.cmp (.sub (.loc 0) (.lit (.int 0))) .Eq (.lit (.str "until"))) (.cmp (.loc 1) .GtE (.sub (.loc 0) (.lit (.int 1))))) [(.ret (.lit (.bool false)))] []), (.ite (.and (.cmp (.sub (.loc 0) (.lit (.int 0))) .Eq (.lit (.str "also"))) (.cmp (.loc 1) .Eq (.sub (.loc 0) (.lit (.int 1))))) [(.ret (.lit (.bool true)))] []), (.ite (.and (.cmp (.sub (.loc 0) (.lit (.int 0))) .Eq (.lit (.str "but"))) (.cmp (.bin .FloorDiv (.loc 1) (.lit (.int 24))) .In (.sub (.loc 0) (.lit (.int 1))))) [(.ret (.lit (.bool false)))] []), (.assign 0 (.sub (.loc 0) (.lit (.int 2))))]),
 (.ret (.call (.fn "begins_plain") [(.loc 0), (.loc 1)]))] }
noncomputable def f_covers : Fn := { names := 6, params := 2, body := [
 (.ite (.cmp (.loc 1) .Lt (.lit (.int 0))) [(.ret (.lit (.bool false)))] []),
 (.for 2 .range (.call (.fn "length_of") [(.loc 0)]) [(.ite (.call (.fn "begins") [(.loc 0), (.bin .Sub (.loc 1) (.loc 2))]) [(.ret (.lit (.bool true)))] [])]),
 (.ret (.lit (.bool false)))] }
noncomputable def f_round_of : Fn := { names := 5, params := 1, body := [
 (.assign 1 (.call (.fn "innermost") [(.loc 0)])),
 (.ite (.cmp (.sub (.loc 1) (.lit (.int 0))) .Eq (.lit (.str "once"))) [(.ret (.lit (.int 1)))] []),
 (.ite (.cmp (.sub (.loc 1) (.lit (.int 0))) .Eq (.lit (.str "every"))) [(.ret (.sub (.loc 1) (.lit (.int 3))))] []),
 (.ite (.cmp (.sub (.loc 1) (.lit (.int 0))) .Eq (.lit (.str "week"))) [(.ret (.lit (.int 168)))] []),
 (.ret (.lit (.int 35064)))] }
noncomputable def f_settled_plain : Fn := { names := 4, params := 1, body := [
 (.ite (.cmp (.sub (.loc 0) (.lit (.int 0))) .Eq (.lit (.str "once"))) [(.ret (.bin .Add (.sub (.loc 0) (.lit (.int 1))) (.lit (.int 1))))] []),
 (.ite (.cmp (.sub (.loc 0) (.lit (.int 0))) .Eq (.lit (.str "every"))) [(.ret (.sub (.loc 0) (.lit (.int 1))))] []),
 (.ret (.lit (.int 0)))] }
noncomputable def f_settled : Fn := { names := 5, params := 1, body := [
 (.assign 1 (.lit (.int 0))),
 (.while (.cmp (.sub (.loc 0) (.lit (.int 0))) .In (.lit (.tup [(.str "from"), (.str "until"), (.str "also"), (.str "but")]))) [(.ite (.cmp (.sub (.loc 0) (.lit (.int 0))) .Eq (.lit (.str "also"))) [(.assign 1 (.call (.bi .max) [(.loc 1), (.bin .Add (.sub (.loc 0) (.lit (.int 1))) (.lit (.int 1)))]))] [(.ite (.cmp (.sub (.loc 0) (.lit (.int 0))) .Eq (.lit (.str "but"))) [(.assign 1 (.call (.bi .max) [(.loc 1), (.bin .Mult (.lit (.int 24)) (.bin .Add (.sub (.sub (.loc 0) (.lit (.int 1))) (.neg (.lit (.int 1)))) (.lit (.int 1))))]))] [(.assign 1 (.call (.bi .max) [(.loc 1), (.sub (.loc 0) (.lit (.int 1)))]))])]), (.assign 0 (.sub (.loc 0) (.lit (.int 2))))]),
 (.ret (.call (.bi .max) [(.loc 1), (.call (.fn "settled_plain") [(.loc 0)])]))] }
noncomputable def f_greatest_common : Fn := { names := 6, params := 2, body := [
 (.while (.cmp (.loc 1) .Gt (.lit (.int 0))) [(.assign 2 (.bin .Mod (.loc 0) (.loc 1))), (.assign 0 (.loc 1)), (.assign 1 (.loc 2))]),
 (.ret (.loc 0))] }
noncomputable def f_least_common : Fn := { names := 6, params := 1, body := [
 (.assign 1 (.lit (.int 1))),
 (.for 2 .val (.loc 0) [(.assign 1 (.bin .Mult (.bin .FloorDiv (.loc 1) (.call (.fn "greatest_common") [(.loc 1), (.loc 2)])) (.loc 2)))]),
 (.ret (.loc 1))] }
noncomputable def f_is_name : Fn := { names := 5, params := 1, body := [
 (.ite (.or (.not (.call (.bi .isinstance) [(.loc 0), (.lit (.ty .str))])) (.not (.cmp2 (.lit (.int 1)) .LtE (.call (.bi .len) [(.loc 0)]) .LtE (.lit (.int 12))))) [(.ret (.lit (.bool false)))] []),
 (.for 1 .val (.loc 0) [(.ite (.cmp (.loc 1) .NotIn (.lit (.str "abcdefghijklmnopqrstuvwxyz"))) [(.ret (.lit (.bool false)))] [])]),
 (.ret (.lit (.bool true)))] }
noncomputable def f_some_covers : Fn := { names := 6, params := 2, body := [
 (.for 2 .val (.loc 0) [(.ite (.call (.fn "covers") [(.loc 2), (.loc 1)]) [(.ret (.lit (.bool true)))] [])]),
 (.ret (.lit (.bool false)))] }
noncomputable def f_need_stretch : Fn := { names := 6, params := 3, body := [
 (.ite (.or (.not (.call (.fn "is_between") [(.loc 0), (.lit (.int 1)), (.lit (.int 48))])) (.or (.not (.call (.fn "is_time") [(.loc 1)])) (.not (.call (.fn "is_time") [(.loc 2)])))) [(.raise "NoTime" ["NoTime", "HourError", "ValueError"])] []),
 (.ite (.not (.cmp2 (.loc 1) .LtE (.loc 2) .LtE (.bin .Add (.loc 1) (.lit (.int 10000))))) [(.raise "NoTime" ["NoTime", "HourError", "ValueError"])] [])] }
noncomputable def f_B___init__ : Fn := { names := 4, params := 1, body := [
 (.setAttr (.loc 0) "names" (.lst [])),
 (.setAttr (.loc 0) "free_rules" .dct),
 (.setAttr (.loc 0) "busy_rules" .dct),
 (.setAttr (.loc 0) "held" (.lst [])),
 (.setAttr (.loc 0) "given" (.lit (.int 0)))] }
noncomputable def f_B_come : Fn := { names := 7, params := 3, body := [
 (.ite (.not (.call (.fn "is_name") [(.loc 1)])) [(.raise "NoName" ["NoName", "HourError", "ValueError"])] []),
 (.ite (.cmp (.loc 1) .In (.attr (.loc 0) "names")) [(.raise "Taken" ["Taken", "HourError", "ValueError"])] []),
 (.ite (.cmp (.call (.bi .len) [(.loc 2)]) .Gt (.lit (.int 20))) [(.raise "NoRule" ["NoRule", "HourError", "ValueError"])] []),
 (.for 3 .val (.loc 2) [(.ite (.not (.call (.fn "is_rule") [(.loc 3)])) [(.raise "NoRule" ["NoRule", "HourError", "ValueError"])] [])]),
 (.expr (.meth (.attr (.loc 0) "names") .append [(.loc 1)])),
 (.setItem (.attr (.loc 0) "free_rules") (.loc 1) (.call (.ty .list) [(.loc 2)])),
 (.setItem (.attr (.loc 0) "busy_rules") (.loc 1) (.lst []))] }
noncomputable def f_B_need_somebody : Fn := { names := 5, params := 2, body := [
 (.ite (.cmp (.loc 1) .NotIn (.attr (.loc 0) "names")) [(.raise "Stranger" ["Stranger", "HourError", "ValueError"])] [])] }
noncomputable def f_B_busy : Fn := { names := 8, params := 3, body := [
 (.expr (.mcall (.loc 0) "need_somebody" [(.loc 1)])),
 (.ite (.or (.not (.call (.fn "is_rule") [(.loc 2)])) (.cmp (.call (.bi .len) [(.sub (.attr (.loc 0) "busy_rules") (.loc 1))]) .GtE (.lit (.int 20)))) [(.raise "NoRule" ["NoRule", "HourError", "ValueError"])] []),
 (.for 3 .val (.attr (.loc 0) "held") [(.ite (.cmp (.loc 1) .In (.sub (.loc 3) (.lit (.int 3)))) [(.for 4 .range (.sub (.loc 3) (.lit (.int 2))) [(.ite (.call (.fn "covers") [(.loc 2), (.bin .Add (.sub (.loc 3) (.lit (.int 1))) (.loc 4))]) [(.raise "Clash" ["Clash", "HourError", "ValueError"])] [])])] [])]),
 (.expr (.meth (.sub (.attr (.loc 0) "busy_rules") (.loc 1)) .append [(.loc 2)]))] }
noncomputable def f_B_meets_at : Fn := { names := 8, params := 4, body := [
 (.for 4 .val (.attr (.loc 0) "held") [(.ite (.and (.cmp (.sub (.loc 4) (.lit (.int 0))) .NotEq (.loc 3)) (.and (.cmp (.loc 1) .In (.sub (.loc 4) (.lit (.int 3)))) (.cmp2 (.sub (.loc 4) (.lit (.int 1))) .LtE (.loc 2) .Lt (.bin .Add (.sub (.loc 4) (.lit (.int 1))) (.sub (.loc 4) (.lit (.int 2))))))) [(.ret (.lit (.bool true)))] [])]),
 (.ret (.lit (.bool false)))] }
noncomputable def f_B_free_at : Fn := { names := 7, params := 4, body := [
 (.ite (.or (.cmp (.loc 2) .Lt (.lit (.int 0))) (.mcall (.loc 0) "meets_at" [(.loc 1), (.loc 2), (.loc 3)])) [(.ret (.lit (.bool false)))] []),
 (.ret (.and (.call (.fn "some_covers") [(.sub (.attr (.loc 0) "free_rules") (.loc 1)), (.loc 2)]) (.not (.call (.fn "some_covers") [(.sub (.attr (.loc 0) "busy_rules") (.loc 1)), (.loc 2)]))))] }
noncomputable def f_B_need_all : Fn := { names := 6, params := 2, body := [
 (.ite (.cmp (.call (.bi .len) [(.loc 1)]) .Eq (.lit (.int 0))) [(.raise "Stranger" ["Stranger", "HourError", "ValueError"])] []),
 (.for 2 .val (.loc 1) [(.expr (.mcall (.loc 0) "need_somebody" [(.loc 2)]))]),
 (.for 2 .val (.loc 1) [(.ite (.cmp (.meth (.loc 1) .count [(.loc 2)]) .Gt (.lit (.int 1))) [(.raise "Twice" ["Twice", "HourError", "ValueError"])] [])])] }
noncomputable def f_B_bar : Fn := { names := 11, params := 5, body := [
 (.for 5 .range2 (.tup [(.lit (.int 1)), (.bin .Add (.loc 2) (.lit (.int 1)))]) [(.assign 6 (.bin .Sub (.bin .Add (.loc 3) (.loc 2)) (.loc 5))), (.for 7 .val (.loc 1) [(.ite (.not (.mcall (.loc 0) "free_at" [(.loc 7), (.loc 6), (.loc 4)])) [(.ret (.tup [(.loc 7), (.loc 6)]))] [])])]),
 (.ret (.lit .none))] }
noncomputable def f_B_look : Fn := { names := 11, params := 6, body := [
 (.assign 6 (.lst [])),
 (.while (.cmp (.loc 3) .LtE (.loc 4)) [(.assign 7 (.mcall (.loc 0) "bar" [(.loc 1), (.loc 2), (.loc 3), (.loc 5)])), (.ite (.cmp (.loc 7) .Is (.lit .none)) [(.ret (.tup [(.loc 3), (.loc 6)]))] []), (.expr (.meth (.loc 6) .append [(.tup [(.loc 3), (.call (.bi .min) [(.loc 4), (.sub (.loc 7) (.lit (.int 1)))]), (.sub (.loc 7) (.lit (.int 0))), (.sub (.loc 7) (.lit (.int 1)))])])), (.assign 3 (.bin .Add (.sub (.loc 7) (.lit (.int 1))) (.lit (.int 1))))]),
 (.ret (.tup [(.lit .none), (.loc 6)]))] }
noncomputable def f_B_first : Fn := { names := 8, params := 5, body := [
 (.expr (.mcall (.loc 0) "need_all" [(.loc 1)])),
 (.expr (.call (.fn "need_stretch") [(.loc 2), (.loc 3), (.loc 4)])),
 (.ret (.mcall (.loc 0) "look" [(.loc 1), (.loc 2), (.loc 3), (.bin .Sub (.loc 4) (.loc 2)), (.lit (.int 0))]))] }
noncomputable def f_B_meet : Fn := { names := 9, params := 5, body := [
 (.assign 5 (.sub (.mcall (.loc 0) "first" [(.loc 1), (.loc 2), (.loc 3), (.loc 4)]) (.lit (.int 0)))),
 (.ite (.cmp (.loc 5) .Is (.lit .none)) [(.ret (.lit .none))] []),
 (.setAttr (.loc 0) "given" (.bin .Add (.attr (.loc 0) "given") (.lit (.int 1)))),
 (.expr (.meth (.attr (.loc 0) "held") .append [(.tup [(.attr (.loc 0) "given"), (.loc 5), (.loc 2), (.call (.ty .tuple) [(.loc 1)])])])),
 (.ret (.tup [(.attr (.loc 0) "given"), (.loc 5)]))] }
noncomputable def f_B_meetings : Fn := { names := 4, params := 1, body := [
 (.ret (.call (.ty .list) [(.attr (.loc 0) "held")]))] }
noncomputable def f_B_place_of : Fn := { names := 6, params := 2, body := [
 (.ite (.call (.fn "is_whole") [(.loc 1)]) [(.for 2 .range (.call (.bi .len) [(.attr (.loc 0) "held")]) [(.ite (.cmp (.sub (.sub (.attr (.loc 0) "held") (.loc 2)) (.lit (.int 0))) .Eq (.loc 1)) [(.ret (.loc 2))] [])])] []),
 (.raise "NoMeeting" ["NoMeeting", "HourError", "ValueError"])] }
noncomputable def f_B_drop : Fn := { names := 6, params := 2, body := [
 (.assign 2 (.mcall (.loc 0) "place_of" [(.loc 1)])),
 (.setAttr (.loc 0) "held" (.bin .Add (.slice (.attr (.loc 0) "held") none (some (.loc 2))) (.slice (.attr (.loc 0) "held") (some (.bin .Add (.loc 2) (.lit (.int 1)))) none)))] }
noncomputable def f_B_move : Fn := { names := 10, params := 4, body := [
 (.assign 4 (.mcall (.loc 0) "place_of" [(.loc 1)])),
 (.assign 5 (.sub (.attr (.loc 0) "held") (.loc 4))),
 (.expr (.call (.fn "need_stretch") [(.sub (.loc 5) (.lit (.int 2))), (.loc 2), (.loc 3)])),
 (.assign 6 (.sub (.mcall (.loc 0) "look" [(.sub (.loc 5) (.lit (.int 3))), (.sub (.loc 5) (.lit (.int 2))), (.loc 2), (.bin .Sub (.loc 3) (.sub (.loc 5) (.lit (.int 2)))), (.loc 1)]) (.lit (.int 0)))),
 (.ite (.cmp (.loc 6) .IsNot (.lit .none)) [(.setItem (.attr (.loc 0) "held") (.loc 4) (.tup [(.loc 1), (.loc 6), (.sub (.loc 5) (.lit (.int 2))), (.sub (.loc 5) (.lit (.int 3)))]))] []),
 (.ret (.loc 6))] }
noncomputable def f_B_rules_of : Fn := { names := 7, params := 2, body := [
 (.assign 2 (.lst [])),
 (.for 3 .val (.loc 1) [(.assign 2 (.bin .Add (.bin .Add (.loc 2) (.sub (.attr (.loc 0) "free_rules") (.loc 3))) (.sub (.attr (.loc 0) "busy_rules") (.loc 3))))]),
 (.ret (.loc 2))] }
noncomputable def f_B_quiet_from : Fn := { names := 9, params := 2, body := [
 (.assign 2 (.lit (.int 0))),
 (.for 3 .val (.mcall (.loc 0) "rules_of" [(.loc 1)]) [(.assign 2 (.call (.bi .max) [(.loc 2), (.call (.fn "settled") [(.loc 3)])]))]),
 (.for 4 .val (.attr (.loc 0) "held") [(.for 5 .val (.loc 1) [(.ite (.cmp (.loc 5) .In (.sub (.loc 4) (.lit (.int 3)))) [(.assign 2 (.call (.bi .max) [(.loc 2), (.bin .Add (.sub (.loc 4) (.lit (.int 1))) (.sub (.loc 4) (.lit (.int 2))))]))] [])])]),
 (.ret (.bin .Add (.loc 2) (.lit (.int 48))))] }
noncomputable def f_B_ever : Fn := { names := 8, params := 4, body := [
 (.expr (.mcall (.loc 0) "need_all" [(.loc 1)])),
 (.ite (.or (.not (.call (.fn "is_between") [(.loc 2), (.lit (.int 1)), (.lit (.int 48))])) (.not (.call (.fn "is_time") [(.loc 3)]))) [(.raise "NoTime" ["NoTime", "HourError", "ValueError"])] []),
 (.assign 4 (.call (.fn "least_common") [(.comp (.call (.fn "round_of") [(.loc 5)]) 5 .val (.mcall (.loc 0) "rules_of" [(.loc 1)]))])),
 (.assign 4 (.bin .Add (.loc 4) (.call (.bi .max) [(.lit (.int 0)), (.bin .Sub (.mcall (.loc 0) "quiet_from" [(.loc 1)]) (.loc 3))]))),
 (.ite (.cmp (.loc 4) .Gt (.lit (.int 5000))) [(.raise "TooLong" ["TooLong", "HourError", "ValueError"])] []),
 (.ret (.sub (.mcall (.loc 0) "look" [(.loc 1), (.loc 2), (.loc 3), (.bin .Sub (.bin .Add (.loc 3) (.loc 4)) (.lit (.int 1))), (.lit (.int 0))]) (.lit (.int 0))))] }
noncomputable def f_l_cell_at : Fn := { names := 5, params := 2, body := [
 (.ite (.cmp (.call (.bi .len) [(.loc 0)]) .Eq (.lit (.int 0))) [(.ret (.lit (.int 0)))] []),
 (.ret (.bin .Add (.sub (.loc 0) (.bin .Mod (.loc 1) (.call (.bi .len) [(.loc 0)]))) (.bin .Mult (.bin .FloorDiv (.loc 1) (.call (.bi .len) [(.loc 0)])) (.lit (.int 31)))))] }
noncomputable def f_l_whole : Fn := { names := 4, params := 1, body := [
 (.ret (.and (.call (.bi .isinstance) [(.loc 0), (.lit (.ty .int))]) (.not (.call (.bi .isinstance) [(.loc 0), (.lit (.ty .bool))]))))] }
noncomputable def f_l_plain_begins : Fn := { names := 5, params := 2, body := [
 (.ite (.cmp (.sub (.loc 0) (.lit (.int 0))) .Eq (.lit (.str "once"))) [(.ret (.cmp (.loc 1) .Eq (.sub (.loc 0) (.lit (.int 1)))))] []),
 (.ite (.cmp (.sub (.loc 0) (.lit (.int 0))) .Eq (.lit (.str "every"))) [(.ret (.and (.cmp (.loc 1) .GtE (.sub (.loc 0) (.lit (.int 1)))) (.cmp (.bin .Mod (.bin .Sub (.loc 1) (.sub (.loc 0) (.lit (.int 1)))) (.sub (.loc 0) (.lit (.int 3)))) .Eq (.lit (.int 0)))))] []),
 (.ite (.or (.cmp (.loc 1) .Lt (.lit (.int 0))) (.cmp (.bin .Mod (.loc 1) (.lit (.int 24))) .NotEq (.sub (.loc 0) (.lit (.int 2))))) [(.ret (.lit (.bool false)))] []),
 (.ite (.cmp (.sub (.loc 0) (.lit (.int 0))) .Eq (.lit (.str "week"))) [(.ret (.cmp (.bin .Mod (.bin .FloorDiv (.loc 1) (.lit (.int 24))) (.lit (.int 7))) .In (.sub (.loc 0) (.lit (.int 1)))))] []),
 (.ret (.cmp (.sub (.loc 0) (.lit (.int 1))) .In (.call (.fn "_law_in_month") [(.bin .FloorDiv (.loc 1) (.lit (.int 24)))])))] }
noncomputable def f_l_bearing : Fn := { names := 3, params := 0, body := [
 (.ret (.lst [(.lit (.str "from")), (.lit (.str "until")), (.lit (.str "also")), (.lit (.str "but"))]))] }
noncomputable def f_l_heads : Fn := { names := 5, params := 1, body := [
 (.assign 1 (.lst [])),
 (.while (.cmp (.sub (.loc 0) (.lit (.int 0))) .In (.call (.fn "_law_bearing") [])) [(.expr (.meth (.loc 1) .append [(.loc 0)])), (.assign 0 (.sub (.loc 0) (.lit (.int 2))))]),
 (.ret (.bin .Add (.loc 1) (.lst [(.loc 0)])))] }
noncomputable def f_l_begun : Fn := { names := 8, params := 2, body := [
 (.assign 2 (.call (.fn "_law_heads") [(.loc 0)])),
 (.assign 3 (.call (.fn "_law_plain_begins") [(.sub (.loc 2) (.neg (.lit (.int 1)))), (.loc 1)])),
 (.for 4 .rev (.slice (.loc 2) none (some (.neg (.lit (.int 1))))) [(.ite (.cmp (.sub (.loc 4) (.lit (.int 0))) .Eq (.lit (.str "from"))) [(.assign 3 (.and (.loc 3) (.cmp (.loc 1) .GtE (.sub (.loc 4) (.lit (.int 1))))))] [(.ite (.cmp (.sub (.loc 4) (.lit (.int 0))) .Eq (.lit (.str "until"))) [(.assign 3 (.and (.loc 3) (.cmp (.loc 1) .Lt (.sub (.loc 4) (.lit (.int 1))))))] [(.ite (.cmp (.sub (.loc 4) (.lit (.int 0))) .Eq (.lit (.str "also"))) [(.assign 3 (.or (.loc 3) (.cmp (.loc 1) .Eq (.sub (.loc 4) (.lit (.int 1))))))] [(.assign 3 (.and (.loc 3) (.cmp (.bin .FloorDiv (.loc 1) (.lit (.int 24))) .NotIn (.sub (.loc 4) (.lit (.int 1))))))])])])]),
 (.ret (.loc 3))] }
noncomputable def f_l_size : Fn := { names := 5, params := 1, body := [
 (.assign 1 (.sub (.call (.fn "_law_heads") [(.loc 0)]) (.neg (.lit (.int 1))))),
 (.ite (.cmp (.sub (.loc 1) (.lit (.int 0))) .In (.lst [(.lit (.str "once")), (.lit (.str "every"))])) [(.ret (.sub (.loc 1) (.lit (.int 2))))] []),
 (.ret (.sub (.loc 1) (.lit (.int 3))))] }
noncomputable def f_l_weekdays : Fn := { names := 6, params := 1, body := [
 (.assign 1 (.lst [])),
 (.for 2 .range (.lit (.int 7)) [(.ite (.cmp (.bin .Mod (.loc 0) (.lit (.int 2))) .Eq (.lit (.int 1))) [(.expr (.meth (.loc 1) .append [(.loc 2)]))] []), (.assign 0 (.bin .FloorDiv (.loc 0) (.lit (.int 2))))]),
 (.ret (.call (.ty .tuple) [(.loc 1)]))] }
noncomputable def f_l_far : Fn := { names := 4, params := 1, body := [
 (.ret (.sub (.lst [(.lit (.int 0)), (.bin .Mod (.bin .FloorDiv (.loc 0) (.lit (.int 4))) (.bin .Pow (.lit (.int 10)) (.lit (.int 6)))), (.bin .Mod (.bin .FloorDiv (.loc 0) (.lit (.int 4))) (.bin .Sub (.bin .Pow (.lit (.int 10)) (.lit (.int 12))) (.lit (.int 20000)))), (.bin .Sub (.bin .Pow (.lit (.int 10)) (.lit (.int 12))) (.lit (.int 200)))]) (.bin .Mod (.loc 0) (.lit (.int 4)))))] }
noncomputable def f_l_name_by : Fn := { names := 10, params := 3, body := [
 (.assign 3 (.lit (.str "abcdefghijklmnopqrstuvwxyz"))),
 (.assign 4 (.bin .Mod (.bin .FloorDiv (.loc 0) (.lit (.int 2))) (.lit (.int 12)))),
 (.ite (.cmp (.bin .Mod (.loc 0) (.lit (.int 2))) .Eq (.lit (.int 1))) [(.assign 1 (.bin .FloorDiv (.loc 0) (.lit (.int 48))))] []),
 (.assign 5 (.lit (.str ""))),
 (.ite (.cmp (.bin .Mod (.loc 0) (.lit (.int 6))) .Eq (.lit (.int 4))) [(.for 6 .range (.bin .Add (.loc 2) (.lit (.int 1))) [(.assign 5 (.bin .Add (.loc 5) (.sub (.loc 3) (.bin .Mod (.bin .Add (.bin .FloorDiv (.loc 0) (.lit (.int 6))) (.bin .Mult (.loc 6) (.bin .Add (.lit (.int 1)) (.bin .Mod (.bin .FloorDiv (.loc 0) (.lit (.int 150))) (.lit (.int 5)))))) (.lit (.int 25))))))]), (.ret (.loc 5))] []),
 (.for 6 .range (.bin .Add (.bin .Add (.loc 4) (.lit (.int 1))) (.bin .Mod (.bin .FloorDiv (.loc 1) (.lit (.int 24))) (.bin .Sub (.lit (.int 12)) (.loc 4)))) [(.ite (.cmp (.loc 6) .Eq (.loc 4)) [(.assign 5 (.bin .Add (.loc 5) (.sub (.loc 3) (.bin .Add (.bin .Mult (.bin .Mod (.bin .FloorDiv (.loc 0) (.lit (.int 24))) (.lit (.int 2))) (.lit (.int 13))) (.loc 2)))))] [(.assign 5 (.bin .Add (.loc 5) (.sub (.loc 3) (.bin .Mod (.bin .Add (.bin .FloorDiv (.loc 1) (.lit (.int 288))) (.bin .Mult (.loc 6) (.bin .Add (.lit (.int 1)) (.bin .Mod (.loc 1) (.lit (.int 5)))))) (.lit (.int 26))))))])]),
 (.ret (.loc 5))] }
noncomputable def f_l_lasts : Fn := { names := 6, params := 2, body := [
 (.for 2 .range (.call (.fn "_law_size") [(.loc 0)]) [(.ite (.and (.cmp (.loc 1) .GtE (.loc 2)) (.call (.fn "_law_begun") [(.loc 0), (.bin .Sub (.loc 1) (.loc 2))])) [(.ret (.lit (.bool true)))] [])]),
 (.ret (.lit (.bool false)))] }
noncomputable def f_l_open : Fn := { names := 5, params := 2, body := [
 (.ite (.call (.bi .any) [(.comp2 (.and (.cmp (.loc 2) .LtE (.loc 1)) (.cmp (.loc 1) .Lt (.bin .Add (.loc 2) (.loc 3)))) 2 .val (.sub (.loc 0) (.lit (.int 3))))]) [(.ret (.lit (.bool false)))] []),
 (.ite (.not (.call (.bi .any) [(.comp (.call (.fn "_law_lasts") [(.loc 2), (.loc 1)]) 2 .val (.sub (.loc 0) (.lit (.int 1))))])) [(.ret (.lit (.bool false)))] []),
 (.ret (.not (.call (.bi .any) [(.comp (.call (.fn "_law_lasts") [(.loc 2), (.loc 1)]) 2 .val (.sub (.loc 0) (.lit (.int 2))))])))] }
noncomputable def f_l_small_rule : Fn := { names := 7, params := 2, body := [
 (.assign 2 (.tup [(.lit (.str "every")), (.bin .Add (.loc 1) (.bin .Mod (.sub (.loc 0) (.lit (.int 1))) (.lit (.int 8)))), (.bin .Add (.lit (.int 1)) (.bin .Mod (.bin .FloorDiv (.sub (.loc 0) (.lit (.int 0))) (.lit (.int 3))) (.lit (.int 2)))), (.sub (.lst [(.lit (.int 2)), (.lit (.int 3)), (.lit (.int 4)), (.lit (.int 5)), (.lit (.int 6)), (.lit (.int 8))]) (.bin .Mod (.sub (.loc 0) (.lit (.int 2))) (.lit (.int 6))))])),
 (.ite (.cmp (.bin .Mod (.sub (.loc 0) (.lit (.int 0))) (.lit (.int 7))) .Eq (.lit (.int 0))) [(.assign 2 (.tup [(.lit (.str "once")), (.bin .Add (.loc 1) (.bin .Mod (.sub (.loc 0) (.lit (.int 1))) (.lit (.int 30)))), (.bin .Add (.lit (.int 1)) (.bin .Mod (.bin .FloorDiv (.sub (.loc 0) (.lit (.int 0))) (.lit (.int 3))) (.lit (.int 2))))]))] []),
 (.ite (.cmp (.bin .Mod (.sub (.loc 0) (.lit (.int 0))) (.lit (.int 5))) .Eq (.lit (.int 1))) [(.assign 3 (.sub (.lst [(.lit (.str "from")), (.lit (.str "until")), (.lit (.str "also"))]) (.bin .Mod (.bin .FloorDiv (.sub (.loc 0) (.lit (.int 2))) (.lit (.int 6))) (.lit (.int 3))))), (.assign 2 (.tup [(.loc 3), (.bin .Add (.loc 1) (.bin .Mod (.bin .FloorDiv (.sub (.loc 0) (.lit (.int 2))) (.lit (.int 18))) (.lit (.int 30)))), (.loc 2)]))] []),
 (.ite (.cmp (.bin .Mod (.sub (.loc 0) (.lit (.int 0))) (.lit (.int 11))) .Eq (.lit (.int 2))) [(.assign 2 (.tup [(.lit (.str "but")), (.tup [(.bin .FloorDiv (.bin .Add (.loc 1) (.bin .Mod (.bin .FloorDiv (.sub (.loc 0) (.lit (.int 2))) (.lit (.int 6))) (.lit (.int 30)))) (.lit (.int 24)))]), (.loc 2)]))] []),
 (.ret (.loc 2))] }
noncomputable def f_l_some_by : Fn := { names := 13, params := 4, body := [
 (.assign 4 (.lst [])),
 (.assign 5 (.bin .FloorDiv (.call (.fn "_law_cell_at") [(.loc 0), (.bin .Add (.loc 1) (.lit (.int 9)))]) (.lit (.int 7)))),
 (.for 6 .range (.loc 2) [(.assign 7 (.comp (.call (.fn "_law_cell_at") [(.loc 0), (.bin .Add (.bin .Add (.loc 1) (.bin .Mult (.lit (.int 10)) (.loc 6))) (.loc 10))]) 10 .range (.lit (.int 10)))), (.assign 8 (.lst [(.call (.fn "_law_small_rule") [(.slice (.loc 7) (some (.lit (.int 1))) (some (.lit (.int 4)))), (.loc 3)])])), (.ite (.cmp (.bin .Mod (.sub (.loc 7) (.lit (.int 0))) (.lit (.int 4))) .Eq (.lit (.int 1))) [(.expr (.meth (.loc 8) .append [(.call (.fn "_law_small_rule") [(.slice (.loc 7) (some (.lit (.int 4))) (some (.lit (.int 7)))), (.loc 3)])]))] []), (.assign 9 (.lst [])), (.ite (.cmp (.bin .Mod (.bin .FloorDiv (.sub (.loc 7) (.lit (.int 0))) (.lit (.int 4))) (.lit (.int 3))) .Eq (.lit (.int 1))) [(.expr (.meth (.loc 9) .append [(.call (.fn "_law_small_rule") [(.slice (.loc 7) (some (.lit (.int 7))) (some (.lit (.int 10)))), (.loc 3)])]))] []), (.expr (.meth (.loc 4) .append [(.lst [(.call (.fn "_law_name_by") [(.loc 5), (.bin .FloorDiv (.sub (.loc 7) (.lit (.int 0))) (.lit (.int 12))), (.loc 6)]), (.loc 8), (.loc 9), (.lst [])])]))]),
 (.ret (.loc 4))] }
noncomputable def f_l_long_rule : Fn := { names := 6, params := 2, body := [
 (.ite (.cmp (.loc 1) .Gt (.bin .Sub (.bin .Pow (.lit (.int 10)) (.lit (.int 12))) (.lit (.int 20000)))) [(.ret (.tup [(.lit (.str "every")), (.loc 1), (.lit (.int 1)), (.bin .Add (.lit (.int 5001)) (.bin .Mod (.bin .FloorDiv (.loc 0) (.lit (.int 4))) (.lit (.int 990000))))]))] []),
 (.assign 2 (.lst [(.tup [(.lit (.str "every")), (.loc 1), (.lit (.int 1)), (.bin .Add (.lit (.int 5001)) (.bin .Mod (.bin .FloorDiv (.loc 0) (.lit (.int 4))) (.lit (.int 990000))))]), (.tup [(.lit (.str "month")), (.bin .Add (.lit (.int 1)) (.bin .Mod (.bin .FloorDiv (.loc 0) (.lit (.int 4))) (.lit (.int 28)))), (.lit (.int 5)), (.lit (.int 2))])])),
 (.assign 2 (.bin .Add (.loc 2) (.lst [(.tup [(.lit (.str "once")), (.bin .Add (.bin .Add (.loc 1) (.lit (.int 5100))) (.bin .Mod (.bin .FloorDiv (.loc 0) (.lit (.int 4))) (.lit (.int 9000)))), (.lit (.int 1))]), (.tup [(.lit (.str "until")), (.bin .Add (.bin .Add (.loc 1) (.lit (.int 5100))) (.bin .Mod (.bin .FloorDiv (.loc 0) (.lit (.int 4))) (.lit (.int 9000)))), (.tup [(.lit (.str "once")), (.lit (.int 0)), (.lit (.int 1))])])]))),
 (.ret (.sub (.loc 2) (.bin .Mod (.loc 0) (.lit (.int 4)))))] }
noncomputable def f_l_settled : Fn := { names := 6, params := 1, body := [
 (.assign 1 (.lit (.int 0))),
 (.for 2 .val (.call (.fn "_law_heads") [(.loc 0)]) [(.ite (.cmp (.sub (.loc 2) (.lit (.int 0))) .Eq (.lit (.str "but"))) [(.assign 1 (.call (.bi .max) [(.loc 1), (.bin .Add (.bin .Mult (.sub (.sub (.loc 2) (.lit (.int 1))) (.neg (.lit (.int 1)))) (.lit (.int 24))) (.lit (.int 24)))]))] []), (.ite (.cmp (.sub (.loc 2) (.lit (.int 0))) .In (.lst [(.lit (.str "also")), (.lit (.str "once"))])) [(.assign 1 (.call (.bi .max) [(.loc 1), (.bin .Add (.sub (.loc 2) (.lit (.int 1))) (.lit (.int 1)))]))] []), (.ite (.cmp (.sub (.loc 2) (.lit (.int 0))) .In (.lst [(.lit (.str "from")), (.lit (.str "until")), (.lit (.str "every"))])) [(.assign 1 (.call (.bi .max) [(.loc 1), (.sub (.loc 2) (.lit (.int 1)))]))] [])]),
 (.ret (.loc 1))] }
noncomputable def f_l_common : Fn := { names := 6, params := 2, body := [
 (.assign 2 (.loc 0)),
 (.while (.cmp (.bin .Mod (.loc 2) (.loc 1)) .NotEq (.lit (.int 0))) [(.assign 2 (.bin .Add (.loc 2) (.loc 0)))]),
 (.ret (.loc 2))] }
noncomputable def f_l_walk : Fn := { names := 11, params := 2, body := [
 (.assign 2 (.lit (.int 1))),
 (.assign 3 (.lit (.int 0))),
 (.for 4 .val (.loc 0) [(.for 5 .val (.bin .Add (.sub (.loc 4) (.lit (.int 1))) (.sub (.loc 4) (.lit (.int 2)))) [(.assign 6 (.sub (.call (.fn "_law_heads") [(.loc 5)]) (.neg (.lit (.int 1))))), (.assign 3 (.call (.bi .max) [(.loc 3), (.call (.fn "_law_settled") [(.loc 5)])])), (.ite (.cmp (.sub (.loc 6) (.lit (.int 0))) .Eq (.lit (.str "month"))) [(.assign 2 (.bin .Mult (.lit (.int 35064)) (.loc 2)))] []), (.ite (.cmp (.sub (.loc 6) (.lit (.int 0))) .Eq (.lit (.str "every"))) [(.assign 2 (.call (.fn "_law_common") [(.sub (.loc 6) (.lit (.int 3))), (.loc 2)]))] []), (.ite (.cmp (.sub (.loc 6) (.lit (.int 0))) .Eq (.lit (.str "week"))) [(.assign 2 (.call (.fn "_law_common") [(.lit (.int 168)), (.loc 2)]))] [])]), (.for 7 .val (.sub (.loc 4) (.lit (.int 3))) [(.assign 3 (.call (.bi .max) [(.loc 3), (.bin .Add (.sub (.loc 7) (.lit (.int 0))) (.sub (.loc 7) (.lit (.int 1))))]))])]),
 (.ret (.bin .Add (.loc 2) (.call (.bi .max) [(.lit (.int 0)), (.bin .Sub (.bin .Add (.loc 3) (.lit (.int 48))) (.loc 1))])))] }
noncomputable def f_l_all_open : Fn := { names := 8, params := 3, body := [
 (.for 3 .val (.loc 0) [(.for 4 .range (.loc 2) [(.ite (.not (.call (.fn "_law_open") [(.loc 3), (.bin .Add (.loc 1) (.loc 4))])) [(.ret (.lit (.bool false)))] [])])]),
 (.ret (.lit (.bool true)))] }
noncomputable def f_l_holds : Fn := { names := 12, params := 5, body := [
 (.assign 5 (.call (.fn "_law_cell_at") [(.loc 0), (.lit (.int 6))])),
 (.ite (.cmp (.loc 2) .Is (.lit .none)) [(.assign 6 (.call (.fn "_law_walk") [(.loc 1), (.loc 4)])), (.assign 7 (.bin .Add (.loc 4) (.bin .Mod (.loc 5) (.loc 6)))), (.ite (.call (.bi .any) [(.comp (.call (.fn "_law_all_open") [(.loc 1), (.bin .Add (.loc 4) (.loc 9)), (.loc 3)]) 9 .range (.call (.bi .min) [(.loc 6), (.lit (.int 60))]))]) [(.ret (.lit (.bool false)))] []), (.assign 8 (.bin .Add (.loc 4) (.bin .Mod (.call (.fn "_law_cell_at") [(.loc 0), (.lit (.int 7))]) (.bin .Pow (.lit (.int 10)) (.lit (.int 30)))))), (.ret (.and (.not (.call (.fn "_law_all_open") [(.loc 1), (.loc 7), (.loc 3)])) (.not (.call (.fn "_law_all_open") [(.loc 1), (.loc 8), (.loc 3)]))))] []),
 (.ite (.or (.not (.call (.fn "_law_whole") [(.loc 2)])) (.or (.cmp (.loc 2) .Lt (.loc 4)) (.not (.call (.fn "_law_all_open") [(.loc 1), (.loc 2), (.loc 3)])))) [(.ret (.lit (.bool false)))] []),
 (.ite (.call (.bi .any) [(.comp (.call (.fn "_law_all_open") [(.loc 1), (.bin .Add (.loc 4) (.loc 9)), (.loc 3)]) 9 .range (.call (.bi .min) [(.bin .Sub (.loc 2) (.loc 4)), (.lit (.int 60))]))]) [(.ret (.lit (.bool false)))] []),
 (.ret (.or (.cmp (.loc 2) .Eq (.loc 4)) (.not (.call (.fn "_law_all_open") [(.loc 1), (.bin .Add (.loc 4) (.bin .Mod (.loc 5) (.bin .Sub (.loc 2) (.loc 4)))), (.loc 3)]))))] }
noncomputable def f_l_cast : Fn := { names := 10, params := 3, body := [
 (.assign 3 (.call (.fn "_law_some_by") [(.loc 0), (.lit (.int 10)), (.bin .Add (.bin .Add (.lit (.int 1)) (.bin .Mod (.bin .FloorDiv (.call (.fn "_law_cell_at") [(.loc 0), (.lit (.int 1))]) (.lit (.int 8))) (.lit (.int 3)))) (.bin .Mult (.lit (.int 4)) (.call (.ty .int) [(.cmp (.loc 1) .Eq (.lit (.int 6)))]))), (.loc 2)])),
 (.assign 4 (.call (.fn "_law_cell_at") [(.loc 0), (.lit (.int 4))])),
 (.ite (.cmp (.loc 1) .Eq (.lit (.int 6))) [(.for 5 .val (.slice (.loc 3) none (some (.neg (.lit (.int 1))))) [(.setItem (.loc 5) (.lit (.int 1)) (.lst [(.tup [(.lit (.str "every")), (.loc 2), (.lit (.int 1)), (.lit (.int 1))])])), (.setItem (.loc 5) (.lit (.int 2)) (.lst []))])] []),
 (.ite (.cmp (.loc 1) .Eq (.lit (.int 1))) [(.expr (.meth (.sub (.sub (.loc 3) (.neg (.lit (.int 1)))) (.lit (.int 2))) .append [(.call (.fn "_law_long_rule") [(.loc 4), (.loc 2)])]))] []),
 (.ite (.cmp (.loc 1) .Eq (.lit (.int 2))) [(.assign 3 (.lst [(.lst [(.sub (.sub (.loc 3) (.lit (.int 0))) (.lit (.int 0))), (.lst [(.tup [(.lit (.str "every")), (.loc 2), (.lit (.int 1)), (.bin .Add (.lit (.int 4951)) (.bin .Mod (.loc 4) (.lit (.int 4))))])]), (.lst []), (.lst [])])]))] []),
 (.ite (.cmp (.loc 1) .Eq (.lit (.int 4))) [(.assign 3 (.slice (.loc 3) none (some (.lit (.int 2))))), (.for 5 .val (.loc 3) [(.assign 6 (.call (.fn "_law_weekdays") [(.bin .Add (.lit (.int 1)) (.bin .Mod (.bin .Add (.loc 4) (.call (.bi .len) [(.sub (.loc 5) (.lit (.int 2)))])) (.lit (.int 127))))])), (.setItem (.loc 5) (.lit (.int 1)) (.lst [(.tup [(.lit (.str "week")), (.loc 6), (.bin .Mod (.call (.fn "_law_cell_at") [(.loc 0), (.lit (.int 5))]) (.lit (.int 24))), (.bin .Add (.lit (.int 2)) (.bin .Mod (.call (.fn "_law_cell_at") [(.loc 0), (.lit (.int 2))]) (.lit (.int 9))))])])), (.setItem (.loc 5) (.lit (.int 2)) (.lst []))])] []),
 (.ite (.cmp (.loc 1) .Eq (.lit (.int 5))) [(.setItem (.sub (.loc 3) (.neg (.lit (.int 1)))) (.lit (.int 1)) (.lst [])), (.setItem (.sub (.loc 3) (.neg (.lit (.int 1)))) (.lit (.int 2)) (.slice (.sub (.sub (.loc 3) (.neg (.lit (.int 1)))) (.lit (.int 2))) none (some (.bin .Mod (.loc 4) (.lit (.int 2))))))] []),
 (.ret (.loc 3))] }
noncomputable def f_l_book_of : Fn := { names := 11, params := 4, body := [
 (.assign 4 .new),
 (.expr (.mcall (.loc 4) "come" [(.lit (.str "zz")), (.slice (.lst [(.tup [(.lit (.str "month")), (.lit (.int 1)), (.lit (.int 5)), (.lit (.int 2))]), (.tup [(.lit (.str "once")), (.bin .Add (.loc 2) (.lit (.int 150))), (.lit (.int 1))])]) none (some (.bin .Mod (.loc 3) (.lit (.int 3)))))])),
 (.for 5 .val (.loc 0) [(.expr (.mcall (.loc 4) "come" [(.sub (.loc 5) (.lit (.int 0))), (.call (.ty .list) [(.sub (.loc 5) (.lit (.int 1)))])])), (.for 6 .val (.sub (.loc 5) (.lit (.int 2))) [(.expr (.mcall (.loc 4) "busy" [(.sub (.loc 5) (.lit (.int 0))), (.loc 6)]))])]),
 (.ite (.cmp (.loc 1) .Eq (.lit (.int 3))) [(.for 5 .val (.slice (.loc 0) none (some (.lit (.int 2)))) [(.assign 7 (.mcall (.loc 4) "meet" [(.lst [(.sub (.loc 5) (.lit (.int 0)))]), (.loc 3), (.loc 2), (.bin .Add (.bin .Add (.loc 2) (.lit (.int 20))) (.loc 3))])), (.ite (.cmp (.loc 7) .IsNot (.lit .none)) [(.expr (.meth (.sub (.loc 5) (.lit (.int 3))) .append [(.tup [(.sub (.loc 7) (.lit (.int 1))), (.loc 3)])]))] [])])] []),
 (.ret (.loc 4))] }
noncomputable def f_l_asked : Fn := { names := 8, params := 4, body := [
 (.ite (.cmp (.call (.fn "_law_walk") [(.loc 2), (.sub (.loc 3) (.lit (.int 1)))]) .Gt (.lit (.int 5000))) [(.ret (.lit (.bool true)))] []),
 (.assign 4 (.mcall (.loc 1) "ever" [(.comp (.sub (.loc 5) (.lit (.int 0))) 5 .val (.loc 2)), (.sub (.loc 3) (.lit (.int 0))), (.sub (.loc 3) (.lit (.int 1)))])),
 (.ret (.call (.fn "_law_holds") [(.loc 0), (.loc 2), (.loc 4), (.sub (.loc 3) (.lit (.int 0))), (.sub (.loc 3) (.lit (.int 1)))]))] }
noncomputable def f_l_put : Fn := { names := 7, params := 3, body := [
 (.for 3 .range (.call (.bi .len) [(.loc 0)]) [(.setItem (.sub (.loc 0) (.loc 3)) (.lit (.int 3)) (.bin .Add (.sub (.loc 1) (.loc 3)) (.loc 2)))])] }
noncomputable def f_l_deeds : Fn := { names := 13, params := 5, body := [
 (.assign 5 (.sub (.loc 4) (.lit (.int 0)))),
 (.assign 6 (.mcall (.loc 1) "meet" [(.comp (.sub (.loc 10) (.lit (.int 0))) 10 .val (.loc 2)), (.loc 5), (.loc 3), (.bin .Add (.loc 3) (.loc 5))])),
 (.ite (.or (.cmp (.loc 6) .Is (.lit .none)) (.cmp (.sub (.loc 6) (.lit (.int 1))) .NotEq (.loc 3))) [(.ret (.lit (.bool false)))] []),
 (.assign 7 (.comp (.sub (.loc 10) (.lit (.int 3))) 10 .val (.loc 2))),
 (.expr (.call (.fn "_law_put") [(.loc 2), (.loc 7), (.lst [(.tup [(.loc 3), (.loc 5)])])])),
 (.ite (.not (.call (.fn "_law_asked") [(.loc 0), (.loc 1), (.loc 2), (.loc 4)])) [(.ret (.lit (.bool false)))] []),
 (.assign 8 (.mcall (.loc 1) "move" [(.sub (.loc 6) (.lit (.int 0))), (.bin .Add (.loc 3) (.lit (.int 1))), (.bin .Add (.bin .Add (.bin .Add (.loc 3) (.lit (.int 1))) (.loc 5)) (.bin .Mod (.call (.fn "_law_cell_at") [(.loc 0), (.lit (.int 7))]) (.lit (.int 40))))])),
 (.ite (.cmp (.loc 8) .IsNot (.lit .none)) [(.expr (.call (.fn "_law_put") [(.loc 2), (.loc 7), (.lst [(.tup [(.loc 8), (.loc 5)])])]))] []),
 (.ite (.not (.call (.fn "_law_asked") [(.loc 0), (.loc 1), (.loc 2), (.loc 4)])) [(.ret (.lit (.bool false)))] []),
 (.expr (.mcall (.loc 1) "drop" [(.sub (.loc 6) (.lit (.int 0)))])),
 (.expr (.call (.fn "_law_put") [(.loc 2), (.loc 7), (.lst [])])),
 (.ite (.cmp (.mcall (.loc 1) "ever" [(.comp (.sub (.loc 10) (.lit (.int 0))) 10 .val (.loc 2)), (.loc 5), (.sub (.loc 4) (.lit (.int 1)))]) .NotEq (.loc 3)) [(.ret (.lit (.bool false)))] []),
 (.assign 9 (.tup [(.lit (.str "once")), (.loc 3), (.lit (.int 1))])),
 (.expr (.mcall (.loc 1) "busy" [(.sub (.sub (.loc 2) (.lit (.int 0))) (.lit (.int 0))), (.loc 9)])),
 (.expr (.meth (.sub (.sub (.loc 2) (.lit (.int 0))) (.lit (.int 2))) .append [(.loc 9)])),
 (.ret (.call (.fn "_law_asked") [(.loc 0), (.loc 1), (.loc 2), (.loc 4)]))] }
noncomputable def f_law : Fn := { names := 15, params := 1, body := [
 (.assign 1 (.call (.fn "_law_far") [(.call (.fn "_law_cell_at") [(.loc 0), (.lit (.int 0))])])),
 (.assign 2 (.bin .Mod (.call (.fn "_law_cell_at") [(.loc 0), (.lit (.int 1))]) (.lit (.int 8)))),
 (.assign 3 (.call (.fn "_law_cast") [(.loc 0), (.loc 2), (.loc 1)])),
 (.assign 4 (.sub (.lst [(.lit (.int 1)), (.lit (.int 1)), (.lit (.int 1)), (.lit (.int 2)), (.lit (.int 3)), (.lit (.int 9))]) (.bin .Mod (.call (.fn "_law_cell_at") [(.loc 0), (.lit (.int 2))]) (.lit (.int 6))))),
 (.assign 5 (.call (.fn "_law_cell_at") [(.loc 0), (.lit (.int 3))])),
 (.assign 6 (.call (.bi .min) [(.bin .Add (.loc 1) (.sub (.lst [(.bin .Mod (.bin .FloorDiv (.loc 5) (.lit (.int 2))) (.lit (.int 30))), (.bin .Mod (.bin .FloorDiv (.loc 5) (.lit (.int 2))) (.bin .Pow (.lit (.int 10)) (.lit (.int 4))))]) (.bin .Mod (.loc 5) (.lit (.int 2))))), (.bin .Sub (.bin .Pow (.lit (.int 10)) (.lit (.int 12))) (.lit (.int 1)))])),
 (.ite (.cmp (.loc 2) .Eq (.lit (.int 1))) [(.assign 6 (.bin .Add (.loc 1) (.bin .Mod (.bin .FloorDiv (.loc 5) (.lit (.int 2))) (.lit (.int 30)))))] []),
 (.ite (.cmp (.loc 2) .Eq (.lit (.int 2))) [(.assign 4 (.lit (.int 1))), (.assign 6 (.loc 1))] []),
 (.assign 7 (.call (.fn "_law_book_of") [(.loc 3), (.loc 2), (.loc 1), (.bin .Add (.lit (.int 1)) (.bin .Mod (.call (.fn "_law_cell_at") [(.loc 0), (.lit (.int 4))]) (.lit (.int 48))))])),
 (.assign 8 (.comp (.sub (.loc 12) (.lit (.int 0))) 12 .val (.loc 3))),
 (.assign 9 (.cmp (.call (.fn "_law_walk") [(.loc 3), (.loc 6)]) .Gt (.lit (.int 5000)))),
 (.assign 10 (.call (.bi .len) [(.mcall (.loc 7) "meetings" [])])),
 (.tryR [(.assign 11 (.mcall (.loc 7) "ever" [(.loc 8), (.loc 4), (.loc 6)]))] [("TooLong", (.loc 9))]),
 (.ite (.or (.cmp (.call (.bi .len) [(.mcall (.loc 7) "meetings" [])]) .NotEq (.loc 10)) (.cmp (.loc 8) .NotEq (.comp (.sub (.loc 12) (.lit (.int 0))) 12 .val (.loc 3)))) [(.ret (.lit (.bool false)))] []),
 (.ite (.or (.loc 9) (.not (.call (.fn "_law_holds") [(.loc 0), (.loc 3), (.loc 11), (.loc 4), (.loc 6)]))) [(.ret (.lit (.bool false)))] []),
 (.ite (.or (.cmp (.loc 2) .Eq (.lit (.int 2))) (.or (.cmp (.loc 11) .Is (.lit .none)) (.cmp (.loc 11) .GtE (.bin .Sub (.bin .Pow (.lit (.int 10)) (.lit (.int 12))) (.lit (.int 100)))))) [(.ret (.lit (.bool true)))] []),
 (.ret (.call (.fn "_law_deeds") [(.loc 0), (.loc 7), (.loc 3), (.loc 11), (.lst [(.loc 4), (.loc 6)])]))] }
end Mine
namespace Mine
open PySem
noncomputable abbrev Ctr := List V → Hp → (V → Hp → Prop) → XL → Prop
theorem isi_int_int {H : Hp} {x : Int} : isInstH H (.int x) .int = some true := rfl
theorem isi_int_bool {H : Hp} {x : Int} : isInstH H (.int x) .bool = some false := rfl
noncomputable def C_is_whole : Ctr := fun vs H Q _ => ∃ x : Int, vs = [.int x] ∧ Q (.bool true) H
theorem w_is_whole : ∀ vs H Q X, C_is_whole vs H Q X → wpFn noΦ f_is_whole vs H Q X := by
 rintro vs H Q X ⟨x, rfl, q⟩
 refine fn_of rfl ?_
 simp_arith only [f_is_whole, initL, List.map_cons, List.map_nil, List.replicate, List.cons_append, List.nil_append, isi_int_int, isi_int_bool]
 exact q
noncomputable def Φ4 : Orc := ext "is_whole" C_is_whole noΦ
theorem P4_iw : Φ4 "is_whole" = C_is_whole := rfl
inductive IC_is_between (H : Hp) (Q : V → Hp → Prop) : List V → Prop where
 | mk (x a b : Int) : a ≤ x → x ≤ b → Q (.bool true) H → IC_is_between H Q [.int x, .int a, .int b]
noncomputable def C_is_between : Ctr := fun vs H Q _ => IC_is_between H Q vs
theorem w_is_between : ∀ vs H Q X, C_is_between vs H Q X → wpFn Φ4 f_is_between vs H Q X := by
 rintro vs H Q X ⟨x, a, b, h1, h2, q⟩
 refine fn_of rfl ?_
 simp_arith only [f_is_between, initL, List.map_cons, List.map_nil, List.replicate, List.cons_append, List.nil_append, ↓P4_iw]
 refine ⟨x, rfl, ?_⟩
 simp_arith only [decide_eq_true h1, decide_eq_true h2]
 exact ⟨fun _ => q, fun h => absurd h1 h⟩
noncomputable def Φ5 : Orc := ext "is_between" C_is_between Φ4
theorem P5_ib : Φ5 "is_between" = C_is_between := rfl
noncomputable def C_is_time : Ctr := fun vs H Q _ => ∃ x : Int, vs = [.int x] ∧ 0 ≤ x ∧ x < 1000000000000 ∧ Q (.bool true) H
theorem w_is_time : ∀ vs H Q X, C_is_time vs H Q X → wpFn Φ5 f_is_time vs H Q X := by
 rintro vs H Q X ⟨x, rfl, h1, h2, q⟩
 refine fn_of rfl ?_
 simp_arith only [f_is_time, initL, List.map_cons, List.map_nil, List.replicate, List.cons_append, List.nil_append, ↓P5_ib]
 exact ⟨x, 0, _, h1, by lia, q⟩
noncomputable def Φ6 : Orc := ext "is_time" C_is_time Φ5
theorem P6_ib : Φ6 "is_between" = C_is_between := rfl
noncomputable def rise (most : Int) : Int → List Int → Prop
 | _, [] => True
 | a, d :: r => a < d ∧ d ≤ most ∧ rise most d r
noncomputable def intsV (ds : List Int) : V := .tup (ds.map .int)
theorem isi_tup {H : Hp} {l : List V} : isInstH H (.tup l) .tuple = some true := rfl
inductive IC_are_rising (H : Hp) (Q : V → Hp → Prop) : List V → Prop where
 | mk (ds : List Int) (many : Int) (most : Int) : (1 ≤ ds.length) → ((ds.length : Int) ≤ many) → (rise most (-1) ds) → (Q (.bool true) H) → IC_are_rising H Q ([intsV ds, .int many, .int most])
noncomputable def C_are_rising : Ctr := fun vs H Q _ => IC_are_rising H Q vs
theorem ri_loop {XF : XS} {v0 : V} {many most : Int} {t5 t6 t7 : Option V} {H : Hp} {Q : QS} : ∀ (ds : List Int) (a : Int) (t4 : Option V), rise most a ds →
  (∀ a' t', Q .next [some v0, some (.int many), some (.int most), some (.int a'), t', t5, t6, t7] H) →
  forGo (whBX Φ6 [(.ite (.not (.call (.fn "is_between") [(.loc 4), (.bin .Add (.loc 3) (.lit (.int 1))), (.loc 2)])) [(.ret (.lit (.bool false)))] []), (.assign 3 (.loc 4))] XF) (fun _ => True) 4 (ds.map V.int)
   [some v0, some (.int many), some (.int most), some (.int a), t4, t5, t6, t7] H Q := by
 intro ds
 induction ds with
 | nil => intro a t4 _ q; exact q _ _
 | cons d r ih =>
  intro a t4 hr q
  rw [List.map_cons, foX_cons]
  simp_arith only [↓P6_ib]
  have h1 := hr.1
  refine ⟨d, _, _, by lia, hr.2.1, ?_⟩
  simp_arith only [X_lit]
  exact ih d _ hr.2.2 q
theorem w_are_rising : ∀ vs H Q X, C_are_rising vs H Q X → wpFn Φ6 f_are_rising vs H Q X := by
 rintro vs H Q X ⟨ds, many, most, h1, h2, hr, q⟩
 refine fn_of rfl ?_
 change wpSs Φ6 f_are_rising.body [some (.tup (ds.map .int)), some (.int many), some (.int most), none, none, none, none, none] H _ _
 refine zs_cons ?_
 generalize hK : sqX Φ6 (_ :: _) = K
 have e1 : (1 : Int) ≤ ((ds.map V.int).length : Int) := by rw [List.length_map]; lia
 have e2 : ((ds.map V.int).length : Int) ≤ many := by rw [List.length_map]; exact h2
 simp_arith only [isi_tup, decide_eq_true e2]
 refine ⟨fun _ => ?_, fun h => absurd e1 h⟩
 subst hK
 refine zs_cons ?_
 generalize hK : sqX Φ6 (_ :: _) = K
 simp_arith only [X_lit]
 subst hK
 refine zs_cons ?_
 generalize hK : sqX Φ6 (_ :: _) = K
 simp_arith only [X_lit]
 subst hK
 exact ri_loop ds (-1) _ hr fun a' t' => q
noncomputable def Φ7 : Orc := ext "are_rising" C_are_rising Φ6
end Mine
namespace Mine
open PySem
inductive Pl where
 | once (h s : Int)
 | every (h s p : Int)
 | week (ds : List Int) (t s : Int)
 | month (d t s : Int)
inductive Hd where
 | frm (h : Int)
 | til (h : Int)
 | als (h : Int)
 | but (ds : List Int)
inductive Rl where
 | pl (p : Pl)
 | hd (k : Hd) (r : Rl)
noncomputable def pv : Pl → V
 | .once h s => .tup [.str "once", .int h, .int s]
 | .every h s p => .tup [.str "every", .int h, .int s, .int p]
 | .week ds t s => .tup [.str "week", intsV ds, .int t, .int s]
 | .month d t s => .tup [.str "month", .int d, .int t, .int s]
noncomputable def Hd.w : Hd → Str
 | .frm _ => "from"
 | .til _ => "until"
 | .als _ => "also"
 | .but _ => "but"
noncomputable def Hd.v : Hd → V
 | .frm h => .int h
 | .til h => .int h
 | .als h => .int h
 | .but ds => intsV ds
noncomputable def rv : Rl → V
 | .pl p => pv p
 | .hd k r => .tup [.str k.w, k.v, rv r]
noncomputable def Rl.inner : Rl → Pl
 | .pl p => p
 | .hd _ r => r.inner
noncomputable def Rl.deep : Rl → Nat
 | .pl _ => 0
 | .hd _ r => r.deep + 1
noncomputable def Pl.size : Pl → Int
 | .once _ s => s
 | .every _ s _ => s
 | .week _ _ s => s
 | .month _ _ s => s
noncomputable def Rl.size (r : Rl) : Int := r.inner.size
noncomputable def hourOk (h : Int) : Prop := 0 ≤ h ∧ h < 1000000000000
noncomputable def sizeOk1 (s : Int) : Prop := 1 ≤ s ∧ s ≤ 48
noncomputable def Pl.fine : Pl → Prop
 | .once h s => hourOk h ∧ sizeOk1 s
 | .every h s p => hourOk h ∧ sizeOk1 s ∧ 1 ≤ p ∧ p ≤ 1000000
 | .week ds t s => (0 ≤ t ∧ t ≤ 23) ∧ sizeOk1 s ∧ 1 ≤ ds.length ∧ ds.length ≤ 7 ∧ rise 6 (-1) ds
 | .month d t s => (0 ≤ t ∧ t ≤ 23) ∧ sizeOk1 s ∧ -31 ≤ d ∧ d ≤ 31 ∧ d ≠ 0
noncomputable def Hd.fine : Hd → Prop
 | .frm h => hourOk h
 | .til h => hourOk h
 | .als h => hourOk h
 | .but ds => 1 ≤ ds.length ∧ ds.length ≤ 20 ∧ rise 99999999999 (-1) ds
noncomputable def Rl.fine : Rl → Prop
 | .pl p => p.fine
 | .hd k r => k.fine ∧ r.fine
theorem Rl.fine.inner : ∀ {r : Rl}, r.fine → r.inner.fine
 | .pl _, h => h
 | .hd _ r, h => Rl.fine.inner (r := r) h.2
theorem Pl.fine.size {p : Pl} (h : p.fine) : sizeOk1 p.size := by
 cases p with
 | once h s => exact h.2
 | every h s p => exact h.2.1
 | week ds t s => exact h.2.1
 | month d t s => exact h.2.1
theorem eqv_int (a b : Int) : PyData.eqv (.int a) (.int b) = decide (a = b) := rfl
theorem toPys_ints : ∀ ds : List Int, toPys (ds.map V.int) = some (ds.map PyData.int)
 | [] => rfl
 | d :: r => by
  show ((toPys (r.map V.int)).map _) = _
  rw [toPys_ints r]; rfl
theorem any_ints (x : Int) : ∀ ds : List Int, ((ds.map PyData.int).any fun e => PyData.eqv e (.int x)) = ds.contains x
 | [] => rfl
 | d :: r => by
  rw [List.map_cons, List.any_cons, any_ints x r, eqv_int, List.contains_cons]
  congr 1
  rw [Bool.eq_iff_iff, decide_eq_true_eq, beq_iff_eq]; exact eq_comm
theorem mem_ints {x : Int} {ds : List Int} : memV (.int x) (ds.map V.int) = some (ds.contains x) := by
 unfold memV
 rw [toPys_ints]
 show (if (PyData.int x).depth ≤ 60 then some ((ds.map PyData.int).any fun e => PyData.eqv e (.int x)) else none) = _
 rw [if_pos (Nat.le_of_ble_eq_true rfl), any_ints]
noncomputable abbrev outs : List V := [.str "from", .str "until", .str "also", .str "but"]
theorem mo_frm : memV (.str "from") outs = some true := by decide
theorem mo_til : memV (.str "until") outs = some true := by decide
theorem mo_als : memV (.str "also") outs = some true := by decide
theorem mo_but : memV (.str "but") outs = some true := by decide
theorem mo_hd (k : Hd) : memV (.str k.w) outs = some true := by
 cases k with
 | frm h => exact mo_frm
 | til h => exact mo_til
 | als h => exact mo_als
 | but ds => exact mo_but
theorem n2 : ((2 : Nat) : Int) = 2 := rfl
theorem n3 : ((3 : Nat) : Int) = 3 := rfl
theorem mo_once : memV (.str "once") outs = some false := by decide
theorem mo_every : memV (.str "every") outs = some false := by decide
theorem mo_week : memV (.str "week") outs = some false := by decide
theorem mo_month : memV (.str "month") outs = some false := by decide
noncomputable def Pl.w : Pl → Str
 | .once _ _ => "once"
 | .every _ _ _ => "every"
 | .week _ _ _ => "week"
 | .month _ _ _ => "month"
theorem mo_pl (p : Pl) : memV (.str p.w) outs = some false := by
 cases p with
 | once h s => exact mo_once
 | every h s p => exact mo_every
 | week ds t s => exact mo_week
 | month d t s => exact mo_month
theorem pv_w (p : Pl) : ∃ r, pv p = .tup (.str p.w :: r) := by cases p <;> exact ⟨_, rfl⟩
section
variable {Φ : Orc} {u w : Str} {rest : List V} {Lr : Lc} {H : Hp} {c : IE} {a : List IS} {QF : QS} {XF : XS} {P : Bool → Hp → Prop} {X : XL} {l : List V} {b : Bool}
theorem t_in (hm : memV (.str u) l = some b) (h : P b H) : (wp2 Φ (.cmp (.sub (.loc 0) (.lit (.int 0))) .In (.lit (.tup l)))).T (some (.tup (.str u :: rest)) :: Lr) H P X := by
 show oK (memV (.str u) l) _
 rw [hm]; exact h
theorem t_inP {p : Pl} (h : P false H) : (wp2 Φ (.cmp (.sub (.loc 0) (.lit (.int 0))) .In (.lit (.tup outs)))).T (some (pv p) :: Lr) H P X := by
 obtain ⟨r, e⟩ := pv_w p
 rw [e]; exact t_in (mo_pl p) h
theorem iw_ne (he : (u == w) = false) (h : QF .next (some (.tup (.str u :: rest)) :: Lr) H) : wpS Φ (.ite (.cmp (.sub (.loc 0) (.lit (.int 0))) .Eq (.lit (.str w))) a []) (some (.tup (.str u :: rest)) :: Lr) H QF XF := by
 show ifP (u == w) _ _
 rw [he]; exact h
theorem iw_eq (he : (u == w) = true) (h : wpSs Φ a (some (.tup (.str u :: rest)) :: Lr) H QF XF) : wpS Φ (.ite (.cmp (.sub (.loc 0) (.lit (.int 0))) .Eq (.lit (.str w))) a []) (some (.tup (.str u :: rest)) :: Lr) H QF XF := by
 show ifP (u == w) _ _
 rw [he]; exact h
theorem iwa_ne (he : (u == w) = false) (h : QF .next (some (.tup (.str u :: rest)) :: Lr) H) : wpS Φ (.ite (.and (.cmp (.sub (.loc 0) (.lit (.int 0))) .Eq (.lit (.str w))) c) a []) (some (.tup (.str u :: rest)) :: Lr) H QF XF := by
 show ifP (u == w) _ _
 rw [he]; exact h
theorem iwa_eq (he : (u == w) = true) (h : (wp2 Φ c).T (some (.tup (.str u :: rest)) :: Lr) H (fun c H1 => ifP c (wpSs Φ a (some (.tup (.str u :: rest)) :: Lr) H1 QF XF) (QF .next (some (.tup (.str u :: rest)) :: Lr) H1)) (fun x => XF x (some (.tup (.str u :: rest)) :: Lr))) :
  wpS Φ (.ite (.and (.cmp (.sub (.loc 0) (.lit (.int 0))) .Eq (.lit (.str w))) c) a []) (some (.tup (.str u :: rest)) :: Lr) H QF XF := by
 show ifP (u == w) _ _
 rw [he]; exact h
end
theorem P7_ib : Φ7 "is_between" = C_is_between := rfl
theorem P7_it : Φ7 "is_time" = C_is_time := rfl
theorem P7_ar : Φ7 "are_rising" = C_are_rising := rfl
theorem cc_it {x : Int} (h : hourOk x) {H : Hp} {Q : V → Hp → Prop} {X : XL} (q : Q (.bool true) H) : C_is_time [.int x] H Q X := ⟨x, rfl, h.1, h.2, q⟩
noncomputable def C_is_plain : Ctr := fun vs H Q _ => ∃ p : Pl, vs = [pv p] ∧ p.fine ∧ Q (.bool true) H
section
variable {Φ : Orc} {u w : Str} {v0 : Option V} {Lr : Lc} {H : Hp} {a : List IS} {QF : QS} {XF : XS} {l : List V} {n : Int}
theorem w1_ne (he : (u == w) = false) (h : QF .next (v0 :: some (.str u) :: Lr) H) : wpS Φ (.ite (.cmp (.loc 1) .Eq (.lit (.str w))) a []) (v0 :: some (.str u) :: Lr) H QF XF := by
 show ifP (u == w) _ _
 rw [he]; exact h
theorem w1_eq (he : (u == w) = true) (h : wpSs Φ a (v0 :: some (.str u) :: Lr) H QF XF) : wpS Φ (.ite (.cmp (.loc 1) .Eq (.lit (.str w))) a []) (v0 :: some (.str u) :: Lr) H QF XF := by
 show ifP (u == w) _ _
 rw [he]; exact h
theorem len_ne (he : (l.length : Int) = n) (h : QF .next (some (.tup l) :: Lr) H) : wpS Φ (.ite (.cmp (.call (.bi .len) [(.loc 0)]) .NotEq (.lit (.int n))) a []) (some (.tup l) :: Lr) H QF XF := by
 show ifP (!decide ((l.length : Int) = n)) _ _
 rw [decide_eq_true he]; exact h
end
theorem pl_two {x y : Int} {l : List V} {Lr : Lc} {H : Hp} {QF : QS} {XF : XS} {a : List IS} (h2 : idx l 2 = some (.int x)) (h3 : idx l 3 = some (.int y)) (hx : 0 ≤ x ∧ x ≤ 23) (hy : sizeOk1 y) (h : QF .next (some (.tup l) :: Lr) H) :
  wpS Φ7 (.ite (.or (.not (.call (.fn "is_between") [(.sub (.loc 0) (.lit (.int 2))), (.lit (.int 0)), (.lit (.int 23))])) (.not (.call (.fn "is_between") [(.sub (.loc 0) (.lit (.int 3))), (.lit (.int 1)), (.lit (.int 48))]))) a []) (some (.tup l) :: Lr) H QF XF := by
 rw [idx_2] at h2
 rw [idx_3] at h3
 simp_arith only [h2, h3, ↓P7_ib]
 refine ⟨x, 0, 23, hx.1, hx.2, ?_⟩
 simp_arith only [h3]
 refine ⟨y, 1, 48, hy.1, hy.2, ?_⟩
 simp_arith only [X_lit]
 exact h
theorem w_is_plain : ∀ vs H Q X, C_is_plain vs H Q X → wpFn Φ7 f_is_plain vs H Q X := by
 rintro vs H Q X ⟨p, rfl, hf, q⟩
 refine fn_of rfl ?_
 cases p with
 | once h s =>
  change wpSs Φ7 (f_is_plain.body.drop 1) [some (.tup [.str "once", .int h, .int s]), some (.str "once"), none, none, none] H _ _
  refine zs_cons (w1_eq sw_once_once ?_)
  generalize hK : sqX Φ7 (_ :: _) = K
  simp_arith only [n3, ↓P7_ib, ↓P7_it]
  refine cc_it hf.1 ?_
  simp_arith only [X_lit]
  subst hK
  exact ⟨s, 1, 48, hf.2.1, hf.2.2, q⟩
 | every h s p =>
  change wpSs Φ7 (f_is_plain.body.drop 1) [some (.tup [.str "every", .int h, .int s, .int p]), some (.str "every"), none, none, none] H _ _
  refine zs_cons (w1_ne sw_every_once (zs_cons (len_ne rfl (zs_cons (w1_eq sw_every_every ?_)))))
  generalize hK : sqX Φ7 (_ :: _) = K
  simp_arith only [↓P7_ib, ↓P7_it]
  refine cc_it hf.1 ?_
  simp_arith only [X_lit]
  refine ⟨s, 1, 48, hf.2.1.1, hf.2.1.2, ?_⟩
  simp_arith only [X_lit]
  subst hK
  exact ⟨p, 1, 1000000, hf.2.2.1, hf.2.2.2, q⟩
 | week ds t s =>
  change wpSs Φ7 (f_is_plain.body.drop 1) [some (.tup [.str "week", intsV ds, .int t, .int s]), some (.str "week"), none, none, none] H _ _
  refine zs_cons (w1_ne sw_week_once (zs_cons (len_ne rfl (zs_cons (w1_ne sw_week_every (zs_cons (pl_two rfl rfl hf.1 hf.2.1 (zs_cons (w1_eq sw_week_week ?_)))))))))
  generalize hK : sqX Φ7 (_ :: _) = K
  simp_arith only [↓P7_ar]
  subst hK
  exact ⟨ds, 7, 6, hf.2.2.1, by have := hf.2.2.2.1; lia, hf.2.2.2.2, q⟩
 | month d t s =>
  change wpSs Φ7 (f_is_plain.body.drop 1) [some (.tup [.str "month", .int d, .int t, .int s]), some (.str "month"), none, none, none] H _ _
  refine zs_cons (w1_ne sw_month_once (zs_cons (len_ne rfl (zs_cons (w1_ne sw_month_every (zs_cons (pl_two rfl rfl hf.1 hf.2.1 (zs_cons (w1_ne sw_month_week ?_)))))))))
  simp_arith only [sw_month_month, ↓P7_ib]
  refine ⟨d, -31, 31, hf.2.2.1, hf.2.2.2.1, ?_⟩
  simp_arith only [X_lit]
  have hd := decide_eq_true hf.2.2.2.2
  rw [hd]; exact q
noncomputable def Φ8 : Orc := ext "is_plain" C_is_plain Φ7
theorem P8_ip : Φ8 "is_plain" = C_is_plain := rfl
theorem P8_it : Φ8 "is_time" = C_is_time := rfl
theorem P8_ar : Φ8 "are_rising" = C_are_rising := rfl
theorem isi_str {H : Hp} {x : Str} : isInstH H (.str x) .str = some true := rfl
noncomputable abbrev ruB : List IS := bdy (f_is_rule.body.getD 0 .fail)
section
variable {u : Str} {rest : List V} {x y : V} {Lr : Lc} {H : Hp} {QF : QS} {XF : XS} {a : List IS}
theorem ru_a (h : QF .next (some (.tup (.str u :: rest)) :: Lr) H) : wpS Φ8 (.ite (.or (.not (.call (.bi .isinstance) [(.loc 0), (.lit (.ty .tuple))])) (.or (.cmp (.call (.bi .len) [(.loc 0)]) .Eq (.lit (.int 0))) (.not (.call (.bi .isinstance) [(.sub (.loc 0) (.lit (.int 0))), (.lit (.ty .str))])))) a []) (some (.tup (.str u :: rest)) :: Lr) H QF XF := by
 simp_arith only [isi_tup, isi_str]
 exact ⟨fun h => absurd h (by lia), fun _ => h⟩
theorem ru_b (hm : memV (.str u) outs = some true) (h : QF .next (some (.tup (.str u :: rest)) :: Lr) H) : wpS Φ8 (.ite (.cmp (.sub (.loc 0) (.lit (.int 0))) .NotIn (.lit (.tup outs))) a []) (some (.tup (.str u :: rest)) :: Lr) H QF XF := by
 simp_arith only [hm]
 exact h
theorem ru_d (he : (u == Str.ofString "but") = true) (h : QF .next (some (.tup [.str u, x, y]) :: Lr) H) : wpS Φ8 (.ite (.and (.cmp (.sub (.loc 0) (.lit (.int 0))) .NotEq (.lit (.str "but"))) (.not (.call (.fn "is_time") [(.sub (.loc 0) (.lit (.int 1)))]))) a []) (some (.tup [.str u, x, y]) :: Lr) H QF XF := by
 show ifP (!(u == Str.ofString "but")) _ _
 rw [he]; exact h
theorem ru_t {k : Int} (he : (u == Str.ofString "but") = false) (hk : hourOk k) (h : QF .next (some (.tup [.str u, .int k, y]) :: Lr) H) : wpS Φ8 (.ite (.and (.cmp (.sub (.loc 0) (.lit (.int 0))) .NotEq (.lit (.str "but"))) (.not (.call (.fn "is_time") [(.sub (.loc 0) (.lit (.int 1)))]))) a []) (some (.tup [.str u, .int k, y]) :: Lr) H QF XF := by
 show ifP (!(u == Str.ofString "but")) _ _
 rw [he]
 simp_arith only [↓P8_it]
 refine cc_it hk ?_
 simp_arith only [X_lit]
 exact h
end
theorem ru_pl {p : Pl} {XF : XS} {QF : QS} {Lr : Lc} {H : Hp} (hf : p.fine) (q : ∀ L, QF (.ret (.bool true)) L H) : wpSs Φ8 ruB (some (pv p) :: Lr) H QF XF := by
 have h1 : C_is_plain [pv p] H (fun v H1 => QF (.ret v) (some (pv p) :: Lr) H1) (fun x => XF x (some (pv p) :: Lr)) := ⟨p, rfl, hf, q _⟩
 have hw := mo_pl p
 obtain ⟨r, e⟩ := pv_w p
 rw [e] at h1 ⊢
 refine zs_cons (ru_a (zs_cons ?_))
 generalize hK : sqX Φ8 (_ :: _) = K
 simp_arith only [hw, ↓P8_ip]
 subst hK
 exact h1
noncomputable def C_is_rule : Ctr := fun vs H Q _ => ∃ r : Rl, vs = [rv r] ∧ r.fine ∧ r.deep ≤ 7 ∧ Q (.bool true) H
theorem ru_go {XF : XS} {H : Hp} {QF : QS} {t2 t3 t4 : Option V} (q : ∀ L, QF (.ret (.bool true)) L H) : ∀ (r : Rl) (ks : List V) (t1 : Option V), r.fine → r.deep < ks.length → forGo (whBX Φ8 ruB XF) (fun _ => True) 1 ks [some (rv r), t1, t2, t3, t4] H QF := by
 intro r
 induction r with
 | pl p =>
  intro ks t1 hf hk
  cases ks with
  | nil => exact absurd hk (Nat.not_lt_zero _)
  | cons k ks => rw [foX_cons]; exact ru_pl hf q
 | hd k r ih =>
  intro ks t1 hf hk
  cases ks with
  | nil => exact absurd hk (Nat.not_lt_zero _)
  | cons u ks =>
   rw [foX_cons]
   have next := ih ks (some u) hf.2 (Nat.lt_of_succ_lt_succ hk)
   cases k with
   | frm h => exact zs_cons (ru_a (zs_cons (ru_b mo_frm (zs_cons (len_ne rfl (zs_cons (iwa_ne sw_from_but (zs_cons (ru_t sw_from_but hf.1 ⟨trivial, next⟩)))))))))
   | til h => exact zs_cons (ru_a (zs_cons (ru_b mo_til (zs_cons (len_ne rfl (zs_cons (iwa_ne sw_until_but (zs_cons (ru_t sw_until_but hf.1 ⟨trivial, next⟩)))))))))
   | als h => exact zs_cons (ru_a (zs_cons (ru_b mo_als (zs_cons (len_ne rfl (zs_cons (iwa_ne sw_also_but (zs_cons (ru_t sw_also_but hf.1 ⟨trivial, next⟩)))))))))
   | but ds =>
    refine zs_cons (ru_a (zs_cons (ru_b mo_but (zs_cons (len_ne rfl (zs_cons (iwa_eq sw_but_but ?_)))))))
    generalize hK : sqX Φ8 (_ :: _) = K
    simp_arith only [↓P8_ar]
    refine ⟨ds, 20, 99999999999, hf.1.1, by have := hf.1.2.1; lia, hf.1.2.2, ?_⟩
    simp_arith only [X_lit]
    subst hK
    exact zs_cons (ru_d sw_but_but ⟨trivial, next⟩)
theorem w_is_rule : ∀ vs H Q X, C_is_rule vs H Q X → wpFn Φ8 f_is_rule vs H Q X := by
 rintro vs H Q X ⟨r, rfl, hf, hd, q⟩
 refine fn_of rfl ?_
 change wpSs Φ8 f_is_rule.body [some (rv r), none, none, none, none] H _ _
 refine zs_cons ?_
 rw [Z_for, X_lit, u_range]
 exact ⟨⟨by decide, by decide⟩, ru_go (fun _ => q) r _ _ hf (Nat.lt_succ_of_le hd)⟩
noncomputable def Φ9 : Orc := ext "is_rule" C_is_rule Φ8
end Mine
namespace Mine
open PySem
noncomputable def C_innermost : Ctr := fun vs H Q _ => ∃ r : Rl, vs = [rv r] ∧ Q (pv r.inner) H
noncomputable abbrev inT : IE := .cmp (.sub (.loc 0) (.lit (.int 0))) .In (.lit (.tup outs))
theorem inn_go {Lr : Lc} {H : Hp} {QF : QS} : ∀ r : Rl, QF .next (some (pv r.inner) :: Lr) H → whileGo (whTX Φ9 inT noX) (whBX Φ9 [(.assign 0 (.sub (.loc 0) (.lit (.int 2))))] noXS) (r.deep + 1) (some (rv r) :: Lr) H QF
 | .pl p, q => by rw [whX_s]; exact t_inP q
 | .hd k r, q => by rw [whX_s]; exact t_in (mo_hd k) (inn_go r q)
theorem w_innermost : ∀ vs H Q X, C_innermost vs H Q X → wpFn Φ9 f_innermost vs H Q X := by
 rintro vs H Q X ⟨r, rfl, q⟩
 refine fn_of rfl ?_
 change wpSs Φ9 f_innermost.body [some (rv r), none, none, none] H _ _
 refine zs_cons ?_
 rw [Z_while]
 exact ⟨_, inn_go r q⟩
noncomputable def Φa : Orc := ext "innermost" C_innermost Φ9
theorem Pa_im : Φa "innermost" = C_innermost := rfl
noncomputable def C_length_of : Ctr := fun vs H Q _ => ∃ r : Rl, vs = [rv r] ∧ Q (.int r.size) H
theorem w_length_of : ∀ vs H Q X, C_length_of vs H Q X → wpFn Φa f_length_of vs H Q X := by
 rintro vs H Q X ⟨r, rfl, q⟩
 refine fn_of rfl ?_
 change wpSs Φa f_length_of.body [some (rv r), none, none, none, none] H _ _
 refine zs_cons ?_
 generalize hK : sqX Φa (_ :: _) = K
 simp_arith only [↓Pa_im]
 refine ⟨r, rfl, ?_⟩
 unfold Rl.size at q
 subst hK
 revert q
 cases r.inner with
 | once h s => intro q; simp_arith only [pv, sw_once_once]; exact q
 | every h s p => intro q; simp_arith only [pv, sw_every_once, sw_every_every]; exact q
 | week ds t s => intro q; simp_arith only [pv, sw_week_once, sw_week_every]; exact q
 | month d t s => intro q; simp_arith only [pv, sw_month_once, sw_month_every]; exact q
noncomputable def Φb : Orc := ext "length_of" C_length_of Φa
noncomputable def bp : Pl → Int → Bool
 | .once h _, x => decide (x = h)
 | .every h _ p, x => decide (h ≤ x) && decide ((x - h) % p = 0)
 | .week ds t _, x => decide (x % 24 = t) && ds.contains (x / 24 % 7)
 | .month _ _ _, _ => false
noncomputable def Pl.noM : Pl → Bool
 | .month _ _ _ => false
 | _ => true
noncomputable def Rl.ok (r : Rl) : Prop := r.fine ∧ r.inner.noM = true
noncomputable def C_begins_plain : Ctr := fun vs H Q _ => ∃ (r : Pl) (x : Int), vs = [pv r, .int x] ∧ r.fine ∧ r.noM = true ∧ Q (.bool (bp r x)) H
theorem w_begins_plain : ∀ vs H Q X, C_begins_plain vs H Q X → wpFn Φb f_begins_plain vs H Q X := by
 rintro vs H Q X ⟨r, x, rfl, hok, hm, q⟩
 refine fn_of rfl ?_
 cases r with
 | once h s =>
  change wpSs Φb f_begins_plain.body [some (V.tup [.str "once", .int h, .int s]), some (.int x), none, none, none, none] H _ _
  refine zs_cons (iw_eq sw_once_once ?_)
  exact q
 | every h s p =>
  change wpSs Φb f_begins_plain.body [some (V.tup [.str "every", .int h, .int s, .int p]), some (.int x), none, none, none, none] H _ _
  refine zs_cons (iw_ne sw_every_once (zs_cons (iw_eq sw_every_every ?_)))
  generalize hK : sqX Φb (_ :: _) = K
  simp_arith only [← hK]
  have h1 := hok.2.2.1
  have h2 := hok.2.2.2
  refine ⟨fun hx => ⟨⟨by lia, by lia⟩, ?_⟩, fun hx => ?_⟩
  ·have e : bp (.every h s p) x = decide ((x - h) % p = 0) := by show (decide (h ≤ x) && _) = _; rw [decide_eq_true hx]; rfl
   rw [e] at q; exact q
  ·have e : bp (.every h s p) x = false := by show (decide (h ≤ x) && _) = _; rw [decide_eq_false hx]; rfl
   rw [e] at q; rw [decide_eq_false hx]; exact q
 | week ds t s =>
  change wpSs Φb f_begins_plain.body [some (V.tup [.str "week", intsV ds, .int t, .int s]), some (.int x), none, none, none, none] H _ _
  refine zs_cons (iw_ne sw_week_once (zs_cons (iw_ne sw_week_every ?_)))
  simp_arith only [sw_week_week, intsV, mem_ints]
  refine ⟨fun hx => ?_, fun hx => ?_⟩
  ·have e : bp (.week ds t s) x = false := by show (decide (x % 24 = t) && _) = _; rw [decide_eq_false hx]; rfl
   rw [e] at q; exact q
  ·have e : bp (.week ds t s) x = ds.contains (x / 24 % 7) := by show (decide (x % 24 = t) && _) = _; rw [decide_eq_true (Classical.not_not.mp hx)]; rfl
   rw [e] at q; exact q
 | month d t s => exact Bool.noConfusion hm
noncomputable def Φc : Orc := ext "begins_plain" C_begins_plain Φb
theorem Pc_bp : Φc "begins_plain" = C_begins_plain := rfl
noncomputable def hdB (k : Hd) (x : Int) (b : Bool) : Bool := match k with
 | .frm h => b && decide (h ≤ x)
 | .til h => b && decide (x < h)
 | .als h => b || decide (x = h)
 | .but ds => b && !ds.contains (x / 24)
noncomputable def bgo : Rl → Int → Bool
 | .pl p, x => bp p x
 | .hd k r, x => hdB k x (bgo r x)
noncomputable def bg (r : Rl) (x : Int) : Bool := if x < 0 then false else bgo r x
noncomputable def C_begins : Ctr := fun vs H Q _ => ∃ (r : Rl) (x : Int), vs = [rv r, .int x] ∧ r.ok ∧ Q (.bool (bg r x)) H
noncomputable abbrev beB : List IS := bdy (f_begins.body.getD 1 .fail)
theorem be_go {x : Int} {t2 t3 t4 : Option V} {H : Hp} {Q : V → Hp → Prop} {X : XL} : ∀ r : Rl, r.ok → Q (.bool (bgo r x)) H →
  whileGo (whTX Φc inT noX) (whBX Φc beB noXS) (r.deep + 1) [some (rv r), some (.int x), t2, t3, t4] H (sqX Φc [.ret (.call (.fn "begins_plain") [.loc 0, .loc 1])] (fun fl _ H1 => Q (retV fl) H1) fun x _ H1 => X x H1) := by
 intro r
 induction r with
 | pl p =>
  intro hf q
  rw [whX_s]
  refine t_inP ?_
  simp_arith only [↓Pc_bp]
  exact ⟨p, x, rfl, hf.1, hf.2, q⟩
 | hd k r ih =>
  intro hf q
  have be := ih ⟨hf.1.2, hf.2⟩
  have hd : (.hd k r : Rl).deep + 1 = (r.deep + 1) + 1 := rfl
  rw [hd, whX_s]
  refine t_in (mo_hd k) ?_
  have q : Q (.bool (hdB k x (bgo r x))) H := q
  generalize bgo r x = b at q be
  cases k with
  | frm h =>
   refine zs_cons (iwa_eq sw_from_from ?_)
   show ifP (decide (x < h)) _ _
   refine iX_p (fun hx => ?_) (fun hx => zs_cons (iwa_ne sw_from_until (zs_cons (iwa_ne sw_from_also (zs_cons (iwa_ne sw_from_but ?_))))))
   ·rw [show hdB (.frm h) x b = false by show (_ && decide (h ≤ x)) = _; rw [decide_eq_false (by lia), Bool.and_false]] at q; exact q
   ·rw [show hdB (.frm h) x b = b by show (_ && decide (h ≤ x)) = _; rw [decide_eq_true (by lia), Bool.and_true]] at q; exact be q
  | til h =>
   refine zs_cons (iwa_ne sw_until_from (zs_cons (iwa_eq sw_until_until ?_)))
   show ifP (decide (h ≤ x)) _ _
   refine iX_p (fun hx => ?_) (fun hx => zs_cons (iwa_ne sw_until_also (zs_cons (iwa_ne sw_until_but ?_))))
   ·rw [show hdB (.til h) x b = false by show (_ && decide (x < h)) = _; rw [decide_eq_false (by lia), Bool.and_false]] at q; exact q
   ·rw [show hdB (.til h) x b = b by show (_ && decide (x < h)) = _; rw [decide_eq_true (by lia), Bool.and_true]] at q; exact be q
  | als h =>
   refine zs_cons (iwa_ne sw_also_from (zs_cons (iwa_ne sw_also_until (zs_cons (iwa_eq sw_also_also ?_)))))
   show ifP (decide (x = h)) _ _
   refine iX_p (fun hx => ?_) (fun hx => zs_cons (iwa_ne sw_also_but ?_))
   ·rw [show hdB (.als h) x b = true by show (_ || decide (x = h)) = _; rw [decide_eq_true hx, Bool.or_true]] at q; exact q
   ·rw [show hdB (.als h) x b = b by show (_ || decide (x = h)) = _; rw [decide_eq_false hx, Bool.or_false]] at q; exact be q
  | but ds =>
   refine zs_cons (iwa_ne sw_but_from (zs_cons (iwa_ne sw_but_until (zs_cons (iwa_ne sw_but_also (zs_cons (iwa_eq sw_but_but ?_)))))))
   refine ⟨⟨by decide, by decide⟩, ?_⟩
   show oK (memV (.int (x / 24)) (ds.map V.int)) _
   rw [mem_ints]
   refine iX_b (fun hx => ?_) (fun hx => ?_)
   ·rw [show hdB (.but ds) x b = false by show (_ && !ds.contains (x / 24)) = _; rw [hx]; exact Bool.and_false _] at q; exact q
   ·rw [show hdB (.but ds) x b = b by show (_ && !ds.contains (x / 24)) = _; rw [hx]; exact Bool.and_true _] at q; exact be q
theorem w_begins : ∀ vs H Q X, C_begins vs H Q X → wpFn Φc f_begins vs H Q X := by
 rintro vs H Q X ⟨r, x, rfl, hf, q⟩
 refine fn_of rfl ?_
 change wpSs Φc f_begins.body [some (rv r), some (.int x), none, none, none] H _ _
 refine zs_cons ?_
 generalize hK : sqX Φc (_ :: _) = K
 simp_arith only [X_lit]
 unfold bg at q
 refine ⟨fun hx => ?_, fun hx => ?_⟩
 ·rw [if_pos hx] at q; subst hK; exact q
 rw [if_neg hx] at q
 subst hK
 refine zs_cons ?_
 rw [Z_while]
 exact ⟨_, be_go r hf q⟩
noncomputable def Φd : Orc := ext "begins" C_begins Φc
theorem Pd_be : Φd "begins" = C_begins := rfl
theorem Pd_lo : Φd "length_of" = C_length_of := rfl
noncomputable def rangeJ (a b : Int) : List Int := (List.range (b - a).toNat).map fun (k : Nat) => a + (k : Int)
theorem rangeL_J (a b : Int) : rangeL a b = (rangeJ a b).map V.int := by
 unfold rangeL rangeJ; rw [List.map_map]; rfl
theorem mem_rangeJ {a b k : Int} : k ∈ rangeJ a b ↔ a ≤ k ∧ k < b := by
 unfold rangeJ
 rw [List.mem_map]
 constructor
 ·rintro ⟨n, hn, rfl⟩
  have := List.mem_range.mp hn
  lia
 ·intro h
  exact ⟨(k - a).toNat, List.mem_range.mpr (by lia), by lia⟩
theorem rangeJ_len (a b : Int) : (rangeJ a b).length = (b - a).toNat := by unfold rangeJ; rw [List.length_map, List.length_range]
noncomputable def cov (r : Rl) (x : Int) : Bool := (rangeJ 0 r.size).any fun k => bg r (x - k)
noncomputable def C_covers : Ctr := fun vs H Q _ => ∃ (r : Rl) (x : Int), vs = [rv r, .int x] ∧ r.ok ∧ 0 ≤ x ∧ Q (.bool (cov r x)) H
theorem cv_loop {XF : XS} {r : Rl} {x : Int} {t3 t4 t5 : Option V} {H : Hp} {Q : QS} (hf : r.ok) : ∀ (ks : List Int) (t2 : Option V),
  (∀ L', (ks.any fun k => bg r (x - k)) = true → Q (.ret (.bool true)) L' H) → (∀ L', (ks.any fun k => bg r (x - k)) = false → Q .next L' H) →
  forGo (whBX Φd [(.ite (.call (.fn "begins") [(.loc 0), (.bin .Sub (.loc 1) (.loc 2))]) [(.ret (.lit (.bool true)))] [])] XF) (fun _ => True) 2 (ks.map V.int) [some (rv r), some (.int x), t2, t3, t4, t5] H Q := by
 intro ks
 induction ks with
 | nil => intro t2 _ q; exact q _ rfl
 | cons k ks ih =>
  intro t2 q1 q2
  rw [List.map_cons, foX_cons]
  simp_arith only [↓Pd_be]
  refine ⟨r, x - k, rfl, hf, ?_⟩
  simp_arith only [X_lit]
  rw [List.any_cons] at q1 q2
  refine iX_b (fun h => ?_) (fun h => ?_)
  ·exact q1 _ (by rw [h]; rfl)
  ·rw [h, Bool.false_or] at q1 q2
   exact ih _ q1 q2
theorem w_covers : ∀ vs H Q X, C_covers vs H Q X → wpFn Φd f_covers vs H Q X := by
 rintro vs H Q X ⟨r, x, rfl, hf, h0, q⟩
 refine fn_of rfl ?_
 change wpSs Φd f_covers.body [some (rv r), some (.int x), none, none, none, none] H _ _
 unfold cov at q
 have hs := hf.1.inner.size
 refine zs_cons ?_
 generalize hK : sqX Φd (_ :: _) = K
 simp_arith only [X_lit]
 refine ⟨fun hx => absurd hx (by lia), fun _ => ?_⟩
 subst hK
 refine zs_cons ?_
 generalize hK : sqX Φd (_ :: _) = K
 simp_arith only [↓Pd_lo]
 refine ⟨r, rfl, ?_⟩
 simp_arith only [X_lit]
 have e1 : 1 ≤ r.size := hs.1
 have e2 : r.size ≤ 48 := hs.2
 refine ⟨⟨by lia, by lia⟩, ?_⟩
 rw [rangeL_J]
 subst hK
 refine cv_loop hf _ _ (fun L' h => ?_) (fun L' h => ?_)
 ·rw [h] at q; exact q
 ·rw [h] at q; exact q
noncomputable def Φe : Orc := ext "covers" C_covers Φd
theorem Pe_co : Φe "covers" = C_covers := rfl
inductive IC_some_covers (H : Hp) (Q : V → Hp → Prop) : List V → Prop where
 | mk (i : Nat) (rs : List Rl) (x : Int) : (listAt H i = some (rs.map rv)) → ((∀ r ∈ rs, r.ok)) → (0 ≤ x) → (Q (.bool (rs.any fun r => cov r x)) H) → IC_some_covers H Q ([.ref i, .int x])
noncomputable def C_some_covers : Ctr := fun vs H Q _ => IC_some_covers H Q vs
theorem sc_loop {XF : XS} {i : Nat} {x : Int} {t3 t4 t5 : Option V} {H : Hp} {Q : QS} {st : Hp → Prop} (hst : st H) (h0 : 0 ≤ x) : ∀ (rs : List Rl) (t2 : Option V), (∀ r ∈ rs, r.ok) →
  (∀ L', (rs.any fun r => cov r x) = true → Q (.ret (.bool true)) L' H) → (∀ L', (rs.any fun r => cov r x) = false → Q .next L' H) →
  forGo (whBX Φe [(.ite (.call (.fn "covers") [(.loc 2), (.loc 1)]) [(.ret (.lit (.bool true)))] [])] XF) st 2 (rs.map rv) [some (.ref i), some (.int x), t2, t3, t4, t5] H Q := by
 intro rs
 induction rs with
 | nil => intro t2 _ _ q; exact q _ rfl
 | cons r rs ih =>
  intro t2 hf q1 q2
  rw [List.map_cons, foX_cons]
  simp_arith only [↓Pe_co]
  refine ⟨r, x, rfl, hf r List.mem_cons_self, h0, ?_⟩
  simp_arith only [X_lit]
  rw [List.any_cons] at q1 q2
  refine iX_b (fun h => ?_) (fun h => ?_)
  ·exact q1 _ (by rw [h]; rfl)
  ·rw [h, Bool.false_or] at q1 q2
   exact ⟨hst, ih _ (fun r hr => hf r (List.mem_cons_of_mem _ hr)) q1 q2⟩
theorem w_some_covers : ∀ vs H Q X, C_some_covers vs H Q X → wpFn Φe f_some_covers vs H Q X := by
 rintro vs H Q X ⟨i, rs, x, hl, hf, h0, q⟩
 refine fn_of rfl ?_
 change wpSs Φe f_some_covers.body [some (.ref i), some (.int x), none, none, none, none] H _ _
 refine zs_cons ?_
 generalize hK : sqX Φe (_ :: _) = K
 simp_arith only [hl]
 subst hK
 refine sc_loop hl h0 rs _ hf (fun L' h => ?_) (fun L' h => ?_)
 ·rw [h] at q; exact q
 ·rw [h] at q; exact q
noncomputable def Φf : Orc := ext "some_covers" C_some_covers Φe
theorem Pf_ib : Φf "is_between" = C_is_between := rfl
theorem Pf_it : Φf "is_time" = C_is_time := rfl
inductive IC_need_stretch (H : Hp) (Q : V → Hp → Prop) : List V → Prop where
 | mk (h : Int) (a : Int) (b : Int) : (sizeOk1 h) → (hourOk a) → (hourOk b) → (a ≤ b) → (b ≤ a + 10000) → (Q .none H) → IC_need_stretch H Q ([.int h, .int a, .int b])
noncomputable def C_need_stretch : Ctr := fun vs H Q _ => IC_need_stretch H Q vs
theorem w_need_stretch : ∀ vs H Q X, C_need_stretch vs H Q X → wpFn Φf f_need_stretch vs H Q X := by
 rintro vs H Q X ⟨h, a, b, hh, ha, hb, h1, h2, q⟩
 refine fn_of rfl ?_
 simp_arith only [f_need_stretch, initL, List.map_cons, List.map_nil, List.replicate, List.cons_append, List.nil_append, ↓Pf_ib, ↓Pf_it]
 refine ⟨h, 1, 48, hh.1, hh.2, ?_⟩
 simp_arith only [X_lit]
 refine cc_it ha ?_
 simp_arith only [X_lit]
 refine cc_it hb ?_
 simp_arith only [X_lit]
 refine ⟨fun _ => ?_, fun h => absurd h1 h⟩
 rw [decide_eq_true h2]; exact q
noncomputable def Φg : Orc := ext "need_stretch" C_need_stretch Φf
noncomputable def lowS (x : Str) : Prop := ∀ c ∈ x.cps.toList, 97 ≤ c ∧ c ≤ 122
noncomputable def nameOk (x : Str) : Prop := 1 ≤ x.length ∧ x.length ≤ 12 ∧ lowS x
theorem low_in : ∀ k : Fin 26, Txt.contains "abcdefghijklmnopqrstuvwxyz" ⟨#[97 + k.val]⟩ = true := by decide +kernel
theorem low_at {c : Nat} (h : 97 ≤ c ∧ c ≤ 122) : Txt.contains "abcdefghijklmnopqrstuvwxyz" ⟨#[c]⟩ = true := by
 have := low_in ⟨c - 97, by lia⟩
 rw [show 97 + (c - 97) = c by lia] at this
 exact this
noncomputable def C_is_name : Ctr := fun vs H Q _ => ∃ x : Str, vs = [.str x] ∧ nameOk x ∧ Q (.bool true) H
theorem na_loop {XF : XS} {v0 : V} {t2 t3 t4 : Option V} {H : Hp} {Q : QS} : ∀ (cs : List Nat) (t1 : Option V), (∀ c ∈ cs, 97 ≤ c ∧ c ≤ 122) → (∀ L', Q .next L' H) →
  forGo (whBX Φg [(.ite (.cmp (.loc 1) .NotIn (.lit (.str "abcdefghijklmnopqrstuvwxyz"))) [(.ret (.lit (.bool false)))] [])] XF) (fun _ => True) 1 (cs.map fun c => V.str ⟨#[c]⟩) [some v0, t1, t2, t3, t4] H Q := by
 intro cs
 induction cs with
 | nil => intro t1 _ q; exact q _
 | cons c cs ih =>
  intro t1 hc q
  rw [List.map_cons, foX_cons]
  simp_arith only [↓sV_str, ↓q_lenstr, ↓q_sstr, ↓q_ins, ↓q_nins, ↓u_str, ↓q_adds, low_at (hc c List.mem_cons_self)]
  exact ih _ (fun c h => hc c (List.mem_cons_of_mem _ h)) q
theorem w_is_name : ∀ vs H Q X, C_is_name vs H Q X → wpFn Φg f_is_name vs H Q X := by
 rintro vs H Q X ⟨x, rfl, hn, q⟩
 refine fn_of rfl ?_
 change wpSs Φg f_is_name.body [some (.str x), none, none, none, none] H _ _
 refine zs_cons ?_
 generalize hK : sqX Φg (_ :: _) = K
 have h1 : (1 : Int) ≤ (x.length : Int) := by have := hn.1; lia
 have h2 : (x.length : Int) ≤ 12 := by have := hn.2.1; lia
 simp_arith only [↓sV_str, ↓q_lenstr, ↓q_sstr, ↓q_ins, ↓q_nins, ↓u_str, ↓q_adds, isi_str, decide_eq_true h2]
 refine ⟨fun _ => ?_, fun h => absurd h1 h⟩
 subst hK
 refine zs_cons ?_
 generalize hK : sqX Φg (_ :: _) = K
 simp_arith only [↓sV_str, ↓q_lenstr, ↓q_sstr, ↓q_ins, ↓q_nins, ↓u_str, ↓q_adds]
 refine ⟨?_, ?_⟩
 ·rw [← Array.all_toList, List.all_eq_true]
  intro c hc
  exact decide_eq_true (by have := hn.2.2 c hc; lia)
 subst hK
 exact na_loop _ _ hn.2.2 fun L' => q
noncomputable def Φh : Orc := ext "is_name" C_is_name Φg
end Mine
namespace Mine
open PySem
structure Prs where
 nm : Str
 fr : List Rl
 bu : List Rl
noncomputable def Prs.fine (p : Prs) : Prop := (∀ r ∈ p.fr, r.ok) ∧ ∀ r ∈ p.bu, r.ok
noncomputable def freeAt (p : Prs) (x : Int) : Bool := (p.fr.any fun r => cov r x) && !p.bu.any fun r => cov r x
structure Mtg where
 no : Int
 hr : Int
 sz : Int
 who : List Str
noncomputable def mtv (m : Mtg) : V := .tup [.int m.no, .int m.hr, .int m.sz, .tup (m.who.map V.str)]
noncomputable def meets (b : Int) (hs : List Mtg) (nm : Str) (x : Int) : Bool := hs.any fun m => decide (m.no ≠ b) && (m.who.contains nm && (decide (m.hr ≤ x) && decide (x < m.hr + m.sz)))
noncomputable def fre (b : Int) (hs : List Mtg) (p : Prs) (x : Int) : Bool := !decide (x < 0) && (!meets b hs p.nm x && freeAt p x)
structure Fr (F : List Nat) (H H' : Hp) : Prop where
 keep : ∀ i o, i ∉ F → H[i]? = some o → H'[i]? = some o
 len : H.length ≤ H'.length
theorem get_lt {H : Hp} {i : Nat} {o : O} (h : H[i]? = some o) : i < H.length := (List.getElem?_eq_some_iff.mp h).1
theorem get_pre {H H' : Hp} {i : Nat} {o : O} (p : H <+: H') (h : H[i]? = some o) : H'[i]? = some o := by
 obtain ⟨Δ, rfl⟩ := p
 rw [List.getElem?_append_left (get_lt h), h]
theorem Fr.pre {F : List Nat} {H H' : Hp} (p : H <+: H') : Fr F H H' := ⟨fun _ _ _ h => get_pre p h, p.length_le⟩
theorem Fr.refl {F : List Nat} {H : Hp} : Fr F H H := ⟨fun _ _ _ h => h, Nat.le_refl _⟩
theorem Fr.trans {F G : List Nat} {H H1 H2 : Hp} (a : Fr F H H1) (b : Fr G H1 H2) (hs : ∀ i ∈ G, i ∈ F ∨ H.length ≤ i) : Fr F H H2 := ⟨fun i o hi h => by
 refine b.keep i o (fun hg => ?_) (a.keep i o hi h)
 rcases hs i hg with q | q
 ·exact hi q
 ·have := get_lt h; lia, Nat.le_trans a.len b.len⟩
theorem Fr.mono {F G : List Nat} {H H' : Hp} (a : Fr F H H') (hs : ∀ i ∈ F, i ∈ G ∨ H.length ≤ i) : Fr G H H' := Fr.trans Fr.refl a hs
theorem Fr.set {H : Hp} {n : Nat} {o : O} : Fr [n] H (H.set n o) := ⟨fun i o' hi h => by
 rw [List.getElem?_set_ne (fun q => hi (by rw [q]; exact .head _)), h], by rw [List.length_set]; exact Nat.le_refl _⟩
theorem nin1 {i x : Nat} (h : i ≠ x) : i ∉ [x] := fun q => h (List.mem_singleton.mp q)
theorem Fr.list {F : List Nat} {H H' : Hp} {i : Nat} {l : List V} (f : Fr F H H') (hi : i ∉ F) (h : listAt H i = some l) : listAt H' i = some l := by
 refine e1_2 (Option.bind_eq_some_iff.mp h) fun o e h => ?_
 unfold listAt; rw [f.keep i o hi e]; exact h
theorem Fr.dict {F : List Nat} {H H' : Hp} {i : Nat} {l : List (Str × V)} (f : Fr F H H') (hi : i ∉ F) (h : dictAt H i = some l) : dictAt H' i = some l := by
 refine e1_2 (Option.bind_eq_some_iff.mp h) fun o e h => ?_
 unfold dictAt; rw [f.keep i o hi e]; exact h
theorem Fr.ns {F : List Nat} {H H' : Hp} {i : Nat} {l : Nat × List (Str × V)} (f : Fr F H H') (hi : i ∉ F) (hj : l.1 ∉ F) (h : nsAt H i = some l) : nsAt H' i = some l := by
 refine e1_2 (Option.bind_eq_some_iff.mp h) fun j h1 h => ?_
 refine e1_2 (Option.map_eq_some_iff.mp h) fun fs h2 e_240 => ?_
 obtain rfl := e_240
 refine e1_2 (Option.bind_eq_some_iff.mp h1) fun o e1 h1 => ?_
 refine e1_2 (Option.bind_eq_some_iff.mp h2) fun o2 e2 h2 => ?_
 unfold nsAt
 rw [f.keep _ _ hi e1, Option.bind_some, h1, Option.bind_some, f.keep _ _ hj e2, Option.bind_some, h2]; rfl
theorem listAt_lt {H : Hp} {i : Nat} {l : List V} (h : listAt H i = some l) : i < H.length := by
 refine e1_2 (Option.bind_eq_some_iff.mp h) fun o e _ => ?_
 exact get_lt e
noncomputable def RlAt (H : Hp) (es : List (Str × V)) (f : Prs → List Rl) : List Prs → List Nat → Prop
 | [], is => is = []
 | p :: ps, is => ∃ i js, is = i :: js ∧ es.lookup p.nm = some (.ref i) ∧ listAt H i = some ((f p).map rv) ∧ RlAt H es f ps js
theorem RlAt.fr {F : List Nat} {H H' : Hp} {es : List (Str × V)} {f : Prs → List Rl} (g : Fr F H H') : ∀ {ps : List Prs} {is : List Nat}, (∀ i ∈ is, i ∉ F) → RlAt H es f ps is → RlAt H' es f ps is
 | [], _, _, h => h
 | _ :: _, _, hd, ⟨i, js, e, h1, h2, r⟩ => ⟨i, js, e, h1, g.list (hd i (by rw [e]; exact .head _)) h2, r.fr g fun k hk => hd k (by rw [e]; exact .tail _ hk)⟩
theorem RlAt.get {H : Hp} {es : List (Str × V)} {f : Prs → List Rl} {p : Prs} : ∀ {ps : List Prs} {is : List Nat}, RlAt H es f ps is → p ∈ ps → ∃ i, es.lookup p.nm = some (.ref i) ∧ listAt H i = some ((f p).map rv) ∧ i ∈ is
 | [], _, _, h => nomatch h
 | a :: ps, _, ⟨i, js, e, h1, h2, r⟩, h => by
  rcases List.mem_cons.mp h with q | q
  ·rw [q, e]; exact ⟨i, h1, h2, .head _⟩
  ·refine e1_3 (r.get q) fun k k1 k2 k3 => ?_
   exact ⟨k, k1, k2, by rw [e]; exact .tail _ k3⟩
structure Bk where
 b : Nat
 j : Nat
 n : Nat
 h : Nat
 d : Nat
 e : Nat
 fs : List (Str × V)
 es : List (Str × V)
 us : List (Str × V)
 fl : List Nat
 ul : List Nat
 g : Int
 c : Nat
noncomputable def Bk.foot (k : Bk) : List Nat := k.b :: k.j :: k.n :: k.h :: k.d :: k.e :: (k.fl ++ k.ul)
structure BkAt (H : Hp) (k : Bk) (ps : List Prs) (hs : List Mtg) : Prop where
 nd : k.foot.Nodup
 ns : nsAt H k.b = some (k.j, k.fs)
 fN : k.fs.lookup (Str.ofString "names") = some (.ref k.n)
 fH : k.fs.lookup (Str.ofString "held") = some (.ref k.h)
 fF : k.fs.lookup (Str.ofString "free_rules") = some (.ref k.d)
 fB : k.fs.lookup (Str.ofString "busy_rules") = some (.ref k.e)
 fG : k.fs.lookup (Str.ofString "given") = some (.int k.g)
 ln : listAt H k.n = some (ps.map fun p => .str p.nm)
 lh : listAt H k.h = some (hs.map mtv)
 dd : dictAt H k.d = some k.es
 de : dictAt H k.e = some k.us
 rf : RlAt H k.es Prs.fr ps k.fl
 ru : RlAt H k.us Prs.bu ps k.ul
 g0 : 0 ≤ k.g
 no : ∀ m ∈ hs, 0 < m.no ∧ m.no ≤ k.g
 nu : (hs.map Mtg.no).Nodup
 z : k.fs.length ≤ k.c
 ze : k.es.length = ps.length
 zu : k.us.length = ps.length
section
variable {k : Bk}
theorem ft_b : k.b ∈ k.foot := .head _
theorem ft_j : k.j ∈ k.foot := .tail _ (.head _)
theorem ft_n : k.n ∈ k.foot := .tail _ (.tail _ (.head _))
theorem ft_h : k.h ∈ k.foot := .tail _ (.tail _ (.tail _ (.head _)))
theorem ft_d : k.d ∈ k.foot := .tail _ (.tail _ (.tail _ (.tail _ (.head _))))
theorem ft_e : k.e ∈ k.foot := .tail _ (.tail _ (.tail _ (.tail _ (.tail _ (.head _)))))
theorem ft_l {i : Nat} (h : i ∈ k.fl ++ k.ul) : i ∈ k.foot := .tail _ (.tail _ (.tail _ (.tail _ (.tail _ (.tail _ h)))))
theorem ft_fl {i : Nat} (h : i ∈ k.fl) : i ∈ k.foot := ft_l (List.mem_append_left _ h)
theorem ft_ul {i : Nat} (h : i ∈ k.ul) : i ∈ k.foot := ft_l (List.mem_append_right _ h)
theorem BkAt.fr {F : List Nat} {H H' : Hp} {ps : List Prs} {hs : List Mtg} (B : BkAt H k ps hs) (f : Fr F H H') (hd : ∀ i ∈ k.foot, i ∉ F) : BkAt H' k ps hs :=
 ⟨B.nd, f.ns (hd _ ft_b) (hd _ ft_j) B.ns, B.fN, B.fH, B.fF, B.fB, B.fG, f.list (hd _ ft_n) B.ln, f.list (hd _ ft_h) B.lh, f.dict (hd _ ft_d) B.dd, f.dict (hd _ ft_e) B.de, B.rf.fr f fun i hi => hd i (ft_fl hi), B.ru.fr f fun i hi => hd i (ft_ul hi), B.g0, B.no, B.nu, B.z, B.ze, B.zu⟩
theorem BkAt.pre {H H' : Hp} {ps : List Prs} {hs : List Mtg} (p : H <+: H') (B : BkAt H k ps hs) : BkAt H' k ps hs := B.fr (F := []) (Fr.pre p) fun _ _ h => nomatch h
end
theorem eqv_str (a b : Str) : PyData.eqv (.str a) (.str b) = (a == b) := rfl
theorem toPys_strs : ∀ xs : List Str, toPys (xs.map V.str) = some (xs.map PyData.str)
 | [] => rfl
 | d :: r => by
  show ((toPys (r.map V.str)).map _) = _
  rw [toPys_strs r]; rfl
theorem any_strs (x : Str) : ∀ xs : List Str, ((xs.map PyData.str).any fun e => PyData.eqv e (.str x)) = xs.contains x
 | [] => rfl
 | d :: r => by
  rw [List.map_cons, List.any_cons, any_strs x r, eqv_str, List.contains_cons]
  congr 1
  rw [Bool.eq_iff_iff, beq_iff_eq, beq_iff_eq]; exact eq_comm
theorem mem_strs {x : Str} {xs : List Str} : memV (.str x) (xs.map V.str) = some (xs.contains x) := by
 unfold memV
 rw [toPys_strs]
 show (if (PyData.str x).depth ≤ 60 then some ((xs.map PyData.str).any fun e => PyData.eqv e (.str x)) else none) = _
 rw [if_pos (Nat.le_of_ble_eq_true rfl), any_strs]
theorem nm_map (ps : List Prs) : (ps.map fun p => V.str p.nm) = (ps.map Prs.nm).map V.str := by rw [List.map_map]; rfl
inductive IC_need_somebody (H : Hp) (Q : V → Hp → Prop) : List V → Prop where
 | mk (k : Bk) (ps : List Prs) (hs : List Mtg) (x : Str) : (BkAt H k ps hs) → (x ∈ ps.map Prs.nm) → (Q .none H) → IC_need_somebody H Q ([.ref k.b, .str x])
noncomputable def C_need_somebody : Ctr := fun vs H Q _ => IC_need_somebody H Q vs
theorem w_need_somebody : ∀ vs H Q X, C_need_somebody vs H Q X → wpFn Φh f_B_need_somebody vs H Q X := by
 rintro vs H Q X ⟨k, ps, hs, x, B, hx, q⟩
 refine fn_of rfl ?_
 have h3 := B.ln
 rw [nm_map] at h3
 have hc : (ps.map Prs.nm).contains x = true := List.contains_iff_mem.mpr hx
 simp_arith only [f_B_need_somebody, initL, List.map_cons, List.map_nil, List.replicate, List.cons_append, List.nil_append, B.ns, B.fN, h3, mem_strs, hc]
 exact q
noncomputable def Ψ1 : Orc := ext (Str.ofString "Book." ++ Str.ofString "need_somebody") C_need_somebody Φh
inductive IC_meets_at (H : Hp) (Q : V → Hp → Prop) : List V → Prop where
 | mk (k : Bk) (ps : List Prs) (hs : List Mtg) (nm : Str) (x : Int) (b : Int) : (BkAt H k ps hs) → (Q (.bool (meets b hs nm x)) H) → IC_meets_at H Q ([.ref k.b, .str nm, .int x, .int b])
noncomputable def C_meets_at : Ctr := fun vs H Q _ => IC_meets_at H Q vs
noncomputable abbrev maB : List IS := bdy (f_B_meets_at.body.getD 0 .fail)
theorem ma_loop {XF : XS} {v0 : V} {nm : Str} {x b : Int} {t5 t6 t7 : Option V} {H : Hp} {Q : QS} {st : Hp → Prop} (hst : st H) : ∀ (hs : List Mtg) (t4 : Option V), (meets b hs nm x = true → ∀ L', Q (.ret (.bool true)) L' H) → (meets b hs nm x = false → ∀ L', Q .next L' H) →
  forGo (whBX Ψ1 maB XF) st 4 (hs.map mtv) [some v0, some (.str nm), some (.int x), some (.int b), t4, t5, t6, t7] H Q := by
 intro hs
 induction hs with
 | nil => intro t4 _ q; exact q rfl _
 | cons m hs ih =>
  intro t4 q1 q2
  rw [List.map_cons, foX_cons]
  have e : meets b (m :: hs) nm x = ((decide (m.no ≠ b) && (m.who.contains nm && (decide (m.hr ≤ x) && decide (x < m.hr + m.sz)))) || meets b hs nm x) := List.any_cons
  rw [e] at q1 q2
  have nx : (decide (m.no ≠ b) && (m.who.contains nm && (decide (m.hr ≤ x) && decide (x < m.hr + m.sz)))) = false → st H ∧ forGo (whBX Ψ1 maB XF) st 4 (hs.map mtv) [some v0, some (.str nm), some (.int x), some (.int b), some (mtv m), t5, t6, t7] H Q := fun h => by
   rw [h, Bool.false_or] at q1 q2
   exact ⟨hst, ih _ q1 q2⟩
  rw [show mtv m = V.tup [.int m.no, .int m.hr, .int m.sz, .tup (m.who.map V.str)] from rfl] at nx ⊢
  refine zs_cons ?_
  simp_arith only [mem_strs]
  refine ⟨fun hm => iX_b (fun hw => ?_) (fun hw => nx (by rw [hw, Bool.false_and, Bool.and_false])), fun h => nx (by rw [decide_eq_false h]; rfl)⟩
  refine ⟨fun h1 => ⟨fun h2 => q1 (by rw [decide_eq_true hm, hw, decide_eq_true h1, decide_eq_true h2]; rfl) _, fun h2 => nx (by rw [hw, decide_eq_true h1, decide_eq_false h2, decide_eq_true hm]; rfl)⟩, fun h1 => ?_⟩
  exact ⟨fun h => absurd h h1, fun _ => nx (by rw [hw, decide_eq_false h1, decide_eq_true hm]; rfl)⟩
theorem w_meets_at : ∀ vs H Q X, C_meets_at vs H Q X → wpFn Ψ1 f_B_meets_at vs H Q X := by
 rintro vs H Q X ⟨k, ps, hs, nm, x, b, B, q⟩
 refine fn_of rfl ?_
 change wpSs Ψ1 f_B_meets_at.body [some (.ref k.b), some (.str nm), some (.int x), some (.int b), none, none, none, none] H _ _
 refine zs_cons ?_
 generalize hK : sqX Ψ1 (_ :: _) = K
 have hl := B.lh
 simp_arith only [B.ns, B.fH, hl]
 subst hK
 refine ma_loop hl hs _ (fun h L' => ?_) (fun h L' => ?_)
 ·rw [h] at q; exact q
 ·rw [h] at q; exact q
noncomputable def Ψ2 : Orc := ext (Str.ofString "Book." ++ Str.ofString "meets_at") C_meets_at Ψ1
theorem P2_ma : Ψ2 (Str.ofString "Book." ++ Str.ofString "meets_at") = C_meets_at := rfl
theorem P2_sc : Ψ2 "some_covers" = C_some_covers := rfl
inductive IC_free_at (H : Hp) (Q : V → Hp → Prop) : List V → Prop where
 | mk (k : Bk) (ps : List Prs) (hs : List Mtg) (p : Prs) (x : Int) (b : Int) : (BkAt H k ps hs) → (p ∈ ps) → (p.fine) → (Q (.bool (fre b hs p x)) H) → IC_free_at H Q ([.ref k.b, .str p.nm, .int x, .int b])
noncomputable def C_free_at : Ctr := fun vs H Q _ => IC_free_at H Q vs
theorem w_free_at : ∀ vs H Q X, C_free_at vs H Q X → wpFn Ψ2 f_B_free_at vs H Q X := by
 rintro vs H Q X ⟨k, ps, hs, p, x, b, B, hp, hf, q⟩
 refine fn_of rfl ?_
 refine e1_3 (B.rf.get hp) fun i k1 k2 _ => ?_
 refine e1_3 (B.ru.get hp) fun i' k1' k2' _ => ?_
 change wpSs Ψ2 f_B_free_at.body [some (.ref k.b), some (.str p.nm), some (.int x), some (.int b), none, none, none] H _ _
 refine zs_cons ?_
 generalize hK : sqX Ψ2 (_ :: _) = K
 unfold fre at q
 simp_arith only [B.ns, ↓P2_ma]
 refine ⟨fun h => ?_, fun h => ⟨k, ps, hs, p.nm, x, b, B, ?_⟩⟩
 ·rw [decide_eq_true h] at q; subst hK; exact q
 rw [decide_eq_false h] at q
 simp_arith only [X_lit]
 refine iX_b (fun hm => ?_) (fun hm => ?_)
 ·rw [hm] at q; subst hK; exact q
 rw [hm] at q
 subst hK
 have h0 : 0 ≤ x := by lia
 simp_arith only [B.ns, B.fF, B.dd, k1, B.fB, B.de, k1', ↓P2_sc]
 refine ⟨i, p.fr, x, k2, hf.1, h0, ?_⟩
 simp_arith only [X_lit]
 have q : Q (.bool (freeAt p x)) H := q
 unfold freeAt at q
 refine iX_b (fun h => ?_) (fun h => ?_)
 ·simp_arith only [B.ns, B.fB, B.de, k1', ↓P2_sc]
  refine ⟨i', p.bu, x, k2', hf.2, h0, ?_⟩
  rw [h, Bool.true_and] at q; exact q
 ·rw [h, Bool.false_and] at q; rw [h]; exact q
noncomputable def Ψ3 : Orc := ext (Str.ofString "Book." ++ Str.ofString "free_at") C_free_at Ψ2
theorem P3_ns : Ψ3 (Str.ofString "Book." ++ Str.ofString "need_somebody") = C_need_somebody := rfl
structure Some' (H : Hp) (k : Bk) (n : Nat) (ps : List Prs) (hs : List Mtg) (qs : List Prs) : Prop where
 book : BkAt H k ps hs
 list : listAt H n = some (qs.map fun p => .str p.nm)
 sub : ∀ q ∈ qs, q ∈ ps
theorem Some'.pre {H H' : Hp} {k : Bk} {n : Nat} {ps qs : List Prs} {hs : List Mtg} (q : H <+: H') (S : Some' H k n ps hs qs) : Some' H' k n ps hs qs := ⟨S.book.pre q, listAt_pre q S.list, S.sub⟩
theorem strsOf_strs : ∀ xs : List Str, strsOf (xs.map V.str) = some xs
 | [] => rfl
 | x :: r => by
  show ((strsOf (r.map V.str)).map _) = _
  rw [strsOf_strs r]; rfl
inductive IC_need_all (H : Hp) (Q : V → Hp → Prop) : List V → Prop where
 | mk (k : Bk) (n : Nat) (ps : List Prs) (hs : List Mtg) (qs : List Prs) : (Some' H k n ps hs qs) → (qs ≠ []) → ((qs.map Prs.nm).Nodup) → (Q .none H) → IC_need_all H Q ([.ref k.b, .ref n])
noncomputable def C_need_all : Ctr := fun vs H Q _ => IC_need_all H Q vs
theorem na1_loop {XF : XS} {k : Bk} {n : Nat} {ps : List Prs} {hs : List Mtg} {t3 t4 t5 : Option V} {H : Hp} {Q : QS} {st : Hp → Prop} (hst : st H) (B : BkAt H k ps hs) : ∀ (qs : List Prs) (t2 : Option V), (∀ q ∈ qs, q ∈ ps) →
  (∀ t2', Q .next [some (.ref k.b), some (.ref n), t2', t3, t4, t5] H) →
  forGo (whBX Ψ3 [(.expr (.mcall (.loc 0) "need_somebody" [(.loc 2)]))] XF) st 2 (qs.map fun p => V.str p.nm) [some (.ref k.b), some (.ref n), t2, t3, t4, t5] H Q := by
 intro qs
 induction qs with
 | nil => intro t2 _ q; exact q _
 | cons p qs ih =>
  intro t2 hq q
  rw [List.map_cons, foX_cons]
  simp_arith only [B.ns, ↓P3_ns]
  refine ⟨k, ps, hs, p.nm, B, List.mem_map_of_mem (hq p List.mem_cons_self), ?_⟩
  exact ⟨hst, ih _ (fun q h => hq q (List.mem_cons_of_mem _ h)) q⟩
theorem na2_loop {XF : XS} {b n : Nat} {ys : List Str} {t3 t4 t5 : Option V} {H : Hp} {Q : QS} {st : Hp → Prop} (hst : st H) (hl : listAt H n = some (ys.map V.str)) (hn : ys.Nodup) : ∀ (xs : List Str) (t2 : Option V), (∀ L', Q .next L' H) →
  forGo (whBX Ψ3 [(.ite (.cmp (.meth (.loc 1) .count [(.loc 2)]) .Gt (.lit (.int 1))) [(.raise "Twice" ["Twice", "HourError", "ValueError"])] [])] XF) st 2 (xs.map V.str) [some (.ref b), some (.ref n), t2, t3, t4, t5] H Q := by
 intro xs
 induction xs with
 | nil => intro t2 q; exact q _
 | cons x xs ih =>
  intro t2 q
  rw [List.map_cons, foX_cons]
  simp_arith only [↓sV_str, ↓q_lenstr, ↓q_sstr, ↓q_ins, ↓q_nins, ↓u_str, ↓q_adds, hl, strsOf_strs]
  refine ⟨⟨_, hl⟩, fun h => absurd h ?_, fun _ => ⟨hst, ih _ q⟩⟩
  have := List.nodup_iff_count.mp hn x
  lia
theorem w_need_all : ∀ vs H Q X, C_need_all vs H Q X → wpFn Ψ3 f_B_need_all vs H Q X := by
 rintro vs H Q X ⟨k, n, ps, hs, qs, S, hne, hn, q⟩
 refine fn_of rfl ?_
 have hl := S.list
 change wpSs Ψ3 f_B_need_all.body [some (.ref k.b), some (.ref n), none, none, none, none] H _ _
 refine zs_cons ?_
 generalize hK : sqX Ψ3 (_ :: _) = K
 simp_arith only [hl]
 refine ⟨fun h => absurd h ?_, fun _ => ?_⟩
 ·have := List.length_pos_iff.mpr hne
  rw [List.length_map]; lia
 subst hK
 refine zs_cons ?_
 generalize hK : sqX Ψ3 (_ :: _) = K
 simp_arith only [hl]
 subst hK
 refine na1_loop hl S.book qs _ S.sub fun t2' => ?_
 refine zs_cons ?_
 generalize hK : sqX Ψ3 [] = K
 rw [nm_map] at hl
 simp_arith only [hl]
 subst hK
 exact na2_loop hl hl hn _ _ fun L' => q
noncomputable def Ψ4 : Orc := ext (Str.ofString "Book." ++ Str.ofString "need_all") C_need_all Ψ3
theorem P4_fa : Ψ4 (Str.ofString "Book." ++ Str.ofString "free_at") = C_free_at := rfl
end Mine
namespace Mine
open PySem
noncomputable abbrev nmL (qs : List Prs) : List V := qs.map fun p => .str p.nm
noncomputable def NmAt (H : Hp) (v : V) (qs : List Prs) : Prop := (∃ n, v = .ref n ∧ listAt H n = some (nmL qs)) ∨ v = .tup (nmL qs)
theorem NmAt.pre {H H' : Hp} {v : V} {qs : List Prs} (p : H <+: H') (h : NmAt H v qs) : NmAt H' v qs := by
 rcases h with ⟨n, e, h⟩ | e
 ·exact .inl ⟨n, e, listAt_pre p h⟩
 ·exact .inr e
structure Som (H : Hp) (k : Bk) (v : V) (ps : List Prs) (hs : List Mtg) (qs : List Prs) : Prop where
 book : BkAt H k ps hs
 list : NmAt H v qs
 sub : ∀ q ∈ qs, q ∈ ps ∧ q.fine
theorem Som.pre {H H' : Hp} {k : Bk} {v : V} {ps qs : List Prs} {hs : List Mtg} (q : H <+: H') (S : Som H k v ps hs qs) : Som H' k v ps hs qs := ⟨S.book.pre q, S.list.pre q, S.sub⟩
theorem Some'.som {H : Hp} {k : Bk} {n : Nat} {ps qs : List Prs} {hs : List Mtg} (S : Some' H k n ps hs qs) (hf : ∀ q ∈ qs, q.fine) : Som H k (.ref n) ps hs qs := ⟨S.book, .inl ⟨n, rfl, S.list⟩, fun q hq => ⟨S.sub q hq, hf q hq⟩⟩
noncomputable def gd (b : Int) (hs : List Mtg) (qs : List Prs) (x : Int) : Bool := qs.all fun p => fre b hs p x
noncomputable def okW (G : Int → Bool) (hours a : Int) : Prop := ∀ x, a ≤ x → x < a + hours → G x = true
noncomputable def IsFirst (G : Int → Bool) (hours lo last : Int) (v : V) : Prop :=
 (∃ a, v = .int a ∧ lo ≤ a ∧ a ≤ last ∧ okW G hours a ∧ ∀ x, lo ≤ x → x < a → ¬ okW G hours x) ∨ (v = .none ∧ ∀ x, lo ≤ x → x ≤ last → ¬ okW G hours x)
inductive IC_bar (H : Hp) (Q : V → Hp → Prop) : List V → Prop where
 | mk (k : Bk) (v1 : V) (ps : List Prs) (hs : List Mtg) (qs : List Prs) (hours a b : Int) : Som H k v1 ps hs qs → sizeOk1 hours → 0 ≤ a → a < 2 ^ 50 → (okW (gd b hs qs) hours a → Q .none H) → (∀ nm x, a ≤ x → x < a + hours → gd b hs qs x = false → Q (.tup [.str nm, .int x]) H) → IC_bar H Q [.ref k.b, v1, .int hours, .int a, .int b]
noncomputable def C_bar : Ctr := fun vs H Q _ => IC_bar H Q vs
noncomputable abbrev baB : List IS := [(.ite (.not (.mcall (.loc 0) "free_at" [(.loc 7), (.loc 6), (.loc 4)])) [(.ret (.tup [(.loc 7), (.loc 6)]))] [])]
theorem ba_in {XF : XS} {k : Bk} {v1 : V} {ps : List Prs} {hs : List Mtg} {x b : Int} {v2 v3 : V} {t5 t8 t9 t10 : Option V} {H : Hp} {Q : QS} {st : Hp → Prop} (hst : st H) (B : BkAt H k ps hs) : ∀ (qs : List Prs) (t7 : Option V), (∀ q ∈ qs, q ∈ ps ∧ q.fine) →
  (∀ nm, (qs.all fun p => fre b hs p x) = false → ∀ L', Q (.ret (.tup [.str nm, .int x])) L' H) → ((qs.all fun p => fre b hs p x) = true → ∀ t7', Q .next [some (.ref k.b), some v1, some v2, some v3, some (.int b), t5, some (.int x), t7', t8, t9, t10] H) →
  forGo (whBX Ψ4 baB XF) st 7 (qs.map fun p => V.str p.nm) [some (.ref k.b), some v1, some v2, some v3, some (.int b), t5, some (.int x), t7, t8, t9, t10] H Q := by
 intro qs
 induction qs with
 | nil => intro t7 _ _ q; exact q rfl _
 | cons p qs ih =>
  intro t7 hq q1 q2
  rw [List.map_cons, foX_cons]
  rw [List.all_cons] at q1 q2
  simp_arith only [B.ns, ↓P4_fa]
  refine ⟨k, ps, hs, p, x, b, B, (hq p List.mem_cons_self).1, (hq p List.mem_cons_self).2, ?_⟩
  simp_arith only [X_lit]
  cases h : fre b hs p x with
  | true =>
   rw [h, Bool.true_and] at q1 q2
   exact ⟨hst, ih _ (fun q h => hq q (List.mem_cons_of_mem _ h)) q1 q2⟩
  | false => exact q1 _ (by rw [h]; rfl) _
noncomputable abbrev boB : List IS := [(.assign 6 (.bin .Sub (.bin .Add (.loc 3) (.loc 2)) (.loc 5))), (.for 7 .val (.loc 1) baB)]
theorem ba_out {XF : XS} {k : Bk} {v1 : V} {ps qs : List Prs} {hs : List Mtg} {hours a b : Int} {t8 t9 t10 : Option V} {H : Hp} {Q : QS} (S : Som H k v1 ps hs qs) : ∀ (ks : List Int) (t5 t6 t7 : Option V), (∀ k ∈ ks, 1 ≤ k ∧ k ≤ hours) →
  (∀ nm x, a ≤ x → x < a + hours → gd b hs qs x = false → ∀ L', Q (.ret (.tup [.str nm, .int x])) L' H) → ((∀ k ∈ ks, gd b hs qs (a + hours - k) = true) → ∀ L', Q .next L' H) →
  forGo (whBX Ψ4 boB XF) (fun _ => True) 5 (ks.map V.int) [some (.ref k.b), some v1, some (.int hours), some (.int a), some (.int b), t5, t6, t7, t8, t9, t10] H Q := by
 intro ks
 have hl := S.list
 induction ks with
 | nil => intro t5 t6 t7 _ _ q; exact q (fun _ h => nomatch h) _
 | cons j ks ih =>
  intro t5 t6 t7 hk q1 q2
  have hk0 := hk j List.mem_cons_self
  rw [List.map_cons, foX_cons]
  refine zs_cons ?_
  generalize hK : sqX Ψ4 (_ :: _) = K
  simp_arith only [X_lit]
  subst hK
  refine zs_cons ?_
  have run : ∀ (st : Hp → Prop), st H → forGo (whBX Ψ4 baB XF) st 7 (nmL qs) [some (.ref k.b), some v1, some (.int hours), some (.int a), some (.int b), some (.int j), some (.int (a + hours - j)), t7, t8, t9, t10] H (sqX Ψ4 [] (fkX (whBX Ψ4 boB XF) (fun _ => True) 5 (ks.map V.int) Q) XF) := fun st hst => ?_
  ·rw [Z_for]
   rcases hl with ⟨n, rfl, hl⟩ | rfl
   ·show oK (listAt H n) _
    rw [hl]; exact run _ hl
   ·exact run _ trivial
  refine ba_in hst S.book qs _ S.sub (fun nm h L' => q1 nm _ (by lia) (by lia) h L') fun h t7' => ?_
  exact ⟨trivial, ih _ _ _ (fun k' h => hk k' (List.mem_cons_of_mem _ h)) q1 fun hks => q2 fun k' hk' => by
   rcases List.mem_cons.mp hk' with q | q
   ·rw [q]; exact h
   ·exact hks k' q⟩
theorem w_bar : ∀ vs H Q X, C_bar vs H Q X → wpFn Ψ4 f_B_bar vs H Q X := by
 rintro vs H Q X ⟨k, v1, ps, hs, qs, hours, a, b, S, hh, h0, h1, q1, q2⟩
 refine fn_of rfl ?_
 have e1 := hh.1
 have e2 := hh.2
 change wpSs Ψ4 f_B_bar.body [some (.ref k.b), some v1, some (.int hours), some (.int a), some (.int b), none, none, none, none, none, none] H _ _
 refine zs_cons ?_
 generalize hK : sqX Ψ4 (_ :: _) = K
 simp_arith only [X_lit]
 refine ⟨⟨by lia, by lia⟩, ?_⟩
 rw [rangeL_J]
 subst hK
 refine ba_out S _ _ _ _ (fun k hk => ?_) (fun nm x k1 k2 k3 L' => q2 nm x k1 k2 k3) fun h L' => q1 fun x k1 k2 => ?_
 ·have := mem_rangeJ.mp hk; lia
 ·have := h (a + hours - x) (mem_rangeJ.mpr (by lia))
  rw [show a + hours - (a + hours - x) = x by lia] at this
  exact this
noncomputable def Ψ5 : Orc := ext (Str.ofString "Book." ++ Str.ofString "bar") C_bar Ψ4
theorem P5_ba : Ψ5 (Str.ofString "Book." ++ Str.ofString "bar") = C_bar := rfl
inductive IC_look (H : Hp) (Q : V → Hp → Prop) : List V → Prop where
 | mk (k : Bk) (v1 : V) (ps : List Prs) (hs : List Mtg) (qs : List Prs) (hours lo last b : Int) : Som H k v1 ps hs qs → sizeOk1 hours → 0 ≤ lo → lo < 2 ^ 45 → last ≤ lo + 100000 → (∀ v rows, IsFirst (gd b hs qs) hours lo last v → Q (.tup [v, .ref H.length]) (H ++ [.list rows])) → IC_look H Q [.ref k.b, v1, .int hours, .int lo, .int last, .int b]
noncomputable def C_look : Ctr := fun vs H Q _ => IC_look H Q vs
noncomputable abbrev loT : IE := .cmp (.loc 3) .LtE (.loc 4)
noncomputable abbrev loB : List IS := bdy (f_B_look.body.getD 1 .fail)
theorem lo_loop {k : Bk} {v1 : V} {ps qs : List Prs} {hs : List Mtg} {hours lo last b : Int} {t8 t9 t10 : Option V} {H : Hp} {Q : QS} (S : Som H k v1 ps hs qs) (hh : sizeOk1 hours) (h0 : 0 ≤ lo) (hl : lo < 2 ^ 45) (hla : last ≤ lo + 100000)
  (q1 : ∀ a rows L', IsFirst (gd b hs qs) hours lo last (.int a) → Q (.ret (.tup [.int a, .ref H.length])) L' (H ++ [.list rows]))
  (q2 : ∀ rows t3 t7, IsFirst (gd b hs qs) hours lo last .none → Q .next [some (.ref k.b), some v1, some (.int hours), t3, some (.int last), some (.int b), some (.ref H.length), t7, t8, t9, t10] (H ++ [.list rows])) : ∀ (z : Nat) (a : Int) (rows : List V) (t7 : Option V),
  last + 1 - a < (z : Int) → lo ≤ a → a ≤ lo + 200000 → rows.length + z ≤ 1000000 → (∀ x, lo ≤ x → x < a → ¬ okW (gd b hs qs) hours x) →
  whileGo (whTX Ψ5 loT noX) (whBX Ψ5 loB noXS) z [some (.ref k.b), some v1, some (.int hours), some (.int a), some (.int last), some (.int b), some (.ref H.length), t7, t8, t9, t10] (H ++ [.list rows]) Q ∨ z = 0 := by
 intro z
 have e1 := hh.1
 have e2 := hh.2
 induction z with
 | zero => intro a rows t7 _ _ _ _ _; exact .inr rfl
 | succ z ih =>
  intro a rows t7 hk ha ha2 hz hno
  refine .inl ?_
  have S' := S.pre (pre_new (o := .list rows))
  have hns := S'.book.ns
  rw [whX_s]
  show ifP (decide (a ≤ last)) _ _
  refine iX_p (fun hle => ?_) (fun hle => ?_)
  ·refine zs_cons ?_
   generalize hK : sqX Ψ5 (_ :: _) = K
   simp_arith only [hns, ↓P5_ba]
   refine ⟨k, v1, ps, hs, qs, hours, a, b, S', hh, by lia, by lia, fun hok => ?_, fun nm x k1 k2 k3 => ?_⟩
   ·subst hK
    refine zs_cons ?_
    generalize hK : sqX Ψ5 (_ :: _) = K
    simp_arith only [isNoneV]
    subst hK
    exact q1 a rows _ (.inl ⟨a, rfl, ha, hle, hok, hno⟩)
   ·subst hK
    refine zs_cons ?_
    generalize hK : sqX Ψ5 (_ :: _) = K
    simp_arith only [isNoneV]
    subst hK
    refine zs_cons ?_
    generalize hK : sqX Ψ5 (_ :: _) = K
    simp_arith only [listAt_new, set_new]
    refine ⟨⟨_, listAt_new⟩, by lia, ?_⟩
    subst hK
    simp_arith only [X_lit]
    have no : ∀ y, lo ≤ y → y < x + 1 → ¬ okW (gd b hs qs) hours y := fun y y1 y2 hy => by
     by_cases hya : y < a
     ·exact hno y y1 hya hy
     ·have := hy x (by lia) (by lia)
      rw [k3] at this; exact Bool.noConfusion this
    rcases ih (x + 1) (rows ++ [.tup [.int a, .int (min last x), .str nm, .int x]]) (some (.tup [.str nm, .int x])) (by lia) (by lia) (by lia) (by rw [List.length_append, List.length_singleton]; lia) no with h | h
    ·exact h
    ·lia
  ·exact q2 rows _ _ (.inr ⟨rfl, fun x x1 x2 => hno x x1 (by lia)⟩)
theorem w_look : ∀ vs H Q X, C_look vs H Q X → wpFn Ψ5 f_B_look vs H Q X := by
 rintro vs H Q X ⟨k, v1, ps, hs, qs, hours, lo, last, b, S, hh, h0, h1, h2, q⟩
 refine fn_of rfl ?_
 change wpSs Ψ5 f_B_look.body [some (.ref k.b), some v1, some (.int hours), some (.int lo), some (.int last), some (.int b), none, none, none, none, none] H _ _
 refine zs_cons ?_
 generalize hK : sqX Ψ5 (_ :: _) = K
 simp_arith only [X_lit]
 subst hK
 refine zs_cons ?_
 rw [Z_while]
 refine ⟨(last + 1 - lo).toNat + 1, (lo_loop S hh h0 h1 h2 (fun a rows L' h => q _ rows h) (fun rows t3 t7 h => ?_) _ lo [] _ (by lia) (by lia) (by lia) (by show 0 + _ ≤ _; lia) (fun x x1 x2 => by lia)).resolve_right (by lia)⟩
 simp_arith only [X_lit]
 exact q _ rows h
noncomputable def Ψ6 : Orc := ext (Str.ofString "Book." ++ Str.ofString "look") C_look Ψ5
theorem P6_na : Ψ6 (Str.ofString "Book." ++ Str.ofString "need_all") = C_need_all := rfl
theorem P6_ns : Ψ6 "need_stretch" = C_need_stretch := rfl
theorem P6_lo : Ψ6 (Str.ofString "Book." ++ Str.ofString "look") = C_look := rfl
structure Can (hours lo hi : Int) : Prop where
 hh : sizeOk1 hours
 hl : hourOk lo
 hu : hourOk hi
 le : lo ≤ hi
 ge : hi ≤ lo + 10000
inductive IC_first (H : Hp) (Q : V → Hp → Prop) : List V → Prop where
 | mk (k : Bk) (n : Nat) (ps : List Prs) (hs : List Mtg) (qs : List Prs) (hours lo hi : Int) : Some' H k n ps hs qs → (∀ q ∈ qs, q.fine) → qs ≠ [] → (qs.map Prs.nm).Nodup → Can hours lo hi → (∀ v rows, IsFirst (gd 0 hs qs) hours lo (hi - hours) v → Q (.tup [v, .ref H.length]) (H ++ [.list rows])) → IC_first H Q [.ref k.b, .ref n, .int hours, .int lo, .int hi]
noncomputable def C_first : Ctr := fun vs H Q _ => IC_first H Q vs
theorem w_first : ∀ vs H Q X, C_first vs H Q X → wpFn Ψ6 f_B_first vs H Q X := by
 rintro vs H Q X ⟨k, n, ps, hs, qs, hours, lo, hi, S, hf, hne, hn, C, q⟩
 refine fn_of rfl ?_
 have hns := S.book.ns
 have e1 := C.hh.1
 have e2 := C.hl.1
 have e3 := C.hl.2
 have e4 := C.ge
 simp_arith only [f_B_first, initL, List.map_cons, List.map_nil, List.replicate, List.cons_append, List.nil_append, hns, ↓P6_na]
 refine ⟨k, n, ps, hs, qs, S, hne, hn, ?_⟩
 simp_arith only [↓P6_ns]
 refine ⟨hours, lo, hi, C.hh, C.hl, C.hu, C.le, C.ge, ?_⟩
 simp_arith only [hns, ↓P6_lo]
 exact ⟨k, _, ps, hs, qs, hours, lo, hi - hours, 0, S.som hf, C.hh, e2, by lia, by lia, q⟩
noncomputable def Ψ7 : Orc := ext (Str.ofString "Book." ++ Str.ofString "first") C_first Ψ6
noncomputable def C_meetings : Ctr := fun vs H Q _ => ∃ (k : Bk) (ps : List Prs) (hs : List Mtg), vs = [.ref k.b] ∧ BkAt H k ps hs ∧ Q (.ref H.length) (H ++ [.list (hs.map mtv)])
theorem w_meetings : ∀ vs H Q X, C_meetings vs H Q X → wpFn Ψ7 f_B_meetings vs H Q X := by
 rintro vs H Q X ⟨k, ps, hs, rfl, B, q⟩
 refine fn_of rfl ?_
 simp_arith only [f_B_meetings, initL, List.map_cons, List.map_nil, List.replicate, List.cons_append, List.nil_append, B.ns, B.fH, B.lh]
 exact q
noncomputable def Ψ8 : Orc := ext (Str.ofString "Book." ++ Str.ofString "meetings") C_meetings Ψ7
end Mine
namespace Mine
open PySem
theorem P8_fi : Ψ8 (Str.ofString "Book." ++ Str.ofString "first") = C_first := rfl
structure BkNe (k : Bk) : Prop where
 bj : k.b ≠ k.j
 bn : k.b ≠ k.n
 bh : k.b ≠ k.h
 bd : k.b ≠ k.d
 be : k.b ≠ k.e
 jn : k.j ≠ k.n
 jh : k.j ≠ k.h
 jd : k.j ≠ k.d
 je : k.j ≠ k.e
 nh : k.n ≠ k.h
 nd : k.n ≠ k.d
 ne : k.n ≠ k.e
 hd : k.h ≠ k.d
 he : k.h ≠ k.e
 de : k.d ≠ k.e
 ls : ∀ i ∈ k.fl ++ k.ul, i ≠ k.b ∧ i ≠ k.j ∧ i ≠ k.n ∧ i ≠ k.h ∧ i ≠ k.d ∧ i ≠ k.e
 ll : (k.fl ++ k.ul).Nodup
theorem bkNe {k : Bk} (h : k.foot.Nodup) : BkNe k := by
 obtain ⟨h1, h⟩ := List.nodup_cons.mp h
 obtain ⟨h2, h⟩ := List.nodup_cons.mp h
 obtain ⟨h3, h⟩ := List.nodup_cons.mp h
 obtain ⟨h4, h⟩ := List.nodup_cons.mp h
 obtain ⟨h5, h⟩ := List.nodup_cons.mp h
 obtain ⟨h6, h⟩ := List.nodup_cons.mp h
 rw [List.mem_cons, List.mem_cons, List.mem_cons, List.mem_cons, List.mem_cons, not_or, not_or, not_or, not_or, not_or] at h1
 rw [List.mem_cons, List.mem_cons, List.mem_cons, List.mem_cons, not_or, not_or, not_or, not_or] at h2
 rw [List.mem_cons, List.mem_cons, List.mem_cons, not_or, not_or, not_or] at h3
 rw [List.mem_cons, List.mem_cons, not_or, not_or] at h4
 rw [List.mem_cons, not_or] at h5
 exact ⟨h1.1, h1.2.1, h1.2.2.1, h1.2.2.2.1, h1.2.2.2.2.1, h2.1, h2.2.1, h2.2.2.1, h2.2.2.2.1, h3.1, h3.2.1, h3.2.2.1, h4.1, h4.2.1, h5.1, fun i hi => ⟨fun q => h1.2.2.2.2.2 (q ▸ hi), fun q => h2.2.2.2.2 (q ▸ hi), fun q => h3.2.2.2 (q ▸ hi), fun q => h4.2.2 (q ▸ hi), fun q => h5.2 (q ▸ hi), fun q => h6 (q ▸ hi)⟩, h⟩
theorem nsAt_set {H : Hp} {b j : Nat} {fs gs : List (Str × V)} (h : nsAt H b = some (j, fs)) (hb : b ≠ j) : nsAt (H.set j (.ns gs)) b = some (j, gs) := by
 obtain ⟨h1, h2⟩ := nsAt_some h
 unfold nsAt
 rw [List.getElem?_set_ne (Ne.symm hb), h1]
 show (((H.set j (.ns gs))[j]?).bind nsO).map _ = _
 rw [List.getElem?_set_self (get_lt h2)]; rfl
theorem listAt_set {H : Hp} {n : Nat} {l m : List V} (h : listAt H n = some l) : listAt (H.set n (.list m)) n = some m := by
 refine e1_2 (Option.bind_eq_some_iff.mp h) fun o e _ => ?_
 unfold listAt
 rw [List.getElem?_set_self (get_lt e)]; rfl
theorem listAt_set_ne {H : Hp} {n m : Nat} {o : O} (h : n ≠ m) : listAt (H.set n o) m = listAt H m := by
 unfold listAt; rw [List.getElem?_set_ne h]
theorem lk_g {v : V} {fs : List (Str × V)} : List.lookup (Str.ofString "given") ((Str.ofString "given", v) :: fs) = some v := by rw [List.lookup_cons, beq_self_eq_true]
theorem lk_n {x : Str} {v : V} {fs : List (Str × V)} (h : (x == Str.ofString "given") = false) : List.lookup x ((Str.ofString "given", v) :: fs) = fs.lookup x := by rw [List.lookup_cons, h]
theorem g_n : (Str.ofString "names" == Str.ofString "given") = false := by decide
theorem g_h : (Str.ofString "held" == Str.ofString "given") = false := by decide
theorem g_f : (Str.ofString "free_rules" == Str.ofString "given") = false := by decide
theorem g_b : (Str.ofString "busy_rules" == Str.ofString "given") = false := by decide
inductive IC_meet (H : Hp) (Q : V → Hp → Prop) : List V → Prop where
 | mk (k : Bk) (n : Nat) (ps : List Prs) (hs : List Mtg) (qs : List Prs) (hours lo hi : Int) : Some' H k n ps hs qs → (∀ q ∈ qs, q.fine) → qs ≠ [] → (qs.map Prs.nm).Nodup → Can hours lo hi → n ∉ k.foot → hs.length ≤ 1000 → k.c ≤ 1000 →
   (∀ H', H <+: H' → IsFirst (gd 0 hs qs) hours lo (hi - hours) .none → Q .none H') →
   (∀ (a : Int) (k' : Bk) (H' : Hp), IsFirst (gd 0 hs qs) hours lo (hi - hours) (.int a) → Fr k.foot H H' → k'.foot = k.foot → k'.b = k.b → k'.g = k.g + 1 → k'.c = k.c + 1 → BkAt H' k' ps (hs ++ [⟨k.g + 1, a, hours, qs.map Prs.nm⟩]) → Q (.tup [.int (k.g + 1), .int a]) H') → IC_meet H Q [.ref k.b, .ref n, .int hours, .int lo, .int hi]
noncomputable def C_meet : Ctr := fun vs H Q _ => IC_meet H Q vs
theorem IsFirst.kind {G : Int → Bool} {hours lo last : Int} {v : V} (h : IsFirst G hours lo last v) : v = .none ∨ ∃ a, v = .int a := by
 rcases h with ⟨a, rfl, _⟩ | ⟨rfl, _⟩
 ·exact .inr ⟨a, rfl⟩
 ·exact .inl rfl
theorem w_meet : ∀ vs H Q X, C_meet vs H Q X → wpFn Ψ8 f_B_meet vs H Q X := by
 rintro vs H Q X ⟨k, n, ps, hs, qs, hours, lo, hi, S, hf, hne, hnd, C, hn, hz, hc, q1, q3⟩
 refine fn_of rfl ?_
 have B0 := S.book
 have hl0 := S.list
 change wpSs Ψ8 f_B_meet.body [some (.ref k.b), some (.ref n), some (.int hours), some (.int lo), some (.int hi), none, none, none, none] H _ _
 refine zs_cons ?_
 generalize hK : sqX Ψ8 (_ :: _) = K
 simp_arith only [B0.ns, ↓P8_fi]
 refine ⟨k, n, ps, hs, qs, hours, lo, hi, S, hf, hne, hnd, C, fun v rows F => ?_⟩
 simp_arith only [X_lit]
 subst hK
 rcases F.kind with rfl | ⟨a0, rfl⟩
 ·refine zs_cons ?_
  generalize hK : sqX Ψ8 (_ :: _) = K
  simp_arith only [isNoneV]
  subst hK
  exact q1 _ pre_new F
 have B := B0.pre (pre_new (o := .list rows))
 have hl := listAt_pre (pre_new (o := .list rows)) hl0
 have fr1 : Fr k.foot H (H ++ [.list rows]) := Fr.pre pre_new
 have p1 : H <+: H ++ [.list rows] := pre_new
 generalize H ++ [O.list rows] = H1 at *
 refine zs_cons ?_
 generalize hK : sqX Ψ8 (_ :: _) = K
 simp_arith only [isNoneV]
 subst hK
 have N := bkNe B.nd
 have hb := B.z
 refine zs_cons ?_
 generalize hK : sqX Ψ8 (_ :: _) = K
 simp_arith only [B.ns, B.fG]
 refine ⟨by lia, ?_⟩
 subst hK
 have ns2 := nsAt_set (gs := (Str.ofString "given", .int (k.g + 1)) :: k.fs) B.ns N.bj
 have f2 : Fr [k.j] H1 (H1.set k.j (.ns ((Str.ofString "given", .int (k.g + 1)) :: k.fs))) := Fr.set
 generalize hH2 : H1.set k.j (.ns ((Str.ofString "given", .int (k.g + 1)) :: k.fs)) = H2 at *
 have lh2 := f2.list (nin1 (Ne.symm N.jh)) B.lh
 have ln2 := f2.list (nin1 (fun q => hn (by rw [q]; exact ft_j))) hl
 refine zs_cons ?_
 generalize hK : sqX Ψ8 (_ :: _) = K
 simp_arith only [ns2, lk_n g_h, lk_g, B.fH, lh2, ln2]
 refine ⟨⟨_, lh2⟩, by rw [List.length_map]; lia, ?_⟩
 subst hK
 have f3 : Fr [k.h] H2 (H2.set k.h (.list (hs.map mtv ++ [.tup [.int (k.g + 1), .int a0, .int hours, .tup (qs.map fun p => .str p.nm)]]))) := Fr.set
 have ns3 := f3.ns (nin1 N.bh) (nin1 N.jh) ns2
 have lh3 : listAt (H2.set k.h (.list (hs.map mtv ++ [.tup [.int (k.g + 1), .int a0, .int hours, .tup (qs.map fun p => .str p.nm)]]))) k.h = some _ := listAt_set lh2
 generalize H2.set k.h (.list (hs.map mtv ++ [.tup [.int (k.g + 1), .int a0, .int hours, .tup (qs.map fun p => .str p.nm)]])) = H3 at *
 simp_arith only [ns3, lk_g]
 refine q3 a0 { k with fs := (Str.ofString "given", .int (k.g + 1)) :: k.fs, g := k.g + 1, c := k.c + 1 } H3 F ((fr1.trans f2 fun i hi => .inl (by rw [List.mem_singleton.mp hi]; exact ft_j)).trans f3 fun i hi => .inl (by rw [List.mem_singleton.mp hi]; exact ft_h)) rfl rfl rfl rfl ?_
 have tl : ∀ {i l}, i ≠ k.j → i ≠ k.h → listAt H1 i = some l → listAt H3 i = some l := fun h1 h2 h => f3.list (nin1 h2) (f2.list (nin1 h1) h)
 have td : ∀ {i l}, i ≠ k.j → i ≠ k.h → dictAt H1 i = some l → dictAt H3 i = some l := fun h1 h2 h => f3.dict (nin1 h2) (f2.dict (nin1 h1) h)
 have g0 := B.g0
 refine ⟨B.nd, ns3, (lk_n g_n).trans B.fN, (lk_n g_h).trans B.fH, (lk_n g_f).trans B.fF, (lk_n g_b).trans B.fB, lk_g, tl (Ne.symm N.jn) N.nh B.ln, ?_, td (Ne.symm N.jd) (Ne.symm N.hd) B.dd, td (Ne.symm N.je) (Ne.symm N.he) B.de, (B.rf.fr f2 fun i hi => nin1 (N.ls i (List.mem_append_left _ hi)).2.1).fr f3 fun i hi => nin1 (N.ls i (List.mem_append_left _ hi)).2.2.2.1,
  (B.ru.fr f2 fun i hi => nin1 (N.ls i (List.mem_append_right _ hi)).2.1).fr f3 fun i hi => nin1 (N.ls i (List.mem_append_right _ hi)).2.2.2.1, by show 0 ≤ k.g + 1; lia, fun m hm => ?_, ?_, Nat.succ_le_succ B.z, B.ze, B.zu⟩
 ·rw [lh3, List.map_append, show [(⟨k.g + 1, a0, hours, qs.map Prs.nm⟩ : Mtg)].map mtv = [.tup [.int (k.g + 1), .int a0, .int hours, .tup ((qs.map Prs.nm).map V.str)]] from rfl, ← nm_map]
 ·rcases List.mem_append.mp hm with h | h
  ·have := B.no m h; exact ⟨this.1, by show m.no ≤ k.g + 1; lia⟩
  ·rw [List.mem_singleton.mp h]; show 0 < k.g + 1 ∧ k.g + 1 ≤ k.g + 1; lia
 ·rw [List.map_append]
  refine List.nodup_append.mpr ⟨B.nu, List.nodup_cons.mpr ⟨List.not_mem_nil, List.nodup_nil⟩, fun x hx y hy => ?_⟩
  refine e1_2 (List.mem_map.mp hx) fun m hm e_241 => ?_
  obtain rfl := e_241
  rw [List.mem_singleton.mp hy]
  have := B.no m hm
  show m.no ≠ k.g + 1; lia
noncomputable def Ψm : Orc := ext (Str.ofString "Book." ++ Str.ofString "meet") C_meet Ψ8
end Mine
namespace Mine
open PySem
theorem get_off {H X : Hp} {k : Nat} : (H ++ X)[H.length + k]? = X[k]? := by
 rw [List.getElem?_append_right (Nat.le_add_right _ _), Nat.add_sub_cancel_left]
theorem get_off0 {H X : Hp} : (H ++ X)[H.length]? = X[0]? := get_off (k := 0)
theorem set_off {H X : Hp} {k : Nat} {o : O} : (H ++ X).set (H.length + k) o = H ++ X.set k o := by
 rw [List.set_append_right _ _ (Nat.le_add_right _ _), Nat.add_sub_cancel_left]
theorem set_off0 {H X : Hp} {o : O} : (H ++ X).set H.length o = H ++ X.set 0 o := set_off (k := 0)
theorem list_off {H X : Hp} {k : Nat} : listAt (H ++ X) (H.length + k) = listAt X k := by unfold listAt; rw [get_off]
theorem dict_off {H X : Hp} {k : Nat} : dictAt (H ++ X) (H.length + k) = dictAt X k := by unfold dictAt; rw [get_off]
theorem ns_off {H X : Hp} {fs : List (Str × V)} : nsAt (H ++ (.ns fs :: .inst H.length :: X)) (H.length + 1) = some (H.length, fs) := by
 unfold nsAt
 rw [get_off]
 show (((H ++ _)[H.length]?).bind nsO).map _ = _
 rw [get_off0]; rfl
noncomputable def bkF (n : Nat) : List (Str × V) := [(Str.ofString "given", .int 0), (Str.ofString "held", .ref (n + 5)), (Str.ofString "busy_rules", .ref (n + 4)), (Str.ofString "free_rules", .ref (n + 3)), (Str.ofString "names", .ref (n + 2))]
noncomputable def bk0 (n : Nat) : Bk := ⟨n + 1, n, n + 2, n + 5, n + 3, n + 4, bkF n, [], [], [], [], 0, 5⟩
theorem foot0 (n : Nat) : (bk0 n).foot = [1, 0, 2, 5, 3, 4].map (n + ·) := rfl
theorem bk0_at {H : Hp} : BkAt (H ++ [.ns (bkF H.length), .inst H.length, .list [], .dict [], .dict [], .list []]) (bk0 H.length) [] [] := by
 refine ⟨?_, ns_off, by rfl, by rfl, by rfl, by rfl, by rfl, list_off, list_off, dict_off, dict_off, rfl, rfl, Int.le_refl _, fun _ h => (nomatch h), List.nodup_nil, Nat.le_refl _, rfl, rfl⟩
 rw [foot0]
 exact List.Pairwise.map (H.length + ·) (fun a b h q => h (Nat.add_left_cancel q)) (show [1, 0, 2, 5, 3, 4].Nodup by decide)
noncomputable def C_init : Ctr := fun vs H Q _ => ∃ H0 : Hp, vs = [.ref (H0.length + 1)] ∧ H = H0 ++ [.ns []] ++ [.inst H0.length] ∧ ∀ (H' : Hp) (k : Bk), H0 <+: H' → k.b = H0.length + 1 → k.g = 0 → k.c = 5 → (∀ i ∈ k.foot, H0.length ≤ i) → BkAt H' k [] [] → Q .none H'
theorem w_init : ∀ vs H Q X, C_init vs H Q X → wpFn Ψm f_B___init__ vs H Q X := by
 rintro vs H Q X ⟨H0, rfl, rfl, q⟩
 refine fn_of rfl ?_
 simp_arith only [f_B___init__, initL, List.map_cons, List.map_nil, List.replicate, List.cons_append, List.nil_append, List.append_assoc, List.length_append, ns_off, set_off0]
 exact q _ (bk0 H0.length) (List.prefix_append _ _) rfl rfl rfl (fun i hi => by rw [foot0] at hi; obtain ⟨j, _, rfl⟩ := List.mem_map.mp hi; exact Nat.le_add_right _ _) bk0_at
noncomputable def Ψ9 : Orc := ext "Book.__init__" C_init Ψm
theorem P9_in : Ψ9 "is_name" = C_is_name := rfl
theorem P9_ir : Ψ9 "is_rule" = C_is_rule := rfl
theorem dictAt_lt {H : Hp} {i : Nat} {l : List (Str × V)} (h : dictAt H i = some l) : i < H.length := by
 refine e1_2 (Option.bind_eq_some_iff.mp h) fun o e _ => ?_
 exact get_lt e
theorem dictAt_set {H : Hp} {n : Nat} {l m : List (Str × V)} (h : dictAt H n = some l) : dictAt (H.set n (.dict m)) n = some m := by
 unfold dictAt
 rw [List.getElem?_set_self (dictAt_lt h)]; rfl
theorem RlAt.lt {H : Hp} {es : List (Str × V)} {f : Prs → List Rl} : ∀ {ps : List Prs} {is : List Nat}, RlAt H es f ps is → ∀ i ∈ is, i < H.length
 | [], _, h, i, hi => by rw [show _ = [] from h] at hi; exact nomatch hi
 | _ :: _, _, ⟨i, js, e, h1, h2, r⟩, j, hj => by
  rw [e] at hj
  rcases List.mem_cons.mp hj with q | q
  ·rw [q]; exact listAt_lt h2
  ·exact r.lt j q
theorem BkAt.lt {H : Hp} {k : Bk} {ps : List Prs} {hs : List Mtg} (B : BkAt H k ps hs) : ∀ i ∈ k.foot, i < H.length := fun i hi => by
 obtain ⟨h1, h2⟩ := nsAt_some B.ns
 rcases List.mem_cons.mp hi with q | hi
 ·rw [q]; exact get_lt h1
 rcases List.mem_cons.mp hi with q | hi
 ·rw [q]; exact get_lt h2
 rcases List.mem_cons.mp hi with q | hi
 ·rw [q]; exact listAt_lt B.ln
 rcases List.mem_cons.mp hi with q | hi
 ·rw [q]; exact listAt_lt B.lh
 rcases List.mem_cons.mp hi with q | hi
 ·rw [q]; exact dictAt_lt B.dd
 rcases List.mem_cons.mp hi with q | hi
 ·rw [q]; exact dictAt_lt B.de
 rcases List.mem_append.mp hi with q | q
 ·exact B.rf.lt i q
 ·exact B.ru.lt i q
theorem RlAt.app {H : Hp} {es : List (Str × V)} {f : Prs → List Rl} {p : Prs} {i : Nat} (h1 : es.lookup p.nm = some (.ref i)) (h2 : listAt H i = some ((f p).map rv)) : ∀ {ps : List Prs} {is : List Nat}, RlAt H es f ps is → RlAt H es f (ps ++ [p]) (is ++ [i])
 | [], is, h => by obtain rfl := h; exact ⟨i, [], rfl, h1, h2, rfl⟩
 | _ :: _, _, ⟨j, js, e, k1, k2, r⟩ => ⟨j, js ++ [i], by rw [e]; rfl, k1, k2, r.app h1 h2⟩
theorem RlAt.new {H : Hp} {es : List (Str × V)} {f : Prs → List Rl} {x : Str} {v : V} : ∀ {ps : List Prs} {is : List Nat}, x ∉ ps.map Prs.nm → RlAt H es f ps is → RlAt H ((x, v) :: es) f ps is
 | [], _, _, h => h
 | a :: ps, _, hx, ⟨j, js, e, k1, k2, r⟩ => by
  rw [List.map_cons, List.mem_cons, not_or] at hx
  exact ⟨j, js, e, by rw [List.lookup_cons, beq_eq_false_iff_ne.mpr (Ne.symm hx.1)]; exact k1, k2, r.new hx.2⟩
inductive IC_come (H : Hp) (Q : V → Hp → Prop) : List V → Prop where
 | mk (k : Bk) (ps : List Prs) (hs : List Mtg) (nm : Str) (i : Nat) (rs : List Rl) : (BkAt H k ps hs) → (listAt H i = some (rs.map rv)) → (i ∉ k.foot) → (nameOk nm) → (nm ∉ ps.map Prs.nm) → (rs.length ≤ 20) → ((∀ r ∈ rs, r.fine ∧ r.deep ≤ 7)) → (ps.length ≤ 1000) → (∀ (H' : Hp) (k' : Bk), Fr k.foot H H' → k'.b = k.b → k'.g = k.g → k'.c = k.c → (∀ i ∈ k'.foot, i ∈ k.foot ∨ H.length ≤ i) → BkAt H' k' (ps ++ [⟨nm, rs, []⟩]) hs → Q .none H') → IC_come H Q ([.ref k.b, .str nm, .ref i])
noncomputable def C_come : Ctr := fun vs H Q _ => IC_come H Q vs
theorem ru_loop {XF : XS} {v0 v1 v2 : V} {t4 t5 t6 : Option V} {H : Hp} {Q : QS} {st : Hp → Prop} (hst : st H) : ∀ (rs : List Rl) (t3 : Option V), (∀ r ∈ rs, r.fine ∧ r.deep ≤ 7) → (∀ t3', Q .next [some v0, some v1, some v2, t3', t4, t5, t6] H) →
  forGo (whBX Ψ9 (bdy (f_B_come.body.getD 3 .fail)) XF) st 3 (rs.map rv) [some v0, some v1, some v2, t3, t4, t5, t6] H Q := by
 intro rs
 induction rs with
 | nil => intro t3 _ q; exact q _
 | cons r rs ih =>
  intro t3 hf q
  rw [List.map_cons, foX_cons]
  simp_arith only [↓P9_ir]
  refine ⟨r, rfl, (hf r List.mem_cons_self).1, (hf r List.mem_cons_self).2, ?_⟩
  simp_arith only [X_lit]
  exact ⟨hst, ih _ (fun r h => hf r (List.mem_cons_of_mem _ h)) q⟩
theorem nin3 {i x y z : Nat} (h1 : i ≠ x) (h2 : i ≠ y) (h3 : i ≠ z) : i ∉ [x, y, z] := fun q => by
 rcases List.mem_cons.mp q with q | q
 ·exact h1 q
 rcases List.mem_cons.mp q with q | q
 ·exact h2 q
 exact h3 (List.mem_singleton.mp q)
theorem nodup_mid {A B C : List Nat} {m x : Nat} (hx : x = m) (h : (A ++ (B ++ C)).Nodup) (hl : ∀ i ∈ A ++ (B ++ C), i < m) : (A ++ ((B ++ [x]) ++ (C ++ [x + 1]))).Nodup := by
 have p : (A ++ ((B ++ [x]) ++ (C ++ [x + 1]))).Perm ((A ++ (B ++ C)) ++ [x, x + 1]) := by
  rw [List.append_assoc A]
  refine List.Perm.append_left A ?_
  rw [List.append_assoc, List.append_assoc]
  refine List.Perm.append_left B ?_
  rw [← List.append_assoc [x] C [x + 1], show [x, x + 1] = [x] ++ [x + 1] from rfl, ← List.append_assoc C [x] [x + 1]]
  exact List.Perm.append_right _ List.perm_append_comm
 refine p.symm.nodup ?_
 refine List.nodup_append.mpr ⟨h, ?_, fun a ha b hb q => ?_⟩
 ·exact List.nodup_cons.mpr ⟨fun q => by have := List.mem_singleton.mp q; lia, List.nodup_cons.mpr ⟨List.not_mem_nil, List.nodup_nil⟩⟩
 ·have := hl a ha
  rcases List.mem_cons.mp hb with q' | q'
  ·lia
  ·have := List.mem_singleton.mp q'; lia
theorem w_come : ∀ vs H Q X, C_come vs H Q X → wpFn Ψ9 f_B_come vs H Q X := by
 rintro vs H Q X ⟨k, ps, hs, nm, i, rs, B, hl, hi, hnm, hni, hz, hf, hps, q⟩
 refine fn_of rfl ?_
 have N := bkNe B.nd
 have hc : (ps.map Prs.nm).contains nm = false := by
  cases h : (ps.map Prs.nm).contains nm with
  | false => rfl
  | true => exact absurd (List.contains_iff_mem.mp h) hni
 have h3 := B.ln
 rw [nm_map] at h3
 change wpSs Ψ9 f_B_come.body [some (.ref k.b), some (.str nm), some (.ref i), none, none, none, none] _ _ _
 refine zs_cons ?_
 generalize hK : sqX Ψ9 (_ :: _) = K
 simp_arith only [↓P9_in]
 refine ⟨nm, rfl, hnm, ?_⟩
 simp_arith only [X_lit]
 subst hK
 refine zs_cons ?_
 generalize hK : sqX Ψ9 (_ :: _) = K
 simp_arith only [B.ns, B.fN, h3, mem_strs, hc]
 subst hK
 refine zs_cons ?_
 generalize hK : sqX Ψ9 (_ :: _) = K
 simp_arith only [hl, List.length_map]
 refine ⟨fun h => absurd h (by lia), fun _ => ?_⟩
 subst hK
 refine zs_cons ?_
 generalize hK : sqX Ψ9 (_ :: _) = K
 simp_arith only [hl]
 subst hK
 refine ru_loop hl rs _ hf fun t3' => ?_
 refine zs_cons ?_
 generalize hK : sqX Ψ9 (_ :: _) = K
 simp_arith only [B.ns, B.fN, B.ln]
 refine ⟨⟨_, B.ln⟩, by rw [List.length_map]; lia, ?_⟩
 subst hK
 have f1 : Fr [k.n] H (H.set k.n (.list ((ps.map fun p => V.str p.nm) ++ [.str nm]))) := Fr.set
 have ln1 : listAt (H.set k.n (.list ((ps.map fun p => V.str p.nm) ++ [.str nm]))) k.n = some ((ps.map fun p => V.str p.nm) ++ [.str nm]) := listAt_set B.ln
 have e1 : (H.set k.n (.list ((ps.map fun p => V.str p.nm) ++ [.str nm]))).length = H.length := List.length_set
 generalize H.set k.n (.list ((ps.map fun p => V.str p.nm) ++ [.str nm])) = H1 at *
 have hl1 := f1.list (nin1 (i := i) fun q => hi (by rw [q]; exact ft_n)) hl
 have f2 : Fr [k.n] H (H1 ++ [.list (rs.map rv)]) := f1.trans (Fr.pre (F := []) pre_new) fun _ h => nomatch h
 have ln2 := listAt_pre (pre_new (o := .list (rs.map rv))) ln1
 have lx2 := listAt_new (H := H1) (l := rs.map rv)
 have e2 : (H1 ++ [O.list (rs.map rv)]).length = H.length + 1 := by rw [List.length_append, e1]; rfl
 have ns2 := f2.ns (nin1 N.bn) (nin1 N.jn) B.ns
 have dd2 := f2.dict (nin1 (Ne.symm N.nd)) B.dd
 refine zs_cons ?_
 generalize hK : sqX Ψ9 (_ :: _) = K
 have ze := B.ze
 have zu := B.zu
 simp_arith only [hl1, ns2, B.fF, dd2]
 refine ⟨by lia, ?_⟩
 subst hK
 rw [e1] at lx2 ⊢
 generalize H1 ++ [O.list (rs.map rv)] = H2 at *
 have f3 : Fr [k.d] H2 (H2.set k.d (.dict ((nm, .ref H.length) :: k.es))) := Fr.set
 have dd3 : dictAt (H2.set k.d (.dict ((nm, .ref H.length) :: k.es))) k.d = some ((nm, .ref H.length) :: k.es) := dictAt_set dd2
 have e3 : (H2.set k.d (.dict ((nm, .ref H.length) :: k.es))).length = H.length + 1 := List.length_set.trans e2
 generalize H2.set k.d (.dict ((nm, .ref H.length) :: k.es)) = H3 at *
 have f4 : Fr [k.d] H2 (H3 ++ [.list []]) := f3.trans (Fr.pre (F := []) pre_new) fun _ h => nomatch h
 have dd4 : dictAt (H3 ++ [.list []]) k.d = some ((nm, .ref H.length) :: k.es) := (Fr.pre (F := []) pre_new).dict (fun h => nomatch h) dd3
 have ns4 := f4.ns (nin1 N.bd) (nin1 N.jd) ns2
 have de4 := f4.dict (nin1 (Ne.symm N.de)) (f2.dict (nin1 (Ne.symm N.ne)) B.de)
 have ly4 := listAt_new (H := H3) (l := [])
 have lt := B.lt
 have ld := lt _ ft_d
 have le := lt _ ft_e
 have lx4 := f4.list (nin1 (show H.length ≠ k.d by lia)) lx2
 have ln4 := f4.list (nin1 N.nd) ln2
 refine zs_cons ?_
 generalize hK : sqX Ψ9 [] = K
 simp_arith only [ns4, B.fB, de4]
 refine ⟨by lia, ?_⟩
 subst hK
 rw [e3] at ly4 ⊢
 have e4 : (H3 ++ [O.list []]).length = H.length + 2 := by rw [List.length_append, e3]; rfl
 generalize H3 ++ [O.list []] = H4 at *
 have f5 : Fr [k.e] H4 (H4.set k.e (.dict ((nm, .ref (H.length + 1)) :: k.us))) := Fr.set
 have de5 : dictAt (H4.set k.e (.dict ((nm, .ref (H.length + 1)) :: k.us))) k.e = some ((nm, .ref (H.length + 1)) :: k.us) := dictAt_set de4
 generalize H4.set k.e (.dict ((nm, .ref (H.length + 1)) :: k.us)) = H5 at *
 have FF : Fr [k.n, k.d, k.e] H H5 := ((f2.mono (G := [k.n, k.d, k.e]) fun i hi => .inl (by rw [List.mem_singleton.mp hi]; exact .head _)).trans f4 fun i hi => .inl (by rw [List.mem_singleton.mp hi]; exact .tail _ (.head _))).trans f5 fun i hi => .inl (by rw [List.mem_singleton.mp hi]; exact .tail _ (.tail _ (.head _)))
 have ls : ∀ j ∈ k.fl ++ k.ul, j ∉ [k.n, k.d, k.e] := fun j hj => let ⟨_, _, a, _, b, c⟩ := N.ls j hj; nin3 a b c
 refine q H5 { k with es := (nm, .ref H.length) :: k.es, us := (nm, .ref (H.length + 1)) :: k.us, fl := k.fl ++ [H.length], ul := k.ul ++ [H.length + 1] } (FF.mono fun j hj => .inl ?_) rfl rfl rfl (fun j hj => ?_) ?_
 ·rcases List.mem_cons.mp hj with h | hj
  ·rw [h]; exact ft_n
  rcases List.mem_cons.mp hj with h | hj
  ·rw [h]; exact ft_d
  rw [List.mem_singleton.mp hj]; exact ft_e
 ·have hj : j ∈ [k.b, k.j, k.n, k.h, k.d, k.e] ++ ((k.fl ++ [H.length]) ++ (k.ul ++ [H.length + 1])) := hj
  rcases List.mem_append.mp hj with h | h
  ·exact .inl (show j ∈ [k.b, k.j, k.n, k.h, k.d, k.e] ++ (k.fl ++ k.ul) from List.mem_append_left _ h)
  rcases List.mem_append.mp h with h | h
  ·rcases List.mem_append.mp h with h | h
   ·exact .inl (ft_fl h)
   ·rw [List.mem_singleton.mp h]; exact .inr (Nat.le_refl _)
  ·rcases List.mem_append.mp h with h | h
   ·exact .inl (ft_ul h)
   ·rw [List.mem_singleton.mp h]; exact .inr (Nat.le_succ _)
 ·refine ⟨nodup_mid (A := [k.b, k.j, k.n, k.h, k.d, k.e]) rfl B.nd lt, FF.ns (nin3 N.bn N.bd N.be) (nin3 N.jn N.jd N.je) B.ns, B.fN, B.fH, B.fF, B.fB, B.fG, ?_, FF.list (nin3 (Ne.symm N.nh) N.hd N.he) B.lh, f5.dict (nin1 N.de) dd4, de5, ?_, ?_, B.g0, B.no, B.nu, B.z, congrArg (· + 1) ze |>.trans ?_, congrArg (· + 1) zu |>.trans ?_⟩
  ·rw [f5.list (nin1 N.ne) ln4, List.map_append]; rfl
  ·exact ((B.rf.fr FF fun j hj => ls j (List.mem_append_left _ hj)).new hni).app (p := ⟨nm, rs, []⟩) (by rw [List.lookup_cons, beq_self_eq_true]) (f5.list (nin1 (by lia)) lx4)
  ·exact ((B.ru.fr FF fun j hj => ls j (List.mem_append_right _ hj)).new hni).app (p := ⟨nm, rs, []⟩) (by rw [List.lookup_cons, beq_self_eq_true]) (f5.list (nin1 (by lia)) ly4)
  ·rw [List.length_append]; rfl
  ·rw [List.length_append]; rfl
noncomputable def Ψa : Orc := ext (Str.ofString "Book." ++ Str.ofString "come") C_come Ψ9
theorem Pa_ns : Ψa (Str.ofString "Book." ++ Str.ofString "need_somebody") = C_need_somebody := rfl
theorem Pa_ir : Ψa "is_rule" = C_is_rule := rfl
theorem Pa_co : Ψa "covers" = C_covers := rfl
theorem RlAt.mid {H : Hp} {es : List (Str × V)} {f : Prs → List Rl} {p : Prs} {qs : List Prs} : ∀ {ps : List Prs} {is : List Nat}, RlAt H es f (ps ++ p :: qs) is → ∃ js i ks, is = js ++ i :: ks ∧ RlAt H es f ps js ∧ es.lookup p.nm = some (.ref i) ∧ listAt H i = some ((f p).map rv) ∧ RlAt H es f qs ks
 | [], _, ⟨j, js, e, k1, k2, r⟩ => ⟨[], j, js, e, rfl, k1, k2, r⟩
 | a :: ps, _, ⟨j, js, e, k1, k2, r⟩ => by
  obtain ⟨js', i, ks, e', r', h1, h2, h3⟩ := RlAt.mid (ps := ps) r
  exact ⟨j :: js', i, ks, by rw [e, e']; rfl, ⟨j, js', rfl, k1, k2, r'⟩, h1, h2, h3⟩
theorem RlAt.join {H : Hp} {es : List (Str × V)} {f : Prs → List Rl} {qs : List Prs} {ks : List Nat} (h : RlAt H es f qs ks) : ∀ {ps : List Prs} {is : List Nat}, RlAt H es f ps is → RlAt H es f (ps ++ qs) (is ++ ks)
 | [], is, h' => by obtain rfl := h'; exact h
 | _ :: _, _, ⟨j, js, e, k1, k2, r⟩ => ⟨j, js ++ ks, by rw [e]; rfl, k1, k2, RlAt.join h r⟩
noncomputable def noClash (hs : List Mtg) (nm : Str) (r : Rl) : Prop := ∀ m ∈ hs, m.who.contains nm = true → r.ok ∧ 0 ≤ m.hr ∧ (0 ≤ m.sz ∧ m.sz ≤ 48) ∧ ∀ j, 0 ≤ j → j < m.sz → cov r (m.hr + j) = false
inductive IC_busy (H : Hp) (Q : V → Hp → Prop) : List V → Prop where
 | mk (k : Bk) (ps : List Prs) (qs : List Prs) (p : Prs) (hs : List Mtg) (r : Rl) : (BkAt H k (ps ++ p :: qs) hs) → (r.fine) → (r.deep ≤ 7) → (p.bu.length < 20) → (noClash hs p.nm r) → (∀ H', Fr k.ul H H' → BkAt H' k (ps ++ ⟨p.nm, p.fr, p.bu ++ [r]⟩ :: qs) hs → Q .none H') → IC_busy H Q ([.ref k.b, .str p.nm, rv r])
noncomputable def C_busy : Ctr := fun vs H Q _ => IC_busy H Q vs
noncomputable abbrev b2B : List IS := [(.ite (.call (.fn "covers") [(.loc 2), (.bin .Add (.sub (.loc 3) (.lit (.int 1))) (.loc 4))]) [(.raise "Clash" ["Clash", "HourError", "ValueError"])] [])]
noncomputable abbrev b1B : List IS := [(.ite (.cmp (.loc 1) .In (.sub (.loc 3) (.lit (.int 3)))) [(.for 4 .range (.sub (.loc 3) (.lit (.int 2))) b2B)] [])]
theorem b2_loop {XF : XS} {v0 v1 : V} {r : Rl} {m : Mtg} {t5 t6 t7 : Option V} {H : Hp} {Q : QS} (hf : r.ok) (h0 : 0 ≤ m.hr) : ∀ (ks : List Int) (t4 : Option V), (∀ j ∈ ks, 0 ≤ j ∧ cov r (m.hr + j) = false) → (∀ t4', Q .next [some v0, some v1, some (rv r), some (mtv m), t4', t5, t6, t7] H) →
  forGo (whBX Ψa b2B XF) (fun _ => True) 4 (ks.map V.int) [some v0, some v1, some (rv r), some (mtv m), t4, t5, t6, t7] H Q := by
 intro ks
 induction ks with
 | nil => intro t4 _ q; exact q _
 | cons j ks ih =>
  intro t4 hk q
  obtain ⟨j0, hj⟩ := hk j List.mem_cons_self
  rw [List.map_cons, foX_cons]
  rw [show mtv m = V.tup [.int m.no, .int m.hr, .int m.sz, .tup (m.who.map V.str)] from rfl]
  simp_arith only [↓Pa_co]
  refine ⟨r, m.hr + j, rfl, hf, by lia, ?_⟩
  rw [hj]
  simp_arith only [X_lit]
  exact ih _ (fun j h => hk j (List.mem_cons_of_mem _ h)) q
theorem b1_loop {XF : XS} {v0 : V} {nm : Str} {r : Rl} {t5 t6 t7 : Option V} {H : Hp} {Q : QS} {st : Hp → Prop} (hst : st H) : ∀ (hs : List Mtg) (t3 t4 : Option V), noClash hs nm r → (∀ t3' t4', Q .next [some v0, some (.str nm), some (rv r), t3', t4', t5, t6, t7] H) →
  forGo (whBX Ψa b1B XF) st 3 (hs.map mtv) [some v0, some (.str nm), some (rv r), t3, t4, t5, t6, t7] H Q := by
 intro hs
 induction hs with
 | nil => intro t3 t4 _ q; exact q _ _
 | cons m hs ih =>
  intro t3 t4 hc q
  have hm := hc m List.mem_cons_self
  have nx : ∀ t4', st H ∧ forGo (whBX Ψa b1B XF) st 3 (hs.map mtv) [some v0, some (.str nm), some (rv r), some (mtv m), t4', t5, t6, t7] H Q := fun t4' => ⟨hst, ih _ _ (fun m h => hc m (List.mem_cons_of_mem _ h)) q⟩
  rw [List.map_cons, foX_cons]
  refine zs_cons ?_
  rw [show mtv m = V.tup [.int m.no, .int m.hr, .int m.sz, .tup (m.who.map V.str)] from rfl] at nx ⊢
  simp_arith only [mem_strs]
  refine iX_b (fun hw => ?_) (fun _ => nx _)
  refine e0_4 (hm hw) fun hf h0 h1 h2 => ?_
  refine ⟨by lia, ?_⟩
  rw [rangeL_J]
  exact b2_loop (m := m) hf h0 _ _ (fun j hj => ⟨(mem_rangeJ.mp hj).1, h2 j (mem_rangeJ.mp hj).1 (mem_rangeJ.mp hj).2⟩) fun t4' => nx _
theorem w_busy : ∀ vs H Q X, C_busy vs H Q X → wpFn Ψa f_B_busy vs H Q X := by
 rintro vs H Q X ⟨k, ps, qs, p, hs, r, B, hf, hdp, hz, hc, q⟩
 refine fn_of rfl ?_
 have N := bkNe B.nd
 obtain ⟨js, i, ks, e, r1, h1, h2, r2⟩ := B.ru.mid
 obtain ⟨js', i', ks', e', r1', h1', h2', r2'⟩ := B.rf.mid
 change wpSs Ψa f_B_busy.body [some (.ref k.b), some (.str p.nm), some (rv r), none, none, none, none, none] _ _ _
 refine zs_cons ?_
 generalize hK : sqX Ψa (_ :: _) = K
 simp_arith only [B.ns, ↓Pa_ns]
 refine ⟨k, ps ++ p :: qs, hs, p.nm, B, by rw [List.map_append]; exact List.mem_append_right _ (.head _), ?_⟩
 subst hK
 refine zs_cons ?_
 generalize hK : sqX Ψa (_ :: _) = K
 simp_arith only [↓Pa_ir]
 refine ⟨r, rfl, hf, hdp, ?_⟩
 simp_arith only [B.ns, B.fB, B.de, h1, h2, List.length_map]
 refine ⟨fun h => absurd h (by lia), fun _ => ?_⟩
 subst hK
 refine zs_cons ?_
 generalize hK : sqX Ψa (_ :: _) = K
 simp_arith only [B.ns, B.fH, B.lh]
 subst hK
 refine b1_loop B.lh hs _ _ hc fun t3' t4' => ?_
 simp_arith only [B.ns, B.fB, B.de, h1, h2]
 refine ⟨⟨_, h2⟩, by rw [List.length_map]; lia, ?_⟩
 have f : Fr [i] H (H.set i (.list (p.bu.map rv ++ [rv r]))) := Fr.set
 have l3 : listAt (H.set i (.list (p.bu.map rv ++ [rv r]))) i = some (p.bu.map rv ++ [rv r]) := listAt_set h2
 generalize H.set i (.list (p.bu.map rv ++ [rv r])) = H1 at *
 have hu : i ∈ k.ul := by rw [e]; exact List.mem_append_right _ (.head _)
 obtain ⟨nb, nj, nn, nh, nd', ne⟩ := N.ls i (List.mem_append_right _ hu)
 have nl := N.ll
 refine e0_3 (List.nodup_append.mp nl) fun _ nu ndis => ?_
 rw [e] at nu
 refine e0_3 (List.nodup_append.mp nu) fun _ nu2 nlast => ?_
 have nu3 := (List.nodup_cons.mp nu2).1
 have hfr : ∀ j ∈ k.fl, j ∉ [i] := fun j hj => nin1 (ndis j hj i hu)
 refine q H1 (f.mono fun j hj => .inl (by rw [List.mem_singleton.mp hj]; exact hu)) ⟨B.nd, f.ns (nin1 (Ne.symm nb)) (nin1 (Ne.symm nj)) B.ns, B.fN, B.fH, B.fF, B.fB, B.fG, ?_, f.list (nin1 (Ne.symm nh)) B.lh, f.dict (nin1 (Ne.symm nd')) B.dd, f.dict (nin1 (Ne.symm ne)) B.de, ?_, ?_, B.g0, B.no, B.nu, B.z, ?_, ?_⟩
 ·rw [f.list (nin1 (Ne.symm nn)) B.ln, List.map_append, List.map_append]; rfl
 ·rw [e'] at hfr ⊢
  exact RlAt.join (qs := ⟨p.nm, p.fr, p.bu ++ [r]⟩ :: qs) ⟨i', ks', rfl, h1', f.list (hfr i' (List.mem_append_right _ (.head _))) h2', r2'.fr f fun j hj => hfr j (List.mem_append_right _ (.tail _ hj))⟩ (r1'.fr f fun j hj => hfr j (List.mem_append_left _ hj))
 ·rw [e]
  exact RlAt.join (qs := ⟨p.nm, p.fr, p.bu ++ [r]⟩ :: qs) ⟨i, ks, rfl, h1, by rw [l3, List.map_append]; rfl, r2.fr f fun j hj => nin1 fun q => nu3 (q ▸ hj)⟩ (r1.fr f fun j hj => nin1 (nlast j hj i (.head _)))
 ·rw [B.ze, List.length_append, List.length_append]; rfl
 ·rw [B.zu, List.length_append, List.length_append]; rfl
noncomputable def Ψb : Orc := ext (Str.ofString "Book." ++ Str.ofString "busy") C_busy Ψa
end Mine
namespace Mine
open PySem
theorem Pb_iw : Ψb "is_whole" = C_is_whole := rfl
theorem rangeJ_cons {a b : Int} (h : a < b) : rangeJ a b = a :: rangeJ (a + 1) b := by
 unfold rangeJ
 obtain ⟨n, hn⟩ : ∃ n : Nat, (b - a).toNat = n + 1 := ⟨(b - a).toNat - 1, by lia⟩
 rw [hn, show (b - (a + 1)).toNat = n by lia, List.range_succ_eq_map, List.map_cons, List.map_map]
 refine congr (congrArg _ (by lia)) (List.map_congr_left fun k _ => ?_)
 show a + ((k + 1 : Nat) : Int) = a + 1 + (k : Int); lia
theorem idx_mid {l r : List V} {x : V} : idx (l ++ x :: r) (l.length : Int) = some x := by
 unfold idx
 rw [if_pos (Int.natCast_nonneg _), Int.toNat_natCast, List.getElem?_append_right (Nat.le_refl _), Nat.sub_self]; rfl
inductive IC_place_of (H : Hp) (Q : V → Hp → Prop) : List V → Prop where
 | mk (k : Bk) (ps : List Prs) (hs : List Mtg) (m : Mtg) : (BkAt H k ps (hs ++ [m])) → (hs.length ≤ 1000) → (Q (.int (hs.length : Int)) H) → IC_place_of H Q ([.ref k.b, .int m.no])
noncomputable def C_place_of : Ctr := fun vs H Q _ => IC_place_of H Q vs
noncomputable abbrev poB : List IS := [(.ite (.cmp (.sub (.sub (.attr (.loc 0) "held") (.loc 2)) (.lit (.int 0))) .Eq (.loc 1)) [(.ret (.loc 2))] [])]
theorem po_loop {XF : XS} {k : Bk} {ps : List Prs} {hs : List Mtg} {m : Mtg} {t3 t4 t5 : Option V} {H : Hp} {Q : QS} (B : BkAt H k ps (hs ++ [m])) (q : ∀ L', Q (.ret (.int (hs.length : Int))) L' H) : ∀ (h2 h1 : List Mtg) (t2 : Option V), h1 ++ h2 = hs →
  forGo (whBX Ψb poB XF) (fun _ => True) 2 ((rangeJ (h1.length : Int) ((hs.length : Int) + 1)).map V.int) [some (.ref k.b), some (.int m.no), t2, t3, t4, t5] H Q := by
 intro h2
 have nu := B.nu
 rw [List.map_append] at nu
 have nd := (List.nodup_append.mp nu).2.2
 have hl := B.lh
 induction h2 with
 | nil =>
  intro h1 t2 e
  rw [List.append_nil] at e
  subst e
  rw [rangeJ_cons (by lia), List.map_cons, foX_cons]
  have hi : idx ((h1 ++ [m]).map mtv) (h1.length : Int) = some (.tup [.int m.no, .int m.hr, .int m.sz, .tup (m.who.map V.str)]) := by
   have := idx_mid (l := h1.map mtv) (x := mtv m) (r := [])
   rw [List.length_map] at this
   rw [List.map_append]; exact this
  simp_arith only [B.ns, B.fH, hl, hi]
  exact q _
 | cons x h2 ih =>
  intro h1 t2 e
  have hlen := congrArg List.length e
  rw [List.length_append, List.length_cons] at hlen
  rw [rangeJ_cons (by lia), List.map_cons, foX_cons]
  have hi : idx ((hs ++ [m]).map mtv) (h1.length : Int) = some (.tup [.int x.no, .int x.hr, .int x.sz, .tup (x.who.map V.str)]) := by
   have := idx_mid (l := h1.map mtv) (x := mtv x) (r := (h2 ++ [m]).map mtv)
   rw [List.length_map] at this
   rw [← e, List.append_assoc, List.map_append]; exact this
  have hne : x.no ≠ m.no := nd x.no (List.mem_map_of_mem (by rw [← e]; exact List.mem_append_right _ (.head _))) m.no (.head _)
  simp_arith only [B.ns, B.fH, hl, hi]
  refine ⟨fun h => absurd h hne, fun _ => ?_⟩
  have := ih (h1 ++ [x]) (some (.int (h1.length : Int))) (by rw [List.append_assoc]; exact e)
  rw [List.length_append] at this
  exact this
theorem w_place_of : ∀ vs H Q X, C_place_of vs H Q X → wpFn Ψb f_B_place_of vs H Q X := by
 rintro vs H Q X ⟨k, ps, hs, m, B, hz, q⟩
 refine fn_of rfl ?_
 change wpSs Ψb f_B_place_of.body [some (.ref k.b), some (.int m.no), none, none, none, none] H _ _
 refine zs_cons ?_
 generalize hK : sqX Ψb (_ :: _) = K
 simp_arith only [↓Pb_iw]
 refine ⟨m.no, rfl, ?_⟩
 have hl := B.lh
 simp_arith only [B.ns, B.fH, hl, List.length_map, List.length_append, List.length_cons, List.length_nil]
 refine ⟨by lia, ?_⟩
 subst hK
 rw [rangeL_J]
 exact po_loop B (fun L' => q) hs [] _ rfl
noncomputable def Ψc : Orc := ext (Str.ofString "Book." ++ Str.ofString "place_of") C_place_of Ψb
theorem Pc_po : Ψc (Str.ofString "Book." ++ Str.ofString "place_of") = C_place_of := rfl
theorem cut_upto {l r : List V} : cutL .none (.int (l.length : Int)) (l ++ r) = some l := by
 show some (((l ++ r).drop 0).take ((if (l.length : Int) < 0 then (l ++ r).length - (-(l.length : Int)).toNat else min (l.length : Int).toNat (l ++ r).length) - 0)) = _
 rw [if_neg (by lia), Int.toNat_natCast, List.drop_zero, Nat.sub_zero, Nat.min_eq_left (by rw [List.length_append]; exact Nat.le_add_right _ _), List.take_left' rfl]
theorem cut_end {l : List V} {k : Int} (h : k = (l.length : Int)) : cutL (.int k) .none l = some [] := by
 subst h
 show some ((l.drop (if (l.length : Int) < 0 then l.length - (-(l.length : Int)).toNat else min (l.length : Int).toNat l.length)).take _) = _
 rw [if_neg (by lia), Int.toNat_natCast, Nat.min_self, List.drop_length, List.take_nil]
theorem hk_n {x : Str} {v : V} {fs : List (Str × V)} (h : (x == Str.ofString "held") = false) : List.lookup x ((Str.ofString "held", v) :: fs) = fs.lookup x := by rw [List.lookup_cons, h]
theorem h_n : (Str.ofString "names" == Str.ofString "held") = false := by decide
theorem h_g : (Str.ofString "given" == Str.ofString "held") = false := by decide
theorem h_f : (Str.ofString "free_rules" == Str.ofString "held") = false := by decide
theorem h_b : (Str.ofString "busy_rules" == Str.ofString "held") = false := by decide
inductive IC_drop (H : Hp) (Q : V → Hp → Prop) : List V → Prop where
 | mk (k : Bk) (ps : List Prs) (hs : List Mtg) (m : Mtg) : (BkAt H k ps (hs ++ [m])) → (hs.length ≤ 1000) → (k.c ≤ 1000) → (∀ (H' : Hp) (k' : Bk), Fr k.foot H H' → k'.b = k.b → k'.g = k.g → k'.c = k.c + 1 → (∀ i ∈ k'.foot, i ∈ k.foot ∨ H.length ≤ i) → BkAt H' k' ps hs → Q .none H') → IC_drop H Q ([.ref k.b, .int m.no])
noncomputable def C_drop : Ctr := fun vs H Q _ => IC_drop H Q vs
theorem w_drop : ∀ vs H Q X, C_drop vs H Q X → wpFn Ψc f_B_drop vs H Q X := by
 rintro vs H Q X ⟨k, ps, hs, m, B, hz, hc, q⟩
 refine fn_of rfl ?_
 change wpSs Ψc f_B_drop.body [some (.ref k.b), some (.int m.no), none, none, none, none] H _ _
 refine zs_cons ?_
 generalize hK : sqX Ψc (_ :: _) = K
 simp_arith only [B.ns, ↓Pc_po]
 refine ⟨k, ps, hs, m, B, hz, ?_⟩
 subst hK
 refine zs_cons ?_
 generalize hK : sqX Ψc [] = K
 have c1 : cutL .none (.int (hs.length : Int)) ((hs ++ [m]).map mtv) = some (hs.map mtv) := by
  have := cut_upto (l := hs.map mtv) (r := [mtv m])
  rw [List.length_map] at this
  rw [List.map_append]; exact this
 have c2 : cutL (.int ((hs.length : Int) + 1)) .none ((hs ++ [m]).map mtv) = some [] := cut_end (by rw [List.length_map, List.length_append]; rfl)
 have p1 : H <+: H ++ [.list (hs.map mtv)] := pre_new
 have l1 := listAt_new (H := H) (l := hs.map mtv)
 have e1 : (H ++ [O.list (hs.map mtv)]).length = H.length + 1 := List.length_append
 simp_arith only [B.ns, B.fH, B.lh, c1]
 generalize H ++ [O.list (hs.map mtv)] = H1 at *
 have B1 := B.pre p1
 simp_arith only [B1.ns, B1.fH, B1.lh, c2]
 have p2 : H1 <+: H1 ++ [.list []] := pre_new
 have l2 := listAt_new (H := H1) (l := [])
 have l1' := listAt_pre p2 l1
 have e2 : (H1 ++ [O.list []]).length = H.length + 2 := by rw [List.length_append, e1]; rfl
 rw [e1] at l2 ⊢
 generalize H1 ++ [O.list []] = H2 at *
 simp_arith only [l1', l2, List.append_nil, List.length_map, List.length_nil]
 refine ⟨by lia, ?_⟩
 have p3 : H2 <+: H2 ++ [.list (hs.map mtv)] := pre_new
 have l3 := listAt_new (H := H2) (l := hs.map mtv)
 have e3 : (H2 ++ [O.list (hs.map mtv)]).length = H.length + 3 := by rw [List.length_append, e2]; rfl
 rw [e2] at l3 ⊢
 generalize H2 ++ [O.list (hs.map mtv)] = H3 at *
 have B3 := B.pre ((p1.trans p2).trans p3)
 have hb := B.z
 simp_arith only [B3.ns]
 refine ⟨by lia, ?_⟩
 subst hK
 have N := bkNe B.nd
 have lt := B.lt
 have f : Fr [k.j] H3 (H3.set k.j (.ns ((Str.ofString "held", .ref (H.length + 2)) :: k.fs))) := Fr.set
 have ns4 := nsAt_set (gs := (Str.ofString "held", .ref (H.length + 2)) :: k.fs) B3.ns N.bj
 generalize H3.set k.j (.ns ((Str.ofString "held", .ref (H.length + 2)) :: k.fs)) = H4 at *
 have lj := lt _ ft_j
 refine q H4 { k with fs := (Str.ofString "held", .ref (H.length + 2)) :: k.fs, h := H.length + 2, c := k.c + 1 } ((Fr.pre ((p1.trans p2).trans p3)).trans f fun i hi => .inl (by rw [List.mem_singleton.mp hi]; exact ft_j)) rfl rfl rfl (fun i hi => ?_) ?_
 ·have hi : i ∈ [k.b, k.j, k.n] ++ ((H.length + 2) :: ([k.d, k.e] ++ (k.fl ++ k.ul))) := hi
  rcases List.mem_append.mp hi with h | h
  ·exact .inl (show i ∈ [k.b, k.j, k.n] ++ (k.h :: ([k.d, k.e] ++ (k.fl ++ k.ul))) from List.mem_append_left _ h)
  rcases List.mem_cons.mp h with h | h
  ·rw [h]; exact .inr (Nat.le_add_right _ _)
  ·exact .inl (show i ∈ [k.b, k.j, k.n] ++ (k.h :: ([k.d, k.e] ++ (k.fl ++ k.ul))) from List.mem_append_right _ (List.mem_cons_of_mem _ h))
 ·refine ⟨?_, ns4, (hk_n h_n).trans B.fN, by rw [List.lookup_cons, beq_self_eq_true], (hk_n h_f).trans B.fF, (hk_n h_b).trans B.fB, (hk_n h_g).trans B.fG, f.list (nin1 (Ne.symm N.jn)) B3.ln, f.list (nin1 (show H.length + 2 ≠ k.j by lia)) l3, f.dict (nin1 (Ne.symm N.jd)) B3.dd, f.dict (nin1 (Ne.symm N.je)) B3.de, B3.rf.fr f fun i hi => nin1 (N.ls i (List.mem_append_left _ hi)).2.1, B3.ru.fr f fun i hi => nin1 (N.ls i (List.mem_append_right _ hi)).2.1, B.g0, fun x hx => B.no x (List.mem_append_left _ hx), ?_, Nat.succ_le_succ hb, B.ze, B.zu⟩
  ·have p : (k.h :: (k.b :: k.j :: k.n :: k.d :: k.e :: (k.fl ++ k.ul))).Perm k.foot := (List.perm_middle (a := k.h) (l₁ := [k.b, k.j, k.n]) (l₂ := k.d :: k.e :: (k.fl ++ k.ul))).symm
   have p' : ((H.length + 2) :: (k.b :: k.j :: k.n :: k.d :: k.e :: (k.fl ++ k.ul))).Perm (k.b :: k.j :: k.n :: (H.length + 2) :: k.d :: k.e :: (k.fl ++ k.ul)) := (List.perm_middle (a := H.length + 2) (l₁ := [k.b, k.j, k.n]) (l₂ := k.d :: k.e :: (k.fl ++ k.ul))).symm
   refine p'.nodup (List.nodup_cons.mpr ⟨fun h => ?_, (List.nodup_cons.mp (p.symm.nodup B.nd)).2⟩)
   have := lt _ (p.subset (List.mem_cons_of_mem _ h)); lia
  ·have nu := B.nu
   rw [List.map_append] at nu
   exact (List.nodup_append.mp nu).1
noncomputable def Ψd : Orc := ext (Str.ofString "Book." ++ Str.ofString "drop") C_drop Ψc
theorem Pd_po : Ψd (Str.ofString "Book." ++ Str.ofString "place_of") = C_place_of := rfl
theorem Pd_ns : Ψd "need_stretch" = C_need_stretch := rfl
theorem Pd_lo' : Ψd (Str.ofString "Book." ++ Str.ofString "look") = C_look := rfl
structure Mv (H : Hp) (k : Bk) (ps : List Prs) (hs : List Mtg) (m : Mtg) (qs : List Prs) (lo hi : Int) : Prop where
 book : BkAt H k ps (hs ++ [m])
 who : m.who = qs.map Prs.nm
 sub : ∀ q ∈ qs, q ∈ ps ∧ q.fine
 can : Can m.sz lo hi
 z : hs.length ≤ 1000
inductive IC_move (H : Hp) (Q : V → Hp → Prop) : List V → Prop where
 | mk (k : Bk) (ps : List Prs) (hs : List Mtg) (m : Mtg) (qs : List Prs) (lo : Int) (hi : Int) : (Mv H k ps hs m qs lo hi) → (∀ H', H <+: H' → IsFirst (gd m.no (hs ++ [m]) qs) m.sz lo (hi - m.sz) .none → Q .none H') → (∀ (a : Int) (H' : Hp), IsFirst (gd m.no (hs ++ [m]) qs) m.sz lo (hi - m.sz) (.int a) → Fr k.foot H H' → BkAt H' k ps (hs ++ [⟨m.no, a, m.sz, m.who⟩]) → Q (.int a) H') → IC_move H Q ([.ref k.b, .int m.no, .int lo, .int hi])
noncomputable def C_move : Ctr := fun vs H Q _ => IC_move H Q vs
theorem w_move : ∀ vs H Q X, C_move vs H Q X → wpFn Ψd f_B_move vs H Q X := by
 rintro vs H Q X ⟨k, ps, hs, m, qs, lo, hi, M, q1, q2⟩
 refine fn_of rfl ?_
 have B := M.book
 change wpSs Ψd f_B_move.body [some (.ref k.b), some (.int m.no), some (.int lo), some (.int hi), none, none, none, none, none, none] H _ _
 refine zs_cons ?_
 generalize hK : sqX Ψd (_ :: _) = K
 simp_arith only [B.ns, ↓Pd_po]
 refine ⟨k, ps, hs, m, B, M.z, ?_⟩
 subst hK
 have ix : idx ((hs ++ [m]).map mtv) (hs.length : Int) = some (.tup [.int m.no, .int m.hr, .int m.sz, .tup (nmL qs)]) := by
  have := idx_mid (l := hs.map mtv) (x := mtv m) (r := [])
  rw [List.length_map] at this
  rw [List.map_append, nmL, nm_map, ← M.who]; exact this
 refine zs_cons ?_
 generalize hK : sqX Ψd (_ :: _) = K
 simp_arith only [B.ns, B.fH, B.lh, ix]
 subst hK
 refine zs_cons ?_
 generalize hK : sqX Ψd (_ :: _) = K
 simp_arith only [↓Pd_ns]
 refine ⟨m.sz, lo, hi, M.can.hh, M.can.hl, M.can.hu, M.can.le, M.can.ge, ?_⟩
 subst hK
 have hh1 := M.can.hh.1
 have h4 := M.can.ge
 have h5 := M.can.hl.1
 have h6 := M.can.hl.2
 refine zs_cons ?_
 generalize hK : sqX Ψd (_ :: _) = K
 simp_arith only [B.ns, ↓Pd_lo']
 refine ⟨k, .tup (nmL qs), ps, hs ++ [m], qs, m.sz, lo, hi - m.sz, m.no, ⟨B, .inr rfl, M.sub⟩, M.can.hh, h5, by lia, by lia, fun v rows F => ?_⟩
 have p1 : H <+: H ++ [.list rows] := pre_new
 have B1 := B.pre p1
 simp_arith only [X_lit]
 generalize H ++ [O.list rows] = H1 at *
 subst hK
 refine zs_cons ?_
 generalize hK : sqX Ψd (_ :: _) = K
 rcases F.kind with rfl | ⟨a, rfl⟩
 ·simp_arith only [isNoneV]
  subst hK
  simp_arith only [X_lit]
  exact q1 _ p1 F
 ·simp_arith only [isNoneV, B1.ns, B1.fH, B1.lh]
  refine ⟨⟨by lia, by rw [List.length_map, List.length_append, List.length_singleton]; lia⟩, ?_⟩
  subst hK
  have N := bkNe B.nd
  have es : ((hs ++ [m]).map mtv).set (hs.length : Int).toNat (.tup [.int m.no, .int a, .int m.sz, .tup (nmL qs)]) = (hs ++ [Mtg.mk m.no a m.sz m.who]).map mtv := by
   rw [Int.toNat_natCast, List.map_append, List.map_append, List.set_append_right _ _ (by rw [List.length_map]; exact Nat.le_refl _), List.length_map, Nat.sub_self, nmL, nm_map, ← M.who]; rfl
  rw [es]
  have f : Fr [k.h] H1 (H1.set k.h (.list ((hs ++ [Mtg.mk m.no a m.sz m.who]).map mtv))) := Fr.set
  have l2 : listAt (H1.set k.h (.list ((hs ++ [Mtg.mk m.no a m.sz m.who]).map mtv))) k.h = some _ := listAt_set B1.lh
  generalize H1.set k.h (.list ((hs ++ [Mtg.mk m.no a m.sz m.who]).map mtv)) = H2 at *
  simp_arith only [X_lit]
  refine q2 a H2 F ((Fr.pre p1).trans f fun i hi => .inl (by rw [List.mem_singleton.mp hi]; exact ft_h)) ⟨B.nd, f.ns (nin1 N.bh) (nin1 N.jh) B1.ns, B.fN, B.fH, B.fF, B.fB, B.fG, f.list (nin1 N.nh) B1.ln, l2, f.dict (nin1 (Ne.symm N.hd)) B1.dd, f.dict (nin1 (Ne.symm N.he)) B1.de, B1.rf.fr f fun i hi => nin1 (N.ls i (List.mem_append_left _ hi)).2.2.2.1, B1.ru.fr f fun i hi => nin1 (N.ls i (List.mem_append_right _ hi)).2.2.2.1, B.g0, fun x hx => ?_, ?_, B.z, B.ze, B.zu⟩
  ·rcases List.mem_append.mp hx with h | h
   ·exact B.no x (List.mem_append_left _ h)
   ·rw [List.mem_singleton.mp h]; exact B.no m (List.mem_append_right _ (.head _))
  ·have nu := B.nu
   rw [List.map_append] at nu ⊢
   exact nu
noncomputable def Ψe : Orc := ext (Str.ofString "Book." ++ Str.ofString "move") C_move Ψd
end Mine
namespace Mine
open PySem
noncomputable def Pl.rn : Pl → Nat
 | .once _ _ => 1
 | .every _ _ p => p.toNat
 | .week _ _ _ => 168
 | .month _ _ _ => 35064
noncomputable def Rl.rn (r : Rl) : Nat := r.inner.rn
theorem Pl.fine.rn {p : Pl} (h : p.fine) : 1 ≤ p.rn ∧ p.rn ≤ 1000000 := by
 cases p with
 | every h s p =>
  have h1 := h.2.2.1
  have h2 := h.2.2.2
  show 1 ≤ p.toNat ∧ p.toNat ≤ 1000000
  lia
 | once h s => exact ⟨by show 1 ≤ 1; decide, by show 1 ≤ _; decide⟩
 | week ds t s => exact ⟨by show 1 ≤ 168; decide, by show 168 ≤ _; decide⟩
 | month d t s => exact ⟨by show 1 ≤ 35064; decide, by show 35064 ≤ _; decide⟩
theorem Pe_im : Ψe "innermost" = C_innermost := rfl
noncomputable def C_round_of : Ctr := fun vs H Q _ => ∃ r : Rl, vs = [rv r] ∧ r.fine ∧ Q (.int (r.rn : Int)) H
section
variable {Φ : Orc} {u w : Str} {rest : List V} {v0 : Option V} {Lr : Lc} {H : Hp} {a : List IS} {QF : QS} {XF : XS}
theorem i1_ne (he : (u == w) = false) (h : QF .next (v0 :: some (.tup (.str u :: rest)) :: Lr) H) : wpS Φ (.ite (.cmp (.sub (.loc 1) (.lit (.int 0))) .Eq (.lit (.str w))) a []) (v0 :: some (.tup (.str u :: rest)) :: Lr) H QF XF := by
 show ifP (u == w) _ _
 rw [he]; exact h
theorem i1_eq (he : (u == w) = true) (h : wpSs Φ a (v0 :: some (.tup (.str u :: rest)) :: Lr) H QF XF) : wpS Φ (.ite (.cmp (.sub (.loc 1) (.lit (.int 0))) .Eq (.lit (.str w))) a []) (v0 :: some (.tup (.str u :: rest)) :: Lr) H QF XF := by
 show ifP (u == w) _ _
 rw [he]; exact h
end
theorem w_round_of : ∀ vs H Q X, C_round_of vs H Q X → wpFn Ψe f_round_of vs H Q X := by
 rintro vs H Q X ⟨r, rfl, hf, q⟩
 refine fn_of rfl ?_
 change wpSs Ψe f_round_of.body [some (rv r), none, none, none, none] H _ _
 refine zs_cons ?_
 generalize hK : sqX Ψe (_ :: _) = K
 simp_arith only [↓Pe_im]
 refine ⟨r, rfl, ?_⟩
 have hf := hf.inner
 unfold Rl.rn at q
 subst hK
 show wpSs Ψe (f_round_of.body.drop 1) [some (rv r), some (pv r.inner), none, none, none] H _ _
 revert q hf
 cases r.inner with
 | once h s => intro q hf; exact zs_cons (i1_eq sw_once_once q)
 | every h s p =>
  intro q hf
  have h1 := hf.2.2.1
  rw [show ((Pl.every h s p).rn : Int) = p by show ((p.toNat : Nat) : Int) = p; lia] at q
  exact zs_cons (i1_ne sw_every_once (zs_cons (i1_eq sw_every_every q)))
 | week ds t s => intro q hf; exact zs_cons (i1_ne sw_week_once (zs_cons (i1_ne sw_week_every (zs_cons (i1_eq sw_week_week q)))))
 | month d t s => intro q hf; exact zs_cons (i1_ne sw_month_once (zs_cons (i1_ne sw_month_every (zs_cons (i1_ne sw_month_week q)))))
noncomputable def Ω1 : Orc := ext "round_of" C_round_of Ψe
noncomputable def lastI (ds : List Int) : Int := ds.getLastD 0
theorem idx_last {ds : List Int} (h : 1 ≤ ds.length) : idx (ds.map V.int) (-1) = some (.int (lastI ds)) := by
 unfold idx
 rw [if_neg (by decide), List.length_map, if_pos (by lia), show (-1 + (ds.length : Int)).toNat = ds.length - 1 by lia, List.getElem?_map, ← List.getLast?_eq_getElem?]
 unfold lastI
 rw [List.getLastD_eq_getLast?]
 cases e : ds.getLast? with
 | none => rw [List.getLast?_eq_none_iff] at e; rw [e] at h; exact absurd h (by decide)
 | some x => rfl
noncomputable def Pl.stl : Pl → Int
 | .once s _ => s + 1
 | .every s _ _ => s
 | .week _ _ _ => 0
 | .month _ _ _ => 0
noncomputable def Hd.stl : Hd → Int
 | .frm h => h
 | .til h => h
 | .als h => h + 1
 | .but ds => 24 * (lastI ds + 1)
noncomputable def stA : Rl → Int → Int
 | .pl p, x => max x p.stl
 | .hd k r, x => stA r (max x k.stl)
noncomputable def Rl.stl (r : Rl) : Int := stA r 0
noncomputable def C_settled_plain : Ctr := fun vs H Q _ => ∃ p : Pl, vs = [pv p] ∧ Q (.int p.stl) H
theorem w_settled_plain : ∀ vs H Q X, C_settled_plain vs H Q X → wpFn Ω1 f_settled_plain vs H Q X := by
 rintro vs H Q X ⟨p, rfl, q⟩
 refine fn_of rfl ?_
 change wpSs Ω1 f_settled_plain.body [some (pv p), none, none, none] H _ _
 cases p with
 | once h s => exact zs_cons (iw_eq sw_once_once q)
 | every h s p => exact zs_cons (iw_ne sw_every_once (zs_cons (iw_eq sw_every_every q)))
 | week ds t s => exact zs_cons (iw_ne sw_week_once (zs_cons (iw_ne sw_week_every q)))
 | month d t s => exact zs_cons (iw_ne sw_month_once (zs_cons (iw_ne sw_month_every q)))
noncomputable def Ω2 : Orc := ext "settled_plain" C_settled_plain Ω1
theorem O2_sp : Ω2 "settled_plain" = C_settled_plain := rfl
noncomputable def C_settled : Ctr := fun vs H Q _ => ∃ r : Rl, vs = [rv r] ∧ r.fine ∧ Q (.int r.stl) H
noncomputable abbrev seB : List IS := bdy (f_settled.body.getD 1 .fail)
section
variable {Φ : Orc} {u w : Str} {rest : List V} {Lr : Lc} {H : Hp} {a b : List IS} {QF : QS} {XF : XS}
theorem ix_ne (he : (u == w) = false) (h : wpSs Φ b (some (.tup (.str u :: rest)) :: Lr) H QF XF) : wpS Φ (.ite (.cmp (.sub (.loc 0) (.lit (.int 0))) .Eq (.lit (.str w))) a b) (some (.tup (.str u :: rest)) :: Lr) H QF XF := by
 show ifP (u == w) _ _
 rw [he]; exact h
theorem ix_eq (he : (u == w) = true) (h : wpSs Φ a (some (.tup (.str u :: rest)) :: Lr) H QF XF) : wpS Φ (.ite (.cmp (.sub (.loc 0) (.lit (.int 0))) .Eq (.lit (.str w))) a b) (some (.tup (.str u :: rest)) :: Lr) H QF XF := by
 show ifP (u == w) _ _
 rw [he]; exact h
end
theorem se_go {t2 t3 t4 : Option V} {H : Hp} {Q : V → Hp → Prop} {X : XL} : ∀ (r : Rl) (x : Int), r.fine → Q (.int (stA r x)) H →
  whileGo (whTX Ω2 inT noX) (whBX Ω2 seB noXS) (r.deep + 1) [some (rv r), some (.int x), t2, t3, t4] H (sqX Ω2 [.ret (.call (.bi .max) [(.loc 1), (.call (.fn "settled_plain") [(.loc 0)])])] (fun fl _ H1 => Q (retV fl) H1) fun x _ H1 => X x H1) := by
 intro r
 induction r with
 | pl p =>
  intro x hf q
  rw [whX_s]
  refine t_inP ?_
  simp_arith only [↓O2_sp]
  exact ⟨p, rfl, q⟩
 | hd k r ih =>
  intro x hf q
  have ih := ih (max x k.stl) hf.2 q
  have hd : (.hd k r : Rl).deep + 1 = (r.deep + 1) + 1 := rfl
  rw [hd, whX_s]
  refine t_in (mo_hd k) ?_
  cases k with
  | frm h => exact zs_cons (ix_ne sw_from_also (zs_cons (ix_ne sw_from_but ih)))
  | til h => exact zs_cons (ix_ne sw_until_also (zs_cons (ix_ne sw_until_but ih)))
  | als h => exact zs_cons (ix_eq sw_also_also ih)
  | but ds =>
   refine zs_cons (ix_ne sw_but_also (zs_cons (ix_eq sw_but_but ?_)))
   generalize hK : sqX Ω2 (_ :: _) = K
   have e := idx_last hf.1.1
   simp_arith only [Hd.v, intsV, e]
   subst hK
   exact ih
theorem w_settled : ∀ vs H Q X, C_settled vs H Q X → wpFn Ω2 f_settled vs H Q X := by
 rintro vs H Q X ⟨r, rfl, hf, q⟩
 refine fn_of rfl ?_
 change wpSs Ω2 f_settled.body [some (rv r), none, none, none, none] H _ _
 refine zs_cons ?_
 generalize hK : sqX Ω2 (_ :: _) = K
 simp_arith only [X_lit]
 subst hK
 refine zs_cons ?_
 rw [Z_while]
 exact ⟨_, se_go r 0 hf q⟩
noncomputable def Ω3 : Orc := ext "settled" C_settled Ω2
noncomputable def C_greatest_common : Ctr := fun vs H Q _ => ∃ a b : Nat, vs = [.int (a : Int), .int (b : Int)] ∧ b ≤ 1000000 ∧ Q (.int (Nat.gcd a b : Int)) H
noncomputable abbrev gcB : List IS := bdy (f_greatest_common.body.getD 0 .fail)
theorem gc_go {t3 t4 t5 : Option V} {H : Hp} {Q : V → Hp → Prop} {X : XL} : ∀ (n b a : Nat) (t2 : Option V), b < n → b ≤ 1000000 → Q (.int (Nat.gcd a b : Int)) H →
  whileGo (whTX Ω3 (.cmp (.loc 1) .Gt (.lit (.int 0))) noX) (whBX Ω3 gcB noXS) n [some (.int (a : Int)), some (.int (b : Int)), t2, t3, t4, t5] H (sqX Ω3 [.ret (.loc 0)] (fun fl _ H1 => Q (retV fl) H1) fun x _ H1 => X x H1) := by
 intro n
 induction n with
 | zero => intro b a t2 h; exact absurd h (Nat.not_lt_zero _)
 | succ n ih =>
  intro b a t2 h hb q
  rw [whX_s]
  show ifP (decide ((0 : Int) < (b : Int))) _ _
  refine iX_p (fun h0 => ?_) (fun h0 => ?_)
  ·have h0 : 0 < b := by lia
   refine zs_cons ?_
   generalize hK : sqX Ω3 (_ :: _) = K
   simp_arith only [X_lit]
   refine ⟨⟨by lia, by lia⟩, ?_⟩
   subst hK
   have hm := Nat.mod_lt a h0
   have := ih (a % b) b (some (.int ((a : Int) % (b : Int)))) (by lia) (by lia) (by rw [Nat.gcd_comm b, ← Nat.gcd_rec, Nat.gcd_comm b]; exact q)
   rw [Int.natCast_emod] at this
   exact this
  ·have h0 : b = 0 := by lia
   subst h0
   rw [Nat.gcd_zero_right] at q
   exact q
theorem w_greatest_common : ∀ vs H Q X, C_greatest_common vs H Q X → wpFn Ω3 f_greatest_common vs H Q X := by
 rintro vs H Q X ⟨a, b, rfl, hb, q⟩
 refine fn_of rfl ?_
 change wpSs Ω3 f_greatest_common.body [some (.int (a : Int)), some (.int (b : Int)), none, none, none, none] H _ _
 refine zs_cons ?_
 rw [Z_while]
 exact ⟨_, gc_go (b + 1) b a _ (Nat.lt_succ_self _) hb q⟩
noncomputable def Ω4 : Orc := ext "greatest_common" C_greatest_common Ω3
theorem O4_gc : Ω4 "greatest_common" = C_greatest_common := rfl
noncomputable def lcmL (ns : List Nat) (a : Nat) : Nat := ns.foldl Nat.lcm a
noncomputable def natV (n : Nat) : V := .int (n : Int)
inductive IC_least_common (H : Hp) (Q : V → Hp → Prop) : List V → Prop where
 | mk (i : Nat) (ns : List Nat) : listAt H i = some (ns.map natV) → (∀ n ∈ ns, 1 ≤ n ∧ n ≤ 1000000) → Q (.int (lcmL ns 1 : Int)) H → IC_least_common H Q [.ref i]
noncomputable def C_least_common : Ctr := fun vs H Q _ => IC_least_common H Q vs
theorem lcm_step {a n : Nat} : (a : Int) / (Nat.gcd a n : Int) * (n : Int) = (Nat.lcm a n : Int) := by
 rw [← Int.natCast_ediv, ← Int.natCast_mul]
 congr 1
 unfold Nat.lcm
 rw [Nat.mul_comm a n, Nat.mul_div_assoc _ (Nat.gcd_dvd_left a n), Nat.mul_comm]
theorem lc_loop {XF : XS} {v0 : V} {t3 t4 t5 : Option V} {H : Hp} {Q : QS} {st : Hp → Prop} (hst : st H) : ∀ (ns : List Nat) (a : Nat) (t2 : Option V), (∀ n ∈ ns, 1 ≤ n ∧ n ≤ 1000000) → (∀ t2', Q .next [some v0, some (.int (lcmL ns a : Int)), t2', t3, t4, t5] H) →
  forGo (whBX Ω4 [(.assign 1 (.bin .Mult (.bin .FloorDiv (.loc 1) (.call (.fn "greatest_common") [(.loc 1), (.loc 2)])) (.loc 2)))] XF) st 2 (ns.map natV) [some v0, some (.int (a : Int)), t2, t3, t4, t5] H Q := by
 intro ns
 induction ns with
 | nil => intro a t2 _ q; exact q _
 | cons n ns ih =>
  intro a t2 hn q
  obtain ⟨n1, n2⟩ := hn n List.mem_cons_self
  have hg : Nat.gcd a n ≤ n := Nat.gcd_le_right _ (by lia)
  have hg0 : 0 < Nat.gcd a n := Nat.gcd_pos_of_pos_right _ (by lia)
  rw [List.map_cons, foX_cons]
  simp_arith only [natV, ↓O4_gc]
  refine ⟨a, n, rfl, n2, ?_⟩
  simp_arith only [X_lit]
  refine ⟨⟨by lia, by lia⟩, .inr ⟨by lia, by lia⟩, hst, ?_⟩
  rw [lcm_step]
  exact ih _ _ (fun m hm => hn m (List.mem_cons_of_mem _ hm)) q
theorem w_least_common : ∀ vs H Q X, C_least_common vs H Q X → wpFn Ω4 f_least_common vs H Q X := by
 rintro vs H Q X ⟨i, ns, hl, hn, q⟩
 refine fn_of rfl ?_
 change wpSs Ω4 f_least_common.body [some (.ref i), none, none, none, none, none] H _ _
 refine zs_cons ?_
 generalize hK : sqX Ω4 (_ :: _) = K
 simp_arith only [X_lit]
 subst hK
 refine zs_cons ?_
 generalize hK : sqX Ω4 (_ :: _) = K
 simp_arith only [hl]
 subst hK
 exact lc_loop hl ns 1 _ hn fun t2' => q
noncomputable def Ω5 : Orc := ext "least_common" C_least_common Ω4
end Mine
namespace Mine
open PySem
noncomputable def rulesOf (qs : List Prs) : List Rl := qs.flatMap fun p => p.fr ++ p.bu
theorem rulesOf_cons {p : Prs} {qs : List Prs} : rulesOf (p :: qs) = (p.fr ++ p.bu) ++ rulesOf qs := List.flatMap_cons
theorem rulesOf_snoc {p : Prs} {qs : List Prs} : rulesOf (qs ++ [p]) = rulesOf qs ++ p.fr ++ p.bu := by
 unfold rulesOf
 rw [List.flatMap_append, List.flatMap_cons, List.flatMap_nil, List.append_nil, List.append_assoc]
theorem mem_rulesOf {qs : List Prs} {r : Rl} : r ∈ rulesOf qs ↔ ∃ p ∈ qs, r ∈ p.fr ++ p.bu := List.mem_flatMap
inductive IC_rules_of (H : Hp) (Q : V → Hp → Prop) : List V → Prop where
 | mk (k : Bk) (n : Nat) (ps : List Prs) (hs : List Mtg) (qs : List Prs) : Some' H k n ps hs qs → (rulesOf qs).length ≤ 1000 → (∀ (H' : Hp) (i : Nat), H <+: H' → listAt H' i = some ((rulesOf qs).map rv) → Q (.ref i) H') → IC_rules_of H Q [.ref k.b, .ref n]
noncomputable def C_rules_of : Ctr := fun vs H Q _ => IC_rules_of H Q vs
noncomputable abbrev roB : List IS := bdy (f_B_rules_of.body.getD 1 .fail)
theorem ro_go {XF : XS} {k : Bk} {n : Nat} {ps : List Prs} {hs : List Mtg} {H : Hp} {t4 t5 t6 : Option V} {Q : QS} {l : List V} (B : BkAt H k ps hs) (hl : listAt H n = some l) : ∀ (qs as : List Prs) (i : Nat) (H1 : Hp) (t3 : Option V), H <+: H1 → (∀ p ∈ qs, p ∈ ps) → (rulesOf (as ++ qs)).length ≤ 1000 → listAt H1 i = some ((rulesOf as).map rv) →
  (∀ H' i t3', H <+: H' → listAt H' i = some ((rulesOf (as ++ qs)).map rv) → Q .next [some (.ref k.b), some (.ref n), some (.ref i), t3', t4, t5, t6] H') →
  forGo (whBX Ω5 roB XF) (fun H' => listAt H' n = some l) 3 (nmL qs) [some (.ref k.b), some (.ref n), some (.ref i), t3, t4, t5, t6] H1 Q := by
 intro qs
 induction qs with
 | nil => intro as i H1 t3 p _ _ h q; rw [List.append_nil] at q; exact q H1 i _ p h
 | cons p qs ih =>
  intro as i H1 t3 p1 hp hz h q
  have B1 := B.pre p1
  refine e1_3 (B1.rf.get (hp p List.mem_cons_self)) fun x x1 x2 _ => ?_
  refine e1_3 (B1.ru.get (hp p List.mem_cons_self)) fun y y1 y2 _ => ?_
  rw [show as ++ p :: qs = (as ++ [p]) ++ qs by rw [List.append_assoc]; rfl] at hz q
  have hz2 := hz
  unfold rulesOf at hz2
  rw [List.flatMap_append, List.length_append] at hz2
  have hz3 : (rulesOf as ++ p.fr ++ p.bu).length ≤ 1000 := by rw [← rulesOf_snoc]; exact Nat.le_trans (Nat.le_add_right _ _) hz2
  rw [List.length_append, List.length_append] at hz3
  rw [show nmL (p :: qs) = .str p.nm :: nmL qs from rfl, foX_cons]
  refine zs_cons ?_
  simp_arith only [B1.ns, B1.fF, B1.dd, x1, h, x2, List.length_map]
  refine ⟨by lia, ?_⟩
  have p2 : H1 <+: H1 ++ [.list ((rulesOf as).map rv ++ p.fr.map rv)] := pre_new
  have l2 := listAt_new (H := H1) (l := (rulesOf as).map rv ++ p.fr.map rv)
  have B2 := B1.pre p2
  have y3 := listAt_pre p2 y2
  generalize H1 ++ [O.list ((rulesOf as).map rv ++ p.fr.map rv)] = H2 at *
  simp_arith only [B2.ns, B2.fB, B2.de, y1, l2, y3, List.length_append, List.length_map]
  refine ⟨by lia, listAt_pre ((p1.trans p2).trans pre_new) hl, ?_⟩
  refine ih (as ++ [p]) _ _ _ ((p1.trans p2).trans pre_new) (fun q hq => hp q (List.mem_cons_of_mem _ hq)) hz ?_ q
  rw [listAt_new, rulesOf_snoc, List.map_append, List.map_append]
theorem w_rules_of : ∀ vs H Q X, C_rules_of vs H Q X → wpFn Ω5 f_B_rules_of vs H Q X := by
 rintro vs H Q X ⟨k, n, ps, hs, qs, S, hz, q⟩
 refine fn_of rfl ?_
 change wpSs Ω5 f_B_rules_of.body [some (.ref k.b), some (.ref n), none, none, none, none, none] H _ _
 refine zs_cons ?_
 generalize hK : sqX Ω5 (_ :: _) = K
 simp_arith only [X_lit]
 subst hK
 have hl := listAt_pre (pre_new (o := .list [])) S.list
 refine zs_cons ?_
 generalize hK : sqX Ω5 (_ :: _) = K
 simp_arith only [hl]
 subst hK
 exact ro_go S.book S.list qs [] _ _ _ pre_new S.sub hz listAt_new fun H' i t3' p h => q H' i p h
noncomputable def Ω6 : Orc := ext (Str.ofString "Book." ++ Str.ofString "rules_of") C_rules_of Ω5
theorem O6_ro : Ω6 (Str.ofString "Book." ++ Str.ofString "rules_of") = C_rules_of := rfl
theorem O6_st : Ω6 "settled" = C_settled := rfl
structure Mx (P : Int → Prop) (m : Int) : Prop where
 nn : 0 ≤ m
 le : ∀ x, P x → x ≤ m
 at' : m = 0 ∨ P m
theorem Mx.same {P : Int → Prop} {m m' : Int} (a : Mx P m) (b : Mx P m') : m = m' := by
 have h1 := a.nn
 have h2 := b.nn
 rcases a.at' with e | e
 ·rcases b.at' with e' | e'
  ·lia
  ·have := a.le _ e'; lia
 ·have := b.le _ e
  rcases b.at' with e' | e'
  ·lia
  ·have := a.le _ e'; lia
theorem Mx.iff {P P' : Int → Prop} {m : Int} (a : Mx P m) (h : ∀ x, P x ↔ P' x) : Mx P' m := ⟨a.nn, fun x hx => a.le x ((h x).mpr hx), a.at'.imp id (h m).mp⟩
theorem Mx.zero : Mx (fun _ => False) 0 := ⟨Int.le_refl _, fun _ h => h.elim, .inl rfl⟩
theorem Mx.add {P : Int → Prop} {m : Int} (a : Mx P m) (x : Int) : Mx (fun y => P y ∨ y = x) (max m x) := by
 have h0 := a.nn
 refine ⟨by lia, fun y hy => ?_, ?_⟩
 ·rcases hy with h | rfl
  ·have := a.le y h; lia
  ·lia
 ·by_cases h : x ≤ m
  ·rw [show max m x = m by lia]; exact a.at'.imp id .inl
  ·rw [show max m x = x by lia]; exact .inr (.inr rfl)
theorem Mx.nil {α : Type} {P : Int → Prop} {R : α → Int → Prop} {m : Int} (a : Mx P m) : Mx (fun x => P x ∨ ∃ r ∈ ([] : List α), R r x) m := a.iff fun x => ⟨.inl, fun h => h.elim id fun ⟨_, h, _⟩ => nomatch h⟩
theorem Mx.cons {α : Type} {P P1 : Int → Prop} {R : α → Int → Prop} {r : α} {rs : List α} {m : Int} (a : Mx (fun x => P1 x ∨ ∃ r ∈ rs, R r x) m) (h : ∀ x, P1 x ↔ (P x ∨ R r x)) : Mx (fun x => P x ∨ ∃ r' ∈ r :: rs, R r' x) m := a.iff fun x => by
 rw [h x, or_assoc]
 refine or_congr Iff.rfl ⟨fun q => ?_, fun ⟨r', hr, q⟩ => ?_⟩
 ·rcases q with q | ⟨r', hr, q⟩
  ·exact ⟨r, List.mem_cons_self, q⟩
  ·exact ⟨r', List.mem_cons_of_mem _ hr, q⟩
 ·rcases List.mem_cons.mp hr with e | hr
  ·rw [e] at q; exact .inl q
  ·exact .inr ⟨r', hr, q⟩
noncomputable def qP (qs : List Prs) (hs : List Mtg) (x : Int) : Prop := (False ∨ ∃ r ∈ rulesOf qs, x = r.stl) ∨ ∃ m ∈ hs, ∃ p ∈ qs, m.who.contains p.nm = true ∧ x = m.hr + m.sz
inductive IC_quiet_from (H : Hp) (Q : V → Hp → Prop) : List V → Prop where
 | mk (k : Bk) (n : Nat) (ps : List Prs) (hs : List Mtg) (qs : List Prs) : Some' H k n ps hs qs → (rulesOf qs).length ≤ 1000 → (∀ r ∈ rulesOf qs, r.fine) → (∀ (m : Int) (H' : Hp), H <+: H' → Mx (qP qs hs) m → Q (.int (m + 48)) H') → IC_quiet_from H Q [.ref k.b, .ref n]
noncomputable def C_quiet_from : Ctr := fun vs H Q _ => IC_quiet_from H Q vs
theorem q1_loop {XF : XS} {v0 v1 : V} {t4 t5 t6 t7 t8 : Option V} {H : Hp} {Q : QS} {st : Hp → Prop} (hst : st H) : ∀ (rs : List Rl) (P : Int → Prop) (x : Int) (t3 : Option V), (∀ r ∈ rs, r.fine) → Mx P x → (∀ x' t3', Mx (fun y => P y ∨ ∃ r ∈ rs, y = r.stl) x' → Q .next [some v0, some v1, some (.int x'), t3', t4, t5, t6, t7, t8] H) →
  forGo (whBX Ω6 [(.assign 2 (.call (.bi .max) [(.loc 2), (.call (.fn "settled") [(.loc 3)])]))] XF) st 3 (rs.map rv) [some v0, some v1, some (.int x), t3, t4, t5, t6, t7, t8] H Q := by
 intro rs
 induction rs with
 | nil => intro P x t3 _ M q; exact q x _ M.nil
 | cons r rs ih =>
  intro P x t3 hf M q
  rw [List.map_cons, foX_cons]
  simp_arith only [↓O6_st]
  refine ⟨r, rfl, hf r List.mem_cons_self, ?_⟩
  simp_arith only [X_lit]
  exact ⟨hst, ih _ _ _ (fun r h => hf r (List.mem_cons_of_mem _ h)) (M.add r.stl) fun x' t3' M' => q x' t3' (M'.cons fun _ => Iff.rfl)⟩
noncomputable abbrev q3B : List IS := [(.ite (.cmp (.loc 5) .In (.sub (.loc 4) (.lit (.int 3)))) [(.assign 2 (.call (.bi .max) [(.loc 2), (.bin .Add (.sub (.loc 4) (.lit (.int 1))) (.sub (.loc 4) (.lit (.int 2))))]))] [])]
theorem q3_loop {XF : XS} {v0 v1 : V} {m : Mtg} {t3 t6 t7 t8 : Option V} {H : Hp} {Q : QS} {st : Hp → Prop} (hst : st H) : ∀ (qs : List Prs) (P : Int → Prop) (x : Int) (t5 : Option V), Mx P x → (∀ x' t5', Mx (fun y => P y ∨ ∃ p ∈ qs, m.who.contains p.nm = true ∧ y = m.hr + m.sz) x' → Q .next [some v0, some v1, some (.int x'), t3, some (mtv m), t5', t6, t7, t8] H) →
  forGo (whBX Ω6 q3B XF) st 5 (nmL qs) [some v0, some v1, some (.int x), t3, some (mtv m), t5, t6, t7, t8] H Q := by
 intro qs
 induction qs with
 | nil => intro P x t5 M q; exact q x _ M.nil
 | cons p qs ih =>
  intro P x t5 M q
  rw [show nmL (p :: qs) = .str p.nm :: nmL qs from rfl, foX_cons]
  have nx : ∀ P1 x1, Mx P1 x1 → (∀ x, P1 x ↔ (P x ∨ (m.who.contains p.nm = true ∧ x = m.hr + m.sz))) → st H ∧ forGo (whBX Ω6 q3B XF) st 5 (nmL qs) [some v0, some v1, some (.int x1), t3, some (mtv m), some (.str p.nm), t6, t7, t8] H Q := fun P1 x1 M1 h => ⟨hst, ih P1 x1 _ M1 fun x' t5' M' => q x' t5' (M'.cons h)⟩
  rw [show mtv m = V.tup [.int m.no, .int m.hr, .int m.sz, .tup (m.who.map V.str)] from rfl] at nx ⊢
  simp_arith only [mem_strs]
  refine iX_b (fun hw => ?_) (fun hw => ?_)
  ·exact nx _ _ (M.add (m.hr + m.sz)) fun x => by rw [hw]; exact or_congr Iff.rfl ⟨fun e => ⟨rfl, e⟩, And.right⟩
  ·exact nx P x M fun x => by rw [hw]; exact ⟨.inl, fun h => h.elim id fun h => Bool.noConfusion h.1⟩
theorem q2_loop {XF : XS} {v0 : V} {n : Nat} {qs : List Prs} {t3 t6 t7 t8 : Option V} {H : Hp} {Q : QS} {st : Hp → Prop} (hst : st H) (hl : listAt H n = some (nmL qs)) : ∀ (hs : List Mtg) (P : Int → Prop) (x : Int) (t4 t5 : Option V), Mx P x → (∀ x' t4' t5', Mx (fun y => P y ∨ ∃ m ∈ hs, ∃ p ∈ qs, m.who.contains p.nm = true ∧ y = m.hr + m.sz) x' → Q .next [some v0, some (.ref n), some (.int x'), t3, t4', t5', t6, t7, t8] H) →
  forGo (whBX Ω6 [(.for 5 .val (.loc 1) q3B)] XF) st 4 (hs.map mtv) [some v0, some (.ref n), some (.int x), t3, t4, t5, t6, t7, t8] H Q := by
 intro hs
 induction hs with
 | nil => intro P x t4 t5 M q; exact q x _ _ M.nil
 | cons m hs ih =>
  intro P x t4 t5 M q
  rw [List.map_cons, foX_cons]
  refine zs_cons ?_
  rw [Z_for]
  show oK (listAt H n) _
  rw [hl]
  exact q3_loop hl qs P x _ M fun x1 t5' M1 => ⟨hst, ih _ x1 _ _ M1 fun x' t4' t5' M' => q x' t4' t5' (M'.cons fun _ => Iff.rfl)⟩
theorem w_quiet_from : ∀ vs H Q X, C_quiet_from vs H Q X → wpFn Ω6 f_B_quiet_from vs H Q X := by
 rintro vs H Q X ⟨k, n, ps, hs, qs, S, hz, hf, q⟩
 refine fn_of rfl ?_
 change wpSs Ω6 f_B_quiet_from.body [some (.ref k.b), some (.ref n), none, none, none, none, none, none, none] H _ _
 refine zs_cons ?_
 generalize hK : sqX Ω6 (_ :: _) = K
 simp_arith only [X_lit]
 subst hK
 refine zs_cons ?_
 generalize hK : sqX Ω6 (_ :: _) = K
 simp_arith only [S.book.ns, ↓O6_ro]
 refine ⟨k, n, ps, hs, qs, S, hz, fun H1 i p1 l1 => ?_⟩
 simp_arith only [l1]
 subst hK
 have S1 := S.pre p1
 refine q1_loop l1 _ _ 0 _ hf Mx.zero fun x1 t3' M1 => ?_
 refine zs_cons ?_
 generalize hK : sqX Ω6 (_ :: _) = K
 simp_arith only [S1.book.ns, S1.book.fH, S1.book.lh]
 subst hK
 exact q2_loop S1.book.lh S1.list hs _ x1 _ _ M1 fun x2 t4' t5' M2 => q x2 H1 p1 M2
noncomputable def Ω7 : Orc := ext (Str.ofString "Book." ++ Str.ofString "quiet_from") C_quiet_from Ω6
end Mine
namespace Mine
open PySem
theorem lcmL_dvd : ∀ (ns : List Nat) (a : Nat), a ∣ lcmL ns a ∧ ∀ n ∈ ns, n ∣ lcmL ns a
 | [], a => ⟨Nat.dvd_refl a, fun _ h => nomatch h⟩
 | n :: ns, a => by
  obtain ⟨h1, h2⟩ := lcmL_dvd ns (Nat.lcm a n)
  refine ⟨Nat.dvd_trans (Nat.dvd_lcm_left a n) h1, fun m hm => ?_⟩
  rcases List.mem_cons.mp hm with e | hm
  ·rw [e]; exact Nat.dvd_trans (Nat.dvd_lcm_right a n) h1
  ·exact h2 m hm
theorem lcmL_pos : ∀ (ns : List Nat) (a : Nat), 0 < a → (∀ n ∈ ns, 1 ≤ n) → 0 < lcmL ns a
 | [], a, h, _ => h
 | n :: ns, a, h, hn => lcmL_pos ns _ (Nat.lcm_pos h (hn n List.mem_cons_self)) fun m hm => hn m (List.mem_cons_of_mem _ hm)
noncomputable def per (qs : List Prs) : Nat := lcmL ((rulesOf qs).map Rl.rn) 1
theorem rn_all {rs : List Rl} (h : ∀ r ∈ rs, r.fine) : ∀ n ∈ rs.map Rl.rn, 1 ≤ n ∧ n ≤ 1000000 := fun n hn => by
 refine e1_2 (List.mem_map.mp hn) fun r hr e_242 => ?_
 obtain rfl := e_242
 exact (h r hr).inner.rn
theorem per_pos {qs : List Prs} (h : ∀ r ∈ rulesOf qs, r.fine) : 0 < per qs := lcmL_pos _ _ Nat.one_pos fun n hn => (rn_all h n hn).1
theorem per_dvd {qs : List Prs} {r : Rl} (hr : r ∈ rulesOf qs) : r.rn ∣ per qs := (lcmL_dvd _ 1).2 _ (List.mem_map_of_mem hr)
theorem noM_of {qs : List Prs} (h : ∀ r ∈ rulesOf qs, r.fine) (hp : per qs ≤ 5000) : ∀ r ∈ rulesOf qs, r.ok := fun r hr => ⟨h r hr, by
 have h1 := Nat.le_of_dvd (per_pos h) (per_dvd hr)
 unfold Rl.rn at h1
 cases e : r.inner with
 | month d t s => rw [e] at h1; have h1 : 35064 ≤ per qs := h1; lia
 | _ => rfl⟩
theorem fine_of {qs : List Prs} (h : ∀ r ∈ rulesOf qs, r.ok) : ∀ q ∈ qs, q.fine := fun q hq => ⟨fun r hr => h r (mem_rulesOf.mpr ⟨q, hq, List.mem_append_left _ hr⟩), fun r hr => h r (mem_rulesOf.mpr ⟨q, hq, List.mem_append_right _ hr⟩)⟩
noncomputable def tooL : Exc := ⟨"TooLong", ["TooLong", "HourError", "ValueError"]⟩
noncomputable def walk (qs : List Prs) (m lo : Int) : Int := (per qs : Int) + max 0 (m + 48 - lo)
structure Asks (H : Hp) (k : Bk) (n : Nat) (ps : List Prs) (hs : List Mtg) (qs : List Prs) (hours lo : Int) : Prop where
 S : Some' H k n ps hs qs
 ne : qs ≠ []
 nd : (qs.map Prs.nm).Nodup
 hh : sizeOk1 hours
 hl : hourOk lo
 fine : ∀ r ∈ rulesOf qs, r.fine
 z : (rulesOf qs).length ≤ 1000
inductive IC_ever (H : Hp) (Q : V → Hp → Prop) (X : XL) : List V → Prop where
 | mk (k : Bk) (n : Nat) (ps : List Prs) (hs : List Mtg) (qs : List Prs) (hours lo : Int) : Asks H k n ps hs qs hours lo →
   (∀ (m : Int) (H' : Hp), H <+: H' → Mx (qP qs hs) m → (5000 < walk qs m lo → X tooL H') ∧ (walk qs m lo ≤ 5000 → (∀ q ∈ qs, q.fine) → ∀ v, IsFirst (gd 0 hs qs) hours lo (lo + walk qs m lo - 1) v → Q v H')) → IC_ever H Q X [.ref k.b, .ref n, .int hours, .int lo]
noncomputable def C_ever : Ctr := fun vs H Q X => IC_ever H Q X vs
theorem O7_na : Ω7 (Str.ofString "Book." ++ Str.ofString "need_all") = C_need_all := rfl
theorem O7_ib : Ω7 "is_between" = C_is_between := rfl
theorem O7_it : Ω7 "is_time" = C_is_time := rfl
theorem O7_ro : Ω7 (Str.ofString "Book." ++ Str.ofString "rules_of") = C_rules_of := rfl
theorem O7_rd : Ω7 "round_of" = C_round_of := rfl
theorem O7_lc : Ω7 "least_common" = C_least_common := rfl
theorem O7_qf : Ω7 (Str.ofString "Book." ++ Str.ofString "quiet_from") = C_quiet_from := rfl
theorem O7_lo : Ω7 (Str.ofString "Book." ++ Str.ofString "look") = C_look := rfl
theorem rd_go {X : XL} {t0 t1 t2 t3 t4 t5 t6 t7 : Option V} {H : Hp} {QL : List V → Hp → Prop} {st : Hp → Prop} (hst : st H) : ∀ (rs : List Rl) (acc : List V), (∀ r ∈ rs, r.fine) → QL (acc ++ (rs.map Rl.rn).map natV) H →
  compGo (coEX Ω7 (.call (.fn "round_of") [(.loc 5)]) X) st 5 [t0, t1, t2, t3, t4, t5, t6, t7] (rs.map rv) acc H QL := by
 intro rs
 induction rs with
 | nil => intro acc _ q; rw [List.map_nil, List.map_nil, List.append_nil] at q; exact q
 | cons r rs ih =>
  intro acc hf q
  rw [List.map_cons, coX_cons]
  simp_arith only [↓O7_rd]
  refine ⟨r, rfl, hf r List.mem_cons_self, hst, ih _ (fun r h => hf r (List.mem_cons_of_mem _ h)) ?_⟩
  rw [List.append_assoc]; exact q
theorem w_ever : ∀ vs H Q X, C_ever vs H Q X → wpFn Ω7 f_B_ever vs H Q X := by
 rintro vs H Q X ⟨k, n, ps, hs, qs, hours, lo, A, q⟩
 refine fn_of rfl ?_
 have B := A.S.book
 have l1 := A.hl.1
 have l2 := A.hl.2
 change wpSs Ω7 f_B_ever.body [some (.ref k.b), some (.ref n), some (.int hours), some (.int lo), none, none, none, none] H _ _
 refine zs_cons ?_
 generalize hK : sqX Ω7 (_ :: _) = K
 simp_arith only [B.ns, ↓O7_na]
 refine ⟨k, n, ps, hs, qs, A.S, A.ne, A.nd, ?_⟩
 subst hK
 refine zs_cons ?_
 generalize hK : sqX Ω7 (_ :: _) = K
 simp_arith only [↓O7_ib, ↓O7_it]
 refine ⟨hours, 1, 48, A.hh.1, A.hh.2, ?_⟩
 simp_arith only [X_lit]
 refine cc_it A.hl ?_
 simp_arith only [X_lit]
 subst hK
 refine zs_cons ?_
 generalize hK : sqX Ω7 (_ :: _) = K
 simp_arith only [B.ns, ↓O7_ro]
 refine ⟨k, n, ps, hs, qs, A.S, A.z, fun H1 i p1 h1 => ?_⟩
 simp_arith only [h1]
 refine rd_go h1 _ _ A.fine ?_
 have hz := A.z
 refine ⟨by rw [List.nil_append, List.length_map, List.length_map]; lia, ?_⟩
 rw [List.nil_append]
 have p2 : H1 <+: H1 ++ [.list (((rulesOf qs).map Rl.rn).map natV)] := pre_new
 have h2 := listAt_new (H := H1) (l := ((rulesOf qs).map Rl.rn).map natV)
 generalize H1 ++ [O.list (((rulesOf qs).map Rl.rn).map natV)] = H2 at *
 simp_arith only [↓O7_lc]
 refine ⟨_, _, h2, rn_all A.fine, ?_⟩
 subst hK
 have S2 := A.S.pre (p1.trans p2)
 refine zs_cons ?_
 generalize hK : sqX Ω7 (_ :: _) = K
 simp_arith only [S2.book.ns, ↓O7_qf]
 refine ⟨k, n, ps, hs, qs, S2, A.z, A.fine, fun m H3 p3 M => ?_⟩
 simp_arith only [X_lit]
 subst hK
 have p4 := (p1.trans p2).trans p3
 have S3 := A.S.pre p4
 have x1 := (q m H3 p4 M).1
 have x2 := fun H' (p : H <+: H') => (q m H' p M).2
 show wpSs Ω7 (f_B_ever.body.drop 4) [some (.ref k.b), some (.ref n), some (.int hours), some (.int lo), some (.int (walk qs m lo)), none, none, none] H3 _ _
 have hw : (per qs : Int) ≤ walk qs m lo := by unfold walk; lia
 generalize walk qs m lo = w at *
 refine zs_cons ?_
 generalize hK : sqX Ω7 (_ :: _) = K
 simp_arith only [X_lit]
 refine ⟨fun g => ?_, fun g => ?_⟩
 ·subst hK; exact x1 g
 ·subst hK
  have hf := fine_of (noM_of A.fine (by lia))
  refine zs_cons ?_
  simp_arith only [S3.book.ns, ↓O7_lo]
  have hp := per_pos A.fine
  refine ⟨k, _, ps, hs, qs, hours, lo, _, 0, S3.som hf, A.hh, l1, by lia, by lia, fun v rows F => ?_⟩
  simp_arith only [X_lit]
  exact x2 _ (p4.trans pre_new) (by lia) hf v F
noncomputable def Ω8 : Orc := ext (Str.ofString "Book." ++ Str.ofString "ever") C_ever Ω7
end Mine
namespace Mine
open PySem
theorem stA_ge : ∀ (r : Rl) (x : Int), x ≤ stA r x
 | .pl p, x => by show x ≤ max x p.stl; lia
 | .hd k r, x => by
  have := stA_ge r (max x k.stl)
  show x ≤ stA r (max x k.stl)
  lia
theorem stA_mono : ∀ (r : Rl) (x y : Int), x ≤ y → stA r x ≤ stA r y
 | .pl p, x, y, h => by show max x p.stl ≤ max y p.stl; lia
 | .hd k r, x, y, h => stA_mono r _ _ (by lia)
theorem rise_last {most : Int} : ∀ (ds : List Int) (a : Int), rise most a ds → a ≤ ds.getLastD a ∧ ∀ d ∈ ds, d ≤ ds.getLastD a
 | [], a, _ => ⟨Int.le_refl _, fun _ h => nomatch h⟩
 | d :: ds, a, ⟨h1, h2, h⟩ => by
  obtain ⟨i1, i2⟩ := rise_last ds d h
  rw [List.getLastD_cons]
  refine ⟨by lia, fun x hx => ?_⟩
  rcases List.mem_cons.mp hx with e | hx
  ·rw [e]; exact i1
  ·exact i2 x hx
theorem last_ge {most : Int} {ds : List Int} (h1 : 1 ≤ ds.length) (h : rise most (-1) ds) : ∀ d ∈ ds, d ≤ lastI ds := by
 have := (rise_last ds (-1) h).2
 unfold lastI
 cases ds with
 | nil => exact absurd h1 (by decide)
 | cons d ds => rw [List.getLastD_cons] at this ⊢; exact this
theorem bp_per {p : Pl} {x P : Int} (hf : p.fine) (hs : p.stl ≤ x) (hP : 0 ≤ P) (hd : ((p.rn : Nat) : Int) ∣ P) : bp p (x + P) = bp p x := by
 obtain ⟨c, hc⟩ := hd
 cases p with
 | once h s =>
  have hs : h + 1 ≤ x := hs
  show decide (x + P = h) = decide (x = h)
  rw [decide_eq_false (by lia), decide_eq_false (by lia)]
 | every h s p =>
  have hs : h ≤ x := hs
  have h1 := hf.2.2.1
  have hc : P = ((p.toNat : Nat) : Int) * c := hc
  rw [show ((p.toNat : Nat) : Int) = p by lia] at hc
  show (decide (h ≤ x + P) && decide ((x + P - h) % p = 0)) = (decide (h ≤ x) && decide ((x - h) % p = 0))
  rw [decide_eq_true hs, decide_eq_true (by lia), show x + P - h = x - h + p * c by rw [hc]; lia, Int.add_mul_emod_self_left]
 | week ds t s =>
  have hc : P = 168 * c := hc
  show (decide ((x + P) % 24 = t) && ds.contains ((x + P) / 24 % 7)) = (decide (x % 24 = t) && ds.contains (x / 24 % 7))
  rw [show (x + P) % 24 = x % 24 by lia, show (x + P) / 24 % 7 = x / 24 % 7 by lia]
 | month d t s => rfl
theorem bgo_per {P : Int} (hP : 0 ≤ P) : ∀ (r : Rl) (x : Int), r.fine → r.stl ≤ x → ((r.rn : Nat) : Int) ∣ P → bgo r (x + P) = bgo r x
 | .pl p, x, hf, hs, hd => bp_per hf (by have hs : max 0 p.stl ≤ x := hs; lia) hP hd
 | .hd k r, x, hf, hs, hd => by
  have hs : stA r (max 0 k.stl) ≤ x := hs
  have g1 := stA_ge r (max 0 k.stl)
  have g2 := stA_mono r 0 (max 0 k.stl) (by lia)
  have ih := bgo_per hP r x hf.2 (by show stA r 0 ≤ x; lia) hd
  show hdB k (x + P) (bgo r (x + P)) = hdB k x (bgo r x)
  rw [ih]
  cases k with
  | frm h =>
   have e : h ≤ x := show Hd.stl (.frm h) ≤ x by lia
   show (_ && decide (h ≤ x + P)) = (_ && decide (h ≤ x))
   rw [decide_eq_true e, decide_eq_true (by lia)]
  | til h =>
   have e : h ≤ x := show Hd.stl (.til h) ≤ x by lia
   show (_ && decide (x + P < h)) = (_ && decide (x < h))
   rw [decide_eq_false (by lia), decide_eq_false (by lia)]
  | als h =>
   have e : h + 1 ≤ x := show Hd.stl (.als h) ≤ x by lia
   show (_ || decide (x + P = h)) = (_ || decide (x = h))
   rw [decide_eq_false (by lia), decide_eq_false (by lia)]
  | but ds =>
   have e : 24 * (lastI ds + 1) ≤ x := show Hd.stl (.but ds) ≤ x by lia
   have no : ∀ y, x ≤ y → ds.contains (y / 24) = false := fun y hy => Bool.eq_false_iff.mpr fun q => by
    have := last_ge hf.1.1 hf.1.2.2 _ (List.contains_iff_mem.mp q)
    lia
   show (_ && !ds.contains ((x + P) / 24)) = (_ && !ds.contains (x / 24))
   rw [no x (Int.le_refl _), no (x + P) (by lia)]
theorem bg_per {P : Int} (hP : 0 ≤ P) {r : Rl} {x : Int} (hf : r.fine) (hs : r.stl ≤ x) (hd : ((r.rn : Nat) : Int) ∣ P) : bg r (x + P) = bg r x := by
 have h0 : 0 ≤ r.stl := stA_ge r 0
 unfold bg
 rw [if_neg (by lia), if_neg (by lia)]
 exact bgo_per hP r x hf hs hd
theorem any_cong {α : Type} {l : List α} {f g : α → Bool} (h : ∀ a ∈ l, f a = g a) : l.any f = l.any g := by
 induction l with
 | nil => rfl
 | cons a l ih => rw [List.any_cons, List.any_cons, h a List.mem_cons_self, ih fun b hb => h b (List.mem_cons_of_mem _ hb)]
theorem all_cong {α : Type} {l : List α} {f g : α → Bool} (h : ∀ a ∈ l, f a = g a) : l.all f = l.all g := by
 induction l with
 | nil => rfl
 | cons a l ih => rw [List.all_cons, List.all_cons, h a List.mem_cons_self, ih fun b hb => h b (List.mem_cons_of_mem _ hb)]
theorem cov_per {P : Int} (hP : 0 ≤ P) {r : Rl} {x : Int} (hf : r.fine) (hs : r.stl + 47 ≤ x) (hd : ((r.rn : Nat) : Int) ∣ P) : cov r (x + P) = cov r x := by
 have hz := hf.inner.size
 unfold cov
 refine any_cong fun j hj => ?_
 obtain ⟨j1, j2⟩ := mem_rangeJ.mp hj
 have j2 : j < r.inner.size := j2
 have h2 := hz.2
 rw [show x + P - j = x - j + P by lia]
 exact bg_per hP hf (by lia) hd
section
variable {qs : List Prs} {hs : List Mtg} {m : Int}
theorem meets_per {p : Prs} {x : Int} (M : Mx (qP qs hs) m) (hp : p ∈ qs) (hx : m ≤ x) : meets 0 hs p.nm x = false := by
 rw [Bool.eq_false_iff]
 intro q
 refine e1_2 (List.any_eq_true.mp q) fun t ht q => ?_
 rw [Bool.and_eq_true, Bool.and_eq_true, Bool.and_eq_true, decide_eq_true_eq, decide_eq_true_eq, decide_eq_true_eq] at q
 have := M.le _ (.inr ⟨t, ht, p, hp, q.2.1, rfl⟩)
 lia
theorem gd_per (hf : ∀ r ∈ rulesOf qs, r.fine) (M : Mx (qP qs hs) m) {x : Int} (hx : m + 48 ≤ x) : gd 0 hs qs (x + (per qs : Int)) = gd 0 hs qs x := by
 have h0 := M.nn
 unfold gd
 have one : ∀ p ∈ qs, fre 0 hs p (x + (per qs : Int)) = fre 0 hs p x := fun p hp => by
  have cv : ∀ r ∈ p.fr ++ p.bu, cov r (x + (per qs : Int)) = cov r x := fun r hr => by
   have hr := mem_rulesOf.mpr ⟨p, hp, hr⟩
   have := M.le _ (.inl (.inr ⟨r, hr, rfl⟩))
   exact cov_per (by lia) (hf r hr) (by lia) (Int.natCast_dvd_natCast.mpr (per_dvd hr))
  unfold fre freeAt
  rw [meets_per M hp (by lia), meets_per M hp (by lia), decide_eq_false (by lia), decide_eq_false (by lia), any_cong fun r hr => cv r (List.mem_append_left _ hr), any_cong fun r hr => cv r (List.mem_append_right _ hr)]
 exact all_cong one
theorem never (hf : ∀ r ∈ rulesOf qs, r.fine) (M : Mx (qP qs hs) m) {hours lo : Int} (F : ∀ x, lo ≤ x → x ≤ lo + walk qs m lo - 1 → ¬ okW (gd 0 hs qs) hours x) : ∀ (n : Nat) (x : Int), lo ≤ x → x ≤ lo + (n : Int) → ¬ okW (gd 0 hs qs) hours x := by
 intro n
 induction n with
 | zero =>
  intro x h1 h2
  have hp := per_pos hf
  exact F x h1 (by unfold walk; lia)
 | succ n ih =>
  intro x h1 h2 ok
  by_cases hx : x ≤ lo + walk qs m lo - 1
  ·exact F x h1 hx ok
  have hp := per_pos hf
  unfold walk at hx
  refine ih (x - (per qs : Int)) (by lia) (by lia) fun y y1 y2 => ?_
  rw [← gd_per hf M (x := y) (by lia)]
  exact ok _ (by lia) (by lia)
end
end Mine
namespace Mine
open PySem
noncomputable def cell (ns : List Int) (k : Int) : Int := if ns.length = 0 then 0 else ns.getD (k % (ns.length : Int)).toNat 0 + k / (ns.length : Int) * 31
noncomputable def C_cell_at : Ctr := fun vs H Q _ => ∃ ns k, vs = [.scr ns, .int k] ∧ ns.length ≤ 1000 ∧ Q (.int (cell ns k)) H
theorem cc_cell {ns : List Int} {k : Int} {H : Hp} {Q : V → Hp → Prop} {X : XL} : C_cell_at [.scr ns, .int k] H Q X = (ns.length ≤ 1000 ∧ Q (.int (cell ns k)) H) := by
 refine propext ⟨?_, fun ⟨a, b⟩ => ⟨ns, k, rfl, a, b⟩⟩
 rintro ⟨ns', k', e, a, b⟩
 cases e
 exact ⟨a, b⟩
theorem w_cell_at : ∀ vs H Q X, C_cell_at vs H Q X → wpFn Ω8 f_l_cell_at vs H Q X := by
 rintro vs H Q X ⟨ns, k, rfl, hz, q⟩
 refine fn_of rfl ?_
 simp_arith only [f_l_cell_at, initL, List.map_cons, List.map_nil, List.replicate, List.cons_append, List.nil_append]
 unfold cell at q
 refine ⟨fun h => ?_, fun h => ?_⟩
 ·rw [if_pos (by lia)] at q; exact q
 ·have hp : 0 < (ns.length : Int) := by lia
  have h1 := Int.emod_nonneg k (show (ns.length : Int) ≠ 0 by lia)
  have h2 := Int.emod_lt_of_pos k hp
  have h3 : (k % (ns.length : Int)).toNat < ns.length := by lia
  rw [if_neg (by lia)] at q
  have e : idxP ns (k % (ns.length : Int)) = some (ns.getD (k % (ns.length : Int)).toNat 0) := by
   unfold idxP
   rw [if_pos h1, List.getElem?_eq_getElem h3]
   simp [h3]
  rw [e]
  refine ⟨⟨hp, by lia⟩, ?_⟩
  simp_arith only [X_lit]
  exact ⟨⟨hp, by lia⟩, q⟩
noncomputable def Θ1 : Orc := ext "_law_cell_at" C_cell_at Ω8
noncomputable def C_whole : Ctr := fun vs H Q _ => ∃ x : Int, vs = [.int x] ∧ Q (.bool true) H
theorem w_whole : ∀ vs H Q X, C_whole vs H Q X → wpFn Θ1 f_l_whole vs H Q X := by
 rintro vs H Q X ⟨x, rfl, q⟩
 refine fn_of rfl ?_
 simp_arith only [f_l_whole, initL, List.map_cons, List.map_nil, List.replicate, List.cons_append, List.nil_append, isi_int_int, isi_int_bool]
 exact q
noncomputable def Θ2 : Orc := ext "_law_whole" C_whole Θ1
noncomputable def C_plain_begins : Ctr := fun vs H Q _ => ∃ (r : Pl) (x : Int), vs = [pv r, .int x] ∧ r.fine ∧ r.noM = true ∧ 0 ≤ x ∧ Q (.bool (bp r x)) H
theorem w_plain_begins : ∀ vs H Q X, C_plain_begins vs H Q X → wpFn Θ2 f_l_plain_begins vs H Q X := by
 rintro vs H Q X ⟨r, x, rfl, hok, hm, h0, q⟩
 refine fn_of rfl ?_
 cases r with
 | once h s =>
  change wpSs Θ2 f_l_plain_begins.body [some (V.tup [.str "once", .int h, .int s]), some (.int x), none, none, none] H _ _
  exact zs_cons (iw_eq sw_once_once q)
 | every h s p =>
  change wpSs Θ2 f_l_plain_begins.body [some (V.tup [.str "every", .int h, .int s, .int p]), some (.int x), none, none, none] H _ _
  refine zs_cons (iw_ne sw_every_once (zs_cons (iw_eq sw_every_every ?_)))
  generalize hK : sqX Θ2 (_ :: _) = K
  simp_arith only [← hK]
  have h1 := hok.2.2.1
  have h2 := hok.2.2.2
  refine ⟨fun hx => ⟨⟨by lia, by lia⟩, ?_⟩, fun hx => ?_⟩
  ·have e : bp (.every h s p) x = decide ((x - h) % p = 0) := by show (decide (h ≤ x) && _) = _; rw [decide_eq_true hx]; rfl
   rw [e] at q; exact q
  ·have e : bp (.every h s p) x = false := by show (decide (h ≤ x) && _) = _; rw [decide_eq_false hx]; rfl
   rw [e] at q; rw [decide_eq_false hx]; exact q
 | week ds t s =>
  change wpSs Θ2 f_l_plain_begins.body [some (V.tup [.str "week", intsV ds, .int t, .int s]), some (.int x), none, none, none] H _ _
  refine zs_cons (iw_ne sw_week_once (zs_cons (iw_ne sw_week_every (zs_cons ?_))))
  generalize hK : sqX Θ2 (_ :: _) = K
  simp_arith only [X_lit]
  refine ⟨fun h => absurd h (by lia), fun _ => ⟨fun hx => ?_, fun hx => ?_⟩⟩
  ·have e : bp (.week ds t s) x = false := by show (decide (x % 24 = t) && _) = _; rw [decide_eq_false hx]; rfl
   rw [e] at q; subst hK; exact q
  ·have e : bp (.week ds t s) x = ds.contains (x / 24 % 7) := by show (decide (x % 24 = t) && _) = _; rw [decide_eq_true (Classical.not_not.mp hx)]; rfl
   rw [e] at q
   subst hK
   refine zs_cons (iw_eq sw_week_week ?_)
   generalize hK : sqX Θ2 (_ :: _) = K
   simp_arith only [intsV, mem_ints]
   subst hK
   exact q
 | month d t s => exact Bool.noConfusion hm
noncomputable def Θ3 : Orc := ext "_law_plain_begins" C_plain_begins Θ2
noncomputable abbrev outL : O := .list outs
noncomputable def C_bearing : Ctr := fun vs H Q _ => vs = [] ∧ Q (.ref H.length) (H ++ [outL])
theorem w_bearing : ∀ vs H Q X, C_bearing vs H Q X → wpFn Θ3 f_l_bearing vs H Q X := by
 rintro vs H Q X ⟨rfl, q⟩
 refine fn_of rfl ?_
 simp_arith only [f_l_bearing, initL, List.map_nil, List.replicate, List.nil_append]
 exact q
noncomputable def Θ4 : Orc := ext "_law_bearing" C_bearing Θ3
theorem T4_be : Θ4 "_law_bearing" = C_bearing := rfl
noncomputable def hdi : Rl → List V
 | .pl _ => []
 | .hd k r => rv (.hd k r) :: hdi r
noncomputable def hds (r : Rl) : List V := hdi r ++ [pv r.inner]
theorem hdi_len : ∀ r : Rl, (hdi r).length = r.deep
 | .pl _ => rfl
 | .hd _ r => congrArg Nat.succ (hdi_len r)
noncomputable abbrev hdT : IE := .cmp (.sub (.loc 0) (.lit (.int 0))) .In (.call (.fn "_law_bearing") [])
theorem h_in {u : Str} {rest : List V} {Lr : Lc} {H : Hp} {P : Bool → Hp → Prop} {X : XL} {b : Bool} (hm : memV (.str u) outs = some b) (h : P b (H ++ [outL])) : (wp2 Θ4 hdT).T (some (.tup (.str u :: rest)) :: Lr) H P X := by
 simp_arith only [↓T4_be]
 refine ⟨rfl, ?_⟩
 simp_arith only [listAt_new, hm]
 exact h
theorem h_inP {p : Pl} {Lr : Lc} {H : Hp} {P : Bool → Hp → Prop} {X : XL} (h : P false (H ++ [outL])) : (wp2 Θ4 hdT).T (some (pv p) :: Lr) H P X := by
 obtain ⟨r, e⟩ := pv_w p
 rw [e]; exact h_in (mo_pl p) h
theorem pre_set {H H' : Hp} {n : Nat} {o : O} (p : H <+: H') (hn : H.length ≤ n) : H <+: H'.set n o := by
 obtain ⟨Δ, rfl⟩ := p
 rw [List.set_append_right _ _ hn]
 exact List.prefix_append _ _
noncomputable def C_heads : Ctr := fun vs H Q _ => ∃ r : Rl, vs = [rv r] ∧ r.deep ≤ 7 ∧ ∀ H', H <+: H' → Q (.ref H'.length) (H' ++ [.list (hds r)])
noncomputable abbrev heB : List IS := [(.expr (.meth (.loc 1) .append [(.loc 0)])), (.assign 0 (.sub (.loc 0) (.lit (.int 2))))]
theorem he_go {n : Nat} {H : Hp} {Q : V → Hp → Prop} {X : XL} (hn : H.length ≤ n) : ∀ (r : Rl) (l : List V) (H' : Hp), l.length + r.deep ≤ 7 → H <+: H' → listAt H' n = some l → (∀ H2, H <+: H2 → Q (.ref H2.length) (H2 ++ [.list (l ++ hds r)])) →
  whileGo (whTX Θ4 hdT noX) (whBX Θ4 heB noXS) (r.deep + 1) [some (rv r), some (.ref n), none, none, none] H' (sqX Θ4 [.ret (.bin .Add (.loc 1) (.lst [.loc 0]))] (fun fl _ H1 => Q (retV fl) H1) fun x _ H1 => X x H1) := by
 intro r
 induction r with
 | pl p =>
  intro l H' hz hp hl q
  rw [whX_s]
  refine h_inP ?_
  have hl1 := listAt_pre (pre_new (o := .list [pv p])) (listAt_pre (pre_new (o := outL)) hl)
  simp_arith only [rv, hl1, listAt_new]
  exact ⟨by have : l.length + 0 ≤ 7 := hz; lia, q _ (hp.trans (pre_new.trans pre_new))⟩
 | hd k r ih =>
  intro l H' hz hp hl q
  have hz : l.length + (r.deep + 1) ≤ 7 := hz
  have hd : (.hd k r : Rl).deep + 1 = (r.deep + 1) + 1 := rfl
  rw [hd, whX_s]
  refine h_in (mo_hd k) ?_
  have hl1 := listAt_pre (pre_new (o := outL)) hl
  have nx := ih (l ++ [rv (.hd k r)]) ((H' ++ [outL]).set n (.list (l ++ [rv (.hd k r)]))) (by rw [List.length_append]; show l.length + 1 + r.deep ≤ 7; lia) (pre_set (hp.trans pre_new) hn) (listAt_set hl1) fun H2 h2 => by
   have := q H2 h2
   rw [List.append_assoc]; exact this
  simp_arith only [rv, hl1]
  exact ⟨⟨_, hl1⟩, by lia, nx⟩
theorem w_heads : ∀ vs H Q X, C_heads vs H Q X → wpFn Θ4 f_l_heads vs H Q X := by
 rintro vs H Q X ⟨r, rfl, hd, q⟩
 refine fn_of rfl ?_
 change wpSs Θ4 f_l_heads.body [some (rv r), none, none, none, none] H _ _
 refine zs_cons ?_
 generalize hK : sqX Θ4 (_ :: _) = K
 simp_arith only [X_lit]
 subst hK
 refine zs_cons ?_
 rw [Z_while]
 exact ⟨_, he_go (Nat.le_refl _) r [] _ (by show 0 + _ ≤ _; lia) pre_new listAt_new q⟩
noncomputable def Θ5 : Orc := ext "_law_heads" C_heads Θ4
theorem T5_he : Θ5 "_law_heads" = C_heads := rfl
theorem T5_pb : Θ5 "_law_plain_begins" = C_plain_begins := rfl
theorem idx_end {l : List V} {v : V} : idx (l ++ [v]) (-1) = some v := by
 unfold idx
 rw [if_neg (by decide), List.length_append, if_pos (by show 0 ≤ -1 + ((l.length + 1 : Nat) : Int); lia), show (-1 + ((l.length + [v].length : Nat) : Int)).toNat = l.length by show (-1 + ((l.length + 1 : Nat) : Int)).toNat = _; lia, List.getElem?_append_right (Nat.le_refl _), Nat.sub_self]; rfl
theorem cut_but {l : List V} {v : V} : cutL .none (.int (-1)) (l ++ [v]) = some l := by
 show some (((l ++ [v]).drop 0).take ((l ++ [v]).length - 1 - 0)) = _
 rw [List.drop_zero, List.length_append, Nat.sub_zero, show l.length + [v].length - 1 = l.length from rfl, List.take_left' rfl]
theorem for_app {body : Lc → Hp → QS → Prop} {st : Hp → Prop} {j : Nat} {l2 : List V} {Q : QS} : ∀ (l1 : List V) (L : Lc) (H : Hp), forGo body st j l1 L H (nxt (fun L1 H1 => forGo body st j l2 L1 H1 Q) Q) → forGo body st j (l1 ++ l2) L H Q := by
 intro l1
 have key : ∀ (l1 : List V), (fun L H => forGo body st j (l1 ++ l2) L H Q) = fun L H => forGo body st j l1 L H (nxt (fun L1 H1 => forGo body st j l2 L1 H1 Q) Q) := by
  intro l1
  induction l1 with
  | nil => rfl
  | cons x r ih =>
   funext L H
   show body _ _ (lop (fun L1 H1 => st H1 ∧ forGo body st j (r ++ l2) L1 H1 Q) Q) = body _ _ (lop (fun L1 H1 => st H1 ∧ forGo body st j r L1 H1 _) _)
   congr 1
   funext fl L1 H1
   cases fl with
   | next => exact congrArg (st H1 ∧ ·) (congrFun (congrFun ih L1) H1)
   | ret v => rfl
 intro L H h
 have := congrFun (congrFun (key l1) L) H
 exact this.mpr h
noncomputable def C_begun : Ctr := fun vs H Q _ => ∃ (r : Rl) (x : Int), vs = [rv r, .int x] ∧ r.ok ∧ r.deep ≤ 7 ∧ 0 ≤ x ∧ ∀ H', H <+: H' → Q (.bool (bgo r x)) H'
noncomputable abbrev buB : List IS := bdy (f_l_begun.body.getD 2 .fail)
theorem bu_one {XF : XS} {k : Hd} {r : Rl} {x : Int} {b : Bool} {v0 v2 : V} {t4 t5 t6 t7 : Option V} {H : Hp} {Q : QS} {st : Hp → Prop} (hst : st H) (q : ∀ t4', Q .next [some v0, some (.int x), some v2, some (.bool (hdB k x b)), t4', t5, t6, t7] H) :
  forGo (whBX Θ5 buB XF) st 4 [rv (.hd k r)] [some v0, some (.int x), some v2, some (.bool b), t4, t5, t6, t7] H Q := by
 rw [foX_cons]
 cases k with
 | frm h =>
  refine zs_cons ?_
  simp_arith only [↓foX_nil, ↓foX_cons, rv, Hd.w, Hd.v, sw_from_from]
  cases b with
  | true => simp_arith only [X_lit]; exact ⟨hst, q _⟩
  | false => simp_arith only [X_lit]; exact ⟨hst, q _⟩
 | til h =>
  refine zs_cons ?_
  simp_arith only [↓foX_nil, ↓foX_cons, rv, Hd.w, Hd.v, sw_until_from, sw_until_until]
  cases b with
  | true => simp_arith only [X_lit]; exact ⟨hst, q _⟩
  | false => simp_arith only [X_lit]; exact ⟨hst, q _⟩
 | als h =>
  refine zs_cons ?_
  simp_arith only [↓foX_nil, ↓foX_cons, rv, Hd.w, Hd.v, sw_also_from, sw_also_until, sw_also_also]
  cases b with
  | true => simp_arith only [X_lit]; exact ⟨hst, q _⟩
  | false => simp_arith only [X_lit]; exact ⟨hst, q _⟩
 | but ds =>
  refine zs_cons ?_
  simp_arith only [↓foX_nil, ↓foX_cons, rv, Hd.w, Hd.v, sw_but_from, sw_but_until, sw_but_also, intsV, mem_ints]
  cases b with
  | true => simp_arith only [X_lit]; exact ⟨hst, q _⟩
  | false => simp_arith only [X_lit]; exact ⟨hst, q _⟩
theorem bu_go {XF : XS} {x : Int} {v0 v2 : V} {t5 t6 t7 : Option V} {H : Hp} {st : Hp → Prop} (hst : st H) : ∀ (r : Rl) (t4 : Option V) (Q : QS), (∀ t4', Q .next [some v0, some (.int x), some v2, some (.bool (bgo r x)), t4', t5, t6, t7] H) →
  forGo (whBX Θ5 buB XF) st 4 (hdi r).reverse [some v0, some (.int x), some v2, some (.bool (bp r.inner x)), t4, t5, t6, t7] H Q
 | .pl p, t4, Q, q => q t4
 | .hd k r, t4, Q, q => by
  rw [show (hdi (.hd k r)).reverse = (hdi r).reverse ++ [rv (.hd k r)] from List.reverse_cons]
  exact for_app _ _ _ (bu_go hst r t4 _ fun t4' => bu_one hst q)
theorem w_begun : ∀ vs H Q X, C_begun vs H Q X → wpFn Θ5 f_l_begun vs H Q X := by
 rintro vs H Q X ⟨r, x, rfl, hf, hd, h0, q⟩
 refine fn_of rfl ?_
 change wpSs Θ5 f_l_begun.body [some (rv r), some (.int x), none, none, none, none, none, none] H _ _
 refine zs_cons ?_
 generalize hK : sqX Θ5 (_ :: _) = K
 simp_arith only [↓T5_he]
 refine ⟨r, rfl, hd, fun H1 hp1 => ?_⟩
 have l1 := listAt_new (H := H1) (l := hds r)
 have p1 : H <+: H1 ++ [.list (hds r)] := hp1.trans pre_new
 generalize H1.length = i at *
 generalize H1 ++ [O.list (hds r)] = H2 at *
 subst hK
 unfold hds at l1
 refine zs_cons ?_
 generalize hK : sqX Θ5 (_ :: _) = K
 simp_arith only [l1, idx_end, ↓T5_pb]
 refine ⟨r.inner, x, rfl, hf.1.inner, hf.2, h0, ?_⟩
 subst hK
 refine zs_cons ?_
 generalize hK : sqX Θ5 (_ :: _) = K
 have l2 := listAt_new (H := H2) (l := hdi r)
 have p2 := p1.trans (pre_new (o := .list (hdi r)))
 simp_arith only [l1, cut_but]
 generalize H2.length = i2 at *
 generalize H2 ++ [O.list (hdi r)] = H3 at *
 simp_arith only [l2]
 have q3 := q H3 p2
 refine bu_go l2 r _ _ fun t4' => ?_
 subst hK
 rw [sqX_next]
 exact q3
noncomputable def Θ6 : Orc := ext "_law_begun" C_begun Θ5
theorem T6_he : Θ6 "_law_heads" = C_heads := rfl
theorem me_once : memV (.str "once") [V.str "once", .str "every"] = some true := by decide
theorem me_every : memV (.str "every") [V.str "once", .str "every"] = some true := by decide
theorem me_week : memV (.str "week") [V.str "once", .str "every"] = some false := by decide
theorem me_month : memV (.str "month") [V.str "once", .str "every"] = some false := by decide
theorem hds_last (r : Rl) : idx (hds r) (-1) = some (pv r.inner) := idx_end
noncomputable def C_size : Ctr := fun vs H Q _ => ∃ r : Rl, vs = [rv r] ∧ r.deep ≤ 7 ∧ ∀ H', H <+: H' → Q (.int r.size) H'
theorem w_size : ∀ vs H Q X, C_size vs H Q X → wpFn Θ6 f_l_size vs H Q X := by
 rintro vs H Q X ⟨r, rfl, hd, q⟩
 refine fn_of rfl ?_
 change wpSs Θ6 f_l_size.body [some (rv r), none, none, none, none] H _ _
 refine zs_cons ?_
 generalize hK : sqX Θ6 (_ :: _) = K
 simp_arith only [↓T6_he]
 refine ⟨r, rfl, hd, fun H1 hp1 => ?_⟩
 simp_arith only [listAt_new, hds_last]
 have q' : ∀ o, Q (.int r.inner.size) ((H1 ++ [.list (hds r)]) ++ [o]) := fun o => q _ (hp1.trans (pre_new.trans pre_new))
 generalize H1 ++ [O.list (hds r)] = H3 at *
 subst hK
 revert q'
 cases r.inner with
 | once h s => intro q'; simp_arith only [pv, listAt_new, me_once]; exact q' _
 | every h s p => intro q'; simp_arith only [pv, listAt_new, me_every]; exact q' _
 | week ds t s => intro q'; simp_arith only [pv, listAt_new, me_week]; exact q' _
 | month d t s => intro q'; simp_arith only [pv, listAt_new, me_month]; exact q' _
noncomputable def Θ7 : Orc := ext "_law_size" C_size Θ6
end Mine
namespace Mine
open PySem
structure Ad where
 i : Nat
 f : Nat
 u : Nat
 e : Nat
noncomputable def Ad.all (a : Ad) : List Nat := [a.i, a.f, a.u, a.e]
noncomputable def metV (q : Int × Int) : V := .tup [.int q.1, .int q.2]
structure PA (H : Hp) (a : Ad) (p : Prs) (ms : List (Int × Int)) : Prop where
 li : listAt H a.i = some [.str p.nm, .ref a.f, .ref a.u, .ref a.e]
 lf : listAt H a.f = some (p.fr.map rv)
 lu : listAt H a.u = some (p.bu.map rv)
 le : listAt H a.e = some (ms.map metV)
section
variable {a : Ad}
theorem ad_i : a.i ∈ a.all := .head _
theorem ad_f : a.f ∈ a.all := .tail _ (.head _)
theorem ad_u : a.u ∈ a.all := .tail _ (.tail _ (.head _))
theorem ad_e : a.e ∈ a.all := .tail _ (.tail _ (.tail _ (.head _)))
theorem PA.fr {F : List Nat} {H H' : Hp} {p : Prs} {ms : List (Int × Int)} (P : PA H a p ms) (f : Fr F H H') (hd : ∀ i ∈ a.all, i ∉ F) : PA H' a p ms := ⟨f.list (hd _ ad_i) P.li, f.list (hd _ ad_f) P.lf, f.list (hd _ ad_u) P.lu, f.list (hd _ ad_e) P.le⟩
theorem PA.lt {H : Hp} {p : Prs} {ms : List (Int × Int)} (P : PA H a p ms) : ∀ i ∈ a.all, i < H.length := fun i hi => by
 rcases List.mem_cons.mp hi with q | hi
 ·rw [q]; exact listAt_lt P.li
 rcases List.mem_cons.mp hi with q | hi
 ·rw [q]; exact listAt_lt P.lf
 rcases List.mem_cons.mp hi with q | hi
 ·rw [q]; exact listAt_lt P.lu
 rw [List.mem_singleton.mp hi]; exact listAt_lt P.le
end
noncomputable def PsAt (H : Hp) (me : Prs → List (Int × Int)) : List Ad → List Prs → Prop
 | [], ps => ps = []
 | a :: as, ps => ∃ p qs, ps = p :: qs ∧ PA H a p (me p) ∧ PsAt H me as qs
noncomputable def ads (as : List Ad) : List Nat := as.flatMap Ad.all
theorem ads_mem {as : List Ad} {a : Ad} {i : Nat} (h : a ∈ as) (hi : i ∈ a.all) : i ∈ ads as := List.mem_flatMap.mpr ⟨a, h, hi⟩
section
variable {H H' : Hp} {me : Prs → List (Int × Int)}
theorem PsAt.fr {F : List Nat} (f : Fr F H H') : ∀ {as : List Ad} {ps : List Prs}, (∀ i ∈ ads as, i ∉ F) → PsAt H me as ps → PsAt H' me as ps
 | [], _, _, h => h
 | a :: _, _, hd, ⟨p, qs, e, h, r⟩ => ⟨p, qs, e, h.fr f fun i hi => hd i (ads_mem List.mem_cons_self hi), r.fr f fun i hi => hd i (List.mem_append_right _ hi)⟩
theorem PsAt.pre (q : H <+: H') {as : List Ad} {ps : List Prs} (P : PsAt H me as ps) : PsAt H' me as ps := P.fr (F := []) (Fr.pre q) fun _ _ h => nomatch h
theorem PsAt.lt : ∀ {as : List Ad} {ps : List Prs}, PsAt H me as ps → ∀ i ∈ ads as, i < H.length
 | [], _, _, _, hi => nomatch hi
 | a :: _, _, ⟨p, qs, e, h, r⟩, i, hi => by
  rcases List.mem_append.mp (show i ∈ a.all ++ ads _ from hi) with q | q
  ·exact h.lt i q
  ·exact r.lt i q
theorem PsAt.snoc {a : Ad} {p : Prs} (hp : PA H a p (me p)) : ∀ {as : List Ad} {ps : List Prs}, PsAt H me as ps → PsAt H me (as ++ [a]) (ps ++ [p])
 | [], ps, h => by obtain rfl := h; exact ⟨p, [], rfl, hp, rfl⟩
 | _ :: _, _, ⟨b, qs, e, h, r⟩ => ⟨b, qs ++ [p], by rw [e]; rfl, h, r.snoc hp⟩
theorem PsAt.reverse : ∀ {as : List Ad} {ps : List Prs}, PsAt H me as ps → PsAt H me as.reverse ps.reverse
 | [], ps, h => by obtain rfl := h; exact rfl
 | _ :: _, _, ⟨b, qs, e, h, r⟩ => by rw [e, List.reverse_cons, List.reverse_cons]; exact r.reverse.snoc h
theorem PsAt.take : ∀ (k : Nat) {as : List Ad} {ps : List Prs}, PsAt H me as ps → PsAt H me (as.take k) (ps.take k)
 | 0, _, _, _ => rfl
 | k + 1, [], ps, h => by obtain rfl := h; exact rfl
 | k + 1, _ :: _, _, ⟨b, qs, e, h, r⟩ => by rw [e]; exact ⟨b, _, rfl, h, r.take k⟩
theorem PsAt.length : ∀ {as : List Ad} {ps : List Prs}, PsAt H me as ps → as.length = ps.length
 | [], ps, h => by obtain rfl := h; rfl
 | _ :: _, _, ⟨b, qs, e, h, r⟩ => by rw [e, List.length_cons, List.length_cons, r.length]
end
noncomputable def refs (as : List Ad) : List V := as.map fun a => .ref a.i
noncomputable def Prs.fit (p : Prs) : Prop := (∀ r ∈ p.fr, r.ok ∧ r.deep ≤ 7) ∧ ∀ r ∈ p.bu, r.ok ∧ r.deep ≤ 7
theorem bools_map : ∀ l : List Bool, allBools (l.map V.bool) = some l
 | [] => rfl
 | b :: r => by
  show ((allBools (r.map V.bool)).map _) = _
  rw [bools_map r]; rfl
theorem T7_si : Θ7 "_law_size" = C_size := rfl
theorem T7_bu : Θ7 "_law_begun" = C_begun := rfl
noncomputable def C_lasts : Ctr := fun vs H Q _ => ∃ (r : Rl) (x : Int), vs = [rv r, .int x] ∧ r.ok ∧ r.deep ≤ 7 ∧ 0 ≤ x ∧ ∀ H', H <+: H' → Q (.bool (cov r x)) H'
noncomputable abbrev laB : List IS := bdy (f_l_lasts.body.getD 0 .fail)
theorem la_loop {XF : XS} {r : Rl} {x : Int} {t3 t4 t5 : Option V} {H0 : Hp} {Q : QS} (hf : r.ok) (hd : r.deep ≤ 7) : ∀ (ks : List Int) (t2 : Option V) (H : Hp), H0 <+: H →
  (∀ L' H', H0 <+: H' → (ks.any fun k => bg r (x - k)) = true → Q (.ret (.bool true)) L' H') → (∀ L' H', H0 <+: H' → (ks.any fun k => bg r (x - k)) = false → Q .next L' H') →
  forGo (whBX Θ7 laB XF) (fun _ => True) 2 (ks.map V.int) [some (rv r), some (.int x), t2, t3, t4, t5] H Q := by
 intro ks
 induction ks with
 | nil => intro t2 H hp _ q; exact q _ H hp rfl
 | cons k ks ih =>
  intro t2 H hp q1 q2
  rw [List.map_cons, foX_cons]
  rw [List.any_cons] at q1 q2
  refine zs_cons ?_
  simp_arith only [↓T7_bu]
  refine ⟨fun h => ⟨r, x - k, rfl, hf, hd, by lia, fun H1 hp1 => ?_⟩, fun h => ?_⟩
  ·rw [show bg r (x - k) = bgo r (x - k) from if_neg (by lia)] at q1 q2
   simp_arith only [X_lit]
   refine iX_b (fun hb => ?_) (fun hb => ?_)
   ·exact q1 _ _ (hp.trans hp1) (by rw [hb]; rfl)
   ·rw [hb, Bool.false_or] at q1 q2
    exact ih _ _ (hp.trans hp1) q1 q2
  ·have e : bg r (x - k) = false := by unfold bg; rw [if_pos (by lia)]
   rw [e, Bool.false_or] at q1 q2
   exact ih _ _ hp q1 q2
theorem w_lasts : ∀ vs H Q X, C_lasts vs H Q X → wpFn Θ7 f_l_lasts vs H Q X := by
 rintro vs H Q X ⟨r, x, rfl, hf, hd, h0, q⟩
 refine fn_of rfl ?_
 change wpSs Θ7 f_l_lasts.body [some (rv r), some (.int x), none, none, none, none] H _ _
 have e1 : 1 ≤ r.size := hf.1.inner.size.1
 have e2 : r.size ≤ 48 := hf.1.inner.size.2
 unfold cov at q
 refine zs_cons ?_
 generalize hK : sqX Θ7 (_ :: _) = K
 simp_arith only [↓T7_si]
 refine ⟨r, rfl, hd, fun H1 hp1 => ?_⟩
 simp_arith only [X_lit]
 refine ⟨⟨by lia, by lia⟩, ?_⟩
 rw [rangeL_J]
 subst hK
 refine la_loop hf hd _ _ H1 hp1 (fun L' H' hp h => ?_) (fun L' H' hp h => ?_)
 ·have := q H' hp; rw [h] at this; exact this
 ·have := q H' hp; rw [h] at this; exact this
noncomputable def Θ8 : Orc := ext "_law_lasts" C_lasts Θ7
theorem T8_la : Θ8 "_law_lasts" = C_lasts := rfl
noncomputable def inM (x : Int) (q : Int × Int) : Bool := decide (q.1 ≤ x) && decide (x < q.1 + q.2)
theorem om_comp {s : Nat} {vs0 : List V} {v0 : V} {x : Int} {t2 t3 t4 : Option V} {X : XL} {H : Hp} {Q : List V → Hp → Prop} (hs : listAt H s = some vs0) : ∀ (ms : List (Int × Int)) (bs : List Bool), Q ((bs ++ ms.map (inM x)).map V.bool) H →
  compGoB (coEX Θ8 (.and (.cmp (.loc 2) .LtE (.loc 1)) (.cmp (.loc 1) .Lt (.bin .Add (.loc 2) (.loc 3)))) X) (fun H' => listAt H' s = some vs0) (bd2 2 [some v0, some (.int x), t2, t3, t4]) (ms.map metV) (bs.map V.bool) H Q := by
 intro ms
 induction ms with
 | nil => intro bs q; rw [List.map_nil, List.append_nil] at q; exact q
 | cons m ms ih =>
  intro bs q
  rw [List.map_cons, show metV m = .tup [.int m.1, .int m.2] from rfl, co2_cons]
  have step : ∀ b, inM x m = b → listAt H s = some vs0 ∧ compGoB (coEX Θ8 (.and (.cmp (.loc 2) .LtE (.loc 1)) (.cmp (.loc 1) .Lt (.bin .Add (.loc 2) (.loc 3)))) X) (fun H' => listAt H' s = some vs0) (bd2 2 [some v0, some (.int x), t2, t3, t4]) (ms.map metV) (bs.map V.bool ++ [.bool b]) H Q := fun b hb => by
   have := ih (bs ++ [b]) (by rw [List.map_cons, hb, List.append_cons] at q; exact q)
   rw [List.map_append] at this
   exact ⟨hs, this⟩
  simp_arith only [X_lit]
  refine ⟨fun h => step _ (by unfold inM; rw [decide_eq_true h]; rfl), fun h => ?_⟩
  rw [decide_eq_false h]
  exact step _ (by unfold inM; rw [decide_eq_false h]; rfl)
theorem ls_comp {s : Nat} {vs0 : List V} {v0 : V} {x : Int} {t2 t3 t4 : Option V} {X : XL} {Q : List V → Hp → Prop} (h0 : 0 ≤ x) : ∀ (rs : List Rl) (bs : List Bool) (H : Hp), listAt H s = some vs0 → (∀ r ∈ rs, r.ok ∧ r.deep ≤ 7) → (∀ H', H <+: H' → Q ((bs ++ rs.map fun r => cov r x).map V.bool) H') →
  compGo (coEX Θ8 (.call (.fn "_law_lasts") [(.loc 2), (.loc 1)]) X) (fun H' => listAt H' s = some vs0) 2 [some v0, some (.int x), t2, t3, t4] (rs.map rv) (bs.map V.bool) H Q := by
 intro rs
 induction rs with
 | nil => intro bs H _ _ q; have := q H (List.prefix_refl _); rw [List.map_nil, List.append_nil] at this; exact this
 | cons r rs ih =>
  intro bs H hs hf q
  rw [List.map_cons, coX_cons]
  simp_arith only [↓T8_la]
  refine ⟨r, x, rfl, (hf r List.mem_cons_self).1, (hf r List.mem_cons_self).2, h0, fun H1 hp1 => ⟨listAt_pre hp1 hs, ?_⟩⟩
  have := ih (bs ++ [cov r x]) H1 (listAt_pre hp1 hs) (fun r h => hf r (.tail _ h)) fun H' hp => by
   have := q H' (hp1.trans hp)
   rw [List.map_cons, List.append_cons] at this; exact this
  rw [List.map_append] at this
  exact this
theorem any_id {α : Type} (f : α → Bool) (l : List α) : (l.map f).any id = l.any f := by rw [List.any_map]; rfl
inductive IC_open (H : Hp) (Q : V → Hp → Prop) : List V → Prop where
 | mk (a : Ad) (p : Prs) (ms : List (Int × Int)) (x : Int) : (PA H a p ms) → (p.fit) → (0 ≤ x) → (ms.length ≤ 1000) → (p.fr.length ≤ 1000) → (p.bu.length ≤ 1000) → (∀ H', H <+: H' → Q (.bool (!ms.any (inM x) && freeAt p x)) H') → IC_open H Q ([.ref a.i, .int x])
noncomputable def C_open : Ctr := fun vs H Q _ => IC_open H Q vs
theorem w_open : ∀ vs H Q X, C_open vs H Q X → wpFn Θ8 f_l_open vs H Q X := by
 rintro vs H Q X ⟨a, p, ms, x, P, hf, h0, z1, z2, z3, q⟩
 refine fn_of rfl ?_
 change wpSs Θ8 f_l_open.body [some (.ref a.i), some (.int x), none, none, none] H _ _
 refine zs_cons ?_
 generalize hK : sqX Θ8 (_ :: _) = K
 have le := P.le
 simp_arith only [P.li, le]
 refine om_comp le ms [] ⟨by rw [List.nil_append, List.length_map, List.length_map]; lia, ?_⟩
 rw [List.nil_append]
 simp_arith only [listAt_new, bools_map, any_id]
 refine iX_b (fun hm => ?_) (fun hm => ?_)
 ·subst hK
  have := q (H ++ [.list ((ms.map (inM x)).map V.bool)]) pre_new
  rw [hm] at this; exact this
 subst hK
 have P1 : PA (H ++ [O.list ((ms.map (inM x)).map V.bool)]) a p ms := P.fr (F := []) (Fr.pre pre_new) fun _ _ h => nomatch h
 have q1 : ∀ H', H ++ [O.list ((ms.map (inM x)).map V.bool)] <+: H' → Q (.bool (freeAt p x)) H' := fun H' hp => by
  have := q H' (pre_new.trans hp)
  rw [hm] at this; exact this
 generalize H ++ [O.list ((ms.map (inM x)).map V.bool)] = H1 at *
 unfold freeAt at q1
 refine zs_cons ?_
 generalize hK : sqX Θ8 (_ :: _) = K
 have lf := P1.lf
 simp_arith only [P1.li, lf]
 refine ls_comp h0 p.fr [] H1 lf hf.1 fun H2 hp2 => ⟨by rw [List.nil_append, List.length_map, List.length_map]; lia, ?_⟩
 rw [List.nil_append]
 simp_arith only [listAt_new, bools_map, any_id]
 have P2 : PA (H2 ++ [O.list ((p.fr.map fun r => cov r x).map V.bool)]) a p ms := P1.fr (F := []) (Fr.pre (hp2.trans pre_new)) fun _ _ h => nomatch h
 have q2 : ∀ H', H2 ++ [O.list ((p.fr.map fun r => cov r x).map V.bool)] <+: H' → Q (.bool ((p.fr.any fun r => cov r x) && !p.bu.any fun r => cov r x)) H' := fun H' hp => q1 H' (hp2.trans (pre_new.trans hp))
 generalize H2 ++ [O.list ((p.fr.map fun r => cov r x).map V.bool)] = H3 at *
 subst hK
 cases hfr : p.fr.any fun r => cov r x with
 | false => have := q2 H3 (List.prefix_refl _); rw [hfr] at this; exact this
 | true =>
  rw [hfr] at q2
  have lu := P2.lu
  show wpSs Θ8 (f_l_open.body.drop 2) _ _ _ _
  refine zs_cons ?_
  generalize hK : sqX Θ8 [] = K
  simp_arith only [P2.li, lu]
  refine ls_comp h0 p.bu [] H3 lu hf.2 fun H4 hp4 => ⟨by rw [List.nil_append, List.length_map, List.length_map]; lia, ?_⟩
  rw [List.nil_append]
  simp_arith only [listAt_new, bools_map, any_id]
  subst hK
  exact q2 _ (hp4.trans pre_new)
noncomputable def Θ9 : Orc := ext "_law_open" C_open Θ8
end Mine
namespace Mine
open PySem
noncomputable abbrev Me := Prs → List (Int × Int)
noncomputable def opn (me : Me) (p : Prs) (x : Int) : Bool := !(me p).any (inM x) && freeAt p x
noncomputable def lgd (me : Me) (ps : List Prs) (x : Int) : Bool := ps.all fun p => opn me p x
structure PB (me : Me) (p : Prs) : Prop where
 fit : p.fit
 zm : (me p).length ≤ 1000
 zf : p.fr.length ≤ 1000
 zu : p.bu.length ≤ 1000
theorem T9_op : Θ9 "_law_open" = C_open := rfl
inductive IC_all_open (H : Hp) (Q : V → Hp → Prop) : List V → Prop where
 | mk (n : Nat) (as : List Ad) (ps : List Prs) (me : Me) (a hours : Int) : listAt H n = some (refs as) → PsAt H me as ps → (∀ p ∈ ps, PB me p) → 0 ≤ a → sizeOk1 hours → (okW (lgd me ps) hours a → ∀ H', H <+: H' → Q (.bool true) H') → (¬ okW (lgd me ps) hours a → ∀ H', H <+: H' → Q (.bool false) H') → IC_all_open H Q [.ref n, .int a, .int hours]
noncomputable def C_all_open : Ctr := fun vs H Q _ => IC_all_open H Q vs
noncomputable abbrev aiB : List IS := [(.ite (.not (.call (.fn "_law_open") [(.loc 3), (.bin .Add (.loc 1) (.loc 4))])) [(.ret (.lit (.bool false)))] [])]
theorem ai_loop {XF : XS} {v0 v2 : V} {ad : Ad} {p : Prs} {me : Me} {a : Int} {t5 t6 t7 : Option V} {H0 : Hp} {Q : QS} (h0 : 0 ≤ a) (hb : PB me p) : ∀ (ks : List Int) (H : Hp) (t4 : Option V), H0 <+: H → PA H0 ad p (me p) → (∀ k ∈ ks, 0 ≤ k) →
  ((∀ k ∈ ks, opn me p (a + k) = true) → ∀ H' t4', H0 <+: H' → Q .next [some v0, some (.int a), some v2, some (.ref ad.i), t4', t5, t6, t7] H') → ((∃ k ∈ ks, opn me p (a + k) = false) → ∀ H' L', H0 <+: H' → Q (.ret (.bool false)) L' H') →
  forGo (whBX Θ9 aiB XF) (fun _ => True) 4 (ks.map V.int) [some v0, some (.int a), some v2, some (.ref ad.i), t4, t5, t6, t7] H Q := by
 intro ks
 induction ks with
 | nil => intro H t4 hp _ _ q _; exact q (fun _ h => nomatch h) H _ hp
 | cons k ks ih =>
  intro H t4 hp P hk q1 q2
  rw [List.map_cons, foX_cons]
  simp_arith only [↓T9_op]
  have k0 := hk k List.mem_cons_self
  refine ⟨ad, p, me p, a + k, P.fr (F := []) (Fr.pre hp) (fun _ _ h => nomatch h), hb.fit, by lia, hb.zm, hb.zf, hb.zu, fun H1 hp1 => ?_⟩
  simp_arith only [X_lit]
  have e : (!(me p).any (inM (a + k)) && freeAt p (a + k)) = opn me p (a + k) := rfl
  rw [e]
  cases ho : opn me p (a + k) with
  | false => exact q2 ⟨k, List.mem_cons_self, ho⟩ _ _ (hp.trans hp1)
  | true =>
   exact ih H1 _ (hp.trans hp1) P (fun k hk' => hk k (List.mem_cons_of_mem _ hk')) (fun h => q1 fun j hj => by
    rcases List.mem_cons.mp hj with rfl | hj
    ·exact ho
    ·exact h j hj) fun ⟨j, hj, h⟩ => q2 ⟨j, List.mem_cons_of_mem _ hj, h⟩
theorem ao_loop {XF : XS} {n : Nat} {me : Me} {a hours : Int} {t5 t6 t7 : Option V} {H0 : Hp} {Q : QS} {l : List V} (hl : listAt H0 n = some l) (h0 : 0 ≤ a) (hh : sizeOk1 hours) : ∀ (as : List Ad) (ps : List Prs) (H : Hp) (t3 t4 : Option V), H0 <+: H → PsAt H0 me as ps → (∀ p ∈ ps, PB me p) →
  ((∀ p ∈ ps, ∀ k ∈ rangeJ 0 hours, opn me p (a + k) = true) → ∀ H' L', H0 <+: H' → Q .next L' H') → ((∃ p ∈ ps, ∃ k ∈ rangeJ 0 hours, opn me p (a + k) = false) → ∀ H' L', H0 <+: H' → Q (.ret (.bool false)) L' H') →
  forGo (whBX Θ9 [(.for 4 .range (.loc 2) aiB)] XF) (fun H' => listAt H' n = some l) 3 (refs as) [some (.ref n), some (.int a), some (.int hours), t3, t4, t5, t6, t7] H Q := by
 intro as
 have e1 := hh.1
 have e2 := hh.2
 induction as with
 | nil => intro ps H t3 t4 hp P _ q _; obtain rfl : ps = [] := P; exact q (fun _ h => nomatch h) H _ hp
 | cons ad as ih =>
  rintro ps H t3 t4 hp ⟨p, qs, rfl, PP, P⟩ hb q1 q2
  rw [show refs (ad :: as) = .ref ad.i :: refs as from rfl, foX_cons]
  refine zs_cons ?_
  rw [Z_for, X_loc]
  refine ⟨⟨by lia, by lia⟩, ?_⟩
  rw [rangeL_J]
  refine ai_loop h0 (hb p List.mem_cons_self) _ H _ hp PP (fun k hk => (mem_rangeJ.mp hk).1) (fun ho H1 t4' hp1 => ?_) fun ⟨k, hk, ho⟩ H1 L' hp1 => q2 ⟨p, List.mem_cons_self, k, hk, ho⟩ H1 L' hp1
  exact ⟨listAt_pre hp1 hl, ih qs H1 _ _ hp1 P (fun p h => hb p (List.mem_cons_of_mem _ h)) (fun h => q1 fun p' hp' => by
   rcases List.mem_cons.mp hp' with rfl | hp'
   ·exact ho
   ·exact h p' hp') fun ⟨p', hp', h⟩ => q2 ⟨p', List.mem_cons_of_mem _ hp', h⟩⟩
theorem lgd_iff {me : Me} {ps : List Prs} {a hours : Int} : okW (lgd me ps) hours a ↔ ∀ p ∈ ps, ∀ k ∈ rangeJ 0 hours, opn me p (a + k) = true := by
 constructor
 ·intro h p hp k hk
  obtain ⟨k1, k2⟩ := mem_rangeJ.mp hk
  exact List.all_eq_true.mp (h (a + k) (by lia) (by lia)) p hp
 ·intro h x x1 x2
  refine List.all_eq_true.mpr fun p hp => ?_
  have := h p hp (x - a) (mem_rangeJ.mpr ⟨by lia, by lia⟩)
  rw [show a + (x - a) = x by lia] at this
  exact this
theorem w_all_open : ∀ vs H Q X, C_all_open vs H Q X → wpFn Θ9 f_l_all_open vs H Q X := by
 rintro vs H Q X ⟨n, as, ps, me, a, hours, hl, P, hb, h0, hh, q1, q2⟩
 refine fn_of rfl ?_
 change wpSs Θ9 f_l_all_open.body [some (.ref n), some (.int a), some (.int hours), none, none, none, none, none] H _ _
 refine zs_cons ?_
 generalize hK : sqX Θ9 (_ :: _) = K
 simp_arith only [hl]
 subst hK
 refine ao_loop hl h0 hh as ps H _ _ (List.prefix_refl _) P hb (fun h H' L' hp => ?_) fun ⟨p, hp, k, hk, ho⟩ H' L' hp' => ?_
 ·rw [sqX_next]
  exact q1 (lgd_iff.mpr h) H' hp
 ·exact q2 (fun h => by have := lgd_iff.mp h p hp k hk; rw [ho] at this; exact Bool.noConfusion this) H' hp'
noncomputable def Θa : Orc := ext "_law_all_open" C_all_open Θ9
theorem Ta_he : Θa "_law_heads" = C_heads := rfl
noncomputable abbrev alO : List V := [.str "also", .str "once"]
noncomputable abbrev fuE : List V := [.str "from", .str "until", .str "every"]
noncomputable abbrev slB : List IS := bdy (f_l_settled.body.getD 1 .fail)
section
variable {XF : XS} {v0 : V} {x : Int} {u : Str} {rest : List V} {t3 t4 t5 : Option V} {H H0 : Hp} {QF : QS}
theorem sl_one {b1 b2 b3 : Bool} {y1 y2 y3 : Int} (h1 : (u == Str.ofString "but") = b1) (h2 : memV (.str u) alO = some b2) (h3 : memV (.str u) fuE = some b3)
  (e1 : b1 = true → ∃ ds : List Int, 1 ≤ ds.length ∧ rest[0]? = some (intsV ds) ∧ y1 = max x (lastI ds * 24 + 24)) (f1 : b1 = false → y1 = x) (e2 : b2 = true → ∃ h, rest[0]? = some (.int h) ∧ y2 = max y1 (h + 1)) (f2 : b2 = false → y2 = y1) (e3 : b3 = true → ∃ h, rest[0]? = some (.int h) ∧ y3 = max y2 h) (f3 : b3 = false → y3 = y2)
  (q : ∀ H', H <+: H' → QF .next [some v0, some (.int y3), some (.tup (.str u :: rest)), t3, t4, t5] H') : wpSs Θa slB [some v0, some (.int x), some (.tup (.str u :: rest)), t3, t4, t5] H QF XF := by
 have st3 : ∀ H1, H <+: H1 → wpSs Θa (slB.drop 2) [some v0, some (.int y2), some (.tup (.str u :: rest)), t3, t4, t5] H1 QF XF := fun H1 hp => by
  refine zs_cons ?_
  generalize hK : sqX Θa [] = K
  simp_arith only [listAt_new, h3]
  refine iX_b (fun hb => ?_) (fun hb => ?_)
  ·refine e1_2 (e3 hb) fun h hr e => ?_
   simp_arith only [hr]
   subst hK
   rw [e] at q
   exact q _ (hp.trans pre_new)
  ·rw [f3 hb] at q; subst hK; exact q _ (hp.trans pre_new)
 have st2 : ∀ H1, H <+: H1 → wpSs Θa (slB.drop 1) [some v0, some (.int y1), some (.tup (.str u :: rest)), t3, t4, t5] H1 QF XF := fun H1 hp => by
  refine zs_cons ?_
  generalize hK : sqX Θa (_ :: _) = K
  simp_arith only [listAt_new, h2]
  refine iX_b (fun hb => ?_) (fun hb => ?_)
  ·refine e1_2 (e2 hb) fun h hr e => ?_
   simp_arith only [hr]
   subst hK
   rw [e] at st3
   exact st3 _ (hp.trans pre_new)
  ·rw [f2 hb] at st3; subst hK; exact st3 _ (hp.trans pre_new)
 refine zs_cons ?_
 generalize hK : sqX Θa (_ :: _) = K
 simp_arith only [h1]
 refine iX_b (fun hb => ?_) (fun hb => ?_)
 ·refine e1_3 (e1 hb) fun ds hd hr e => ?_
  simp_arith only [hr, intsV, idx_last hd]
  rw [e] at st2
  subst hK
  exact st2 _ (List.prefix_refl _)
 ·rw [f1 hb] at st2; subst hK; exact st2 _ (List.prefix_refl _)
end
theorem a_once : memV (.str "once") alO = some true := by decide
theorem a_every : memV (.str "every") alO = some false := by decide
theorem a_week : memV (.str "week") alO = some false := by decide
theorem a_month : memV (.str "month") alO = some false := by decide
theorem a_from : memV (.str "from") alO = some false := by decide
theorem a_until : memV (.str "until") alO = some false := by decide
theorem a_also : memV (.str "also") alO = some true := by decide
theorem a_but : memV (.str "but") alO = some false := by decide
theorem u_once : memV (.str "once") fuE = some false := by decide
theorem u_every : memV (.str "every") fuE = some true := by decide
theorem u_week : memV (.str "week") fuE = some false := by decide
theorem u_month : memV (.str "month") fuE = some false := by decide
theorem u_from : memV (.str "from") fuE = some true := by decide
theorem u_until : memV (.str "until") fuE = some true := by decide
theorem u_also : memV (.str "also") fuE = some false := by decide
theorem u_but : memV (.str "but") fuE = some false := by decide
theorem no_t {P : Prop} (h : false = true) : P := Bool.noConfusion h
theorem no_f {P : Prop} (h : true = false) : P := Bool.noConfusion h
section
variable {XF : XS} {v0 : V} {t3 t4 t5 : Option V} {n : Nat} {l0 : List V} {H0 : Hp} {Q : QS}
theorem sl_go (hl : listAt H0 n = some l0) : ∀ (r : Rl) (x : Int) (H : Hp) (t2 : Option V), 0 ≤ x → r.fine → H0 <+: H → (∀ H' t2', H0 <+: H' → Q .next [some v0, some (.int (stA r x)), t2', t3, t4, t5] H') →
  forGo (whBX Θa slB XF) (fun H' => listAt H' n = some l0) 2 (hds r) [some v0, some (.int x), t2, t3, t4, t5] H Q := by
 intro r
 induction r with
 | pl p =>
  intro x H t2 h0 hf hp q
  rw [show hds (.pl p) = [pv p] from rfl, foX_cons]
  have fin : ∀ y : Int, y = stA (.pl p) x → ∀ H', H <+: H' → (fkX (whBX Θa slB XF) (fun H' => listAt H' n = some l0) 2 [] Q) .next [some v0, some (.int y), some (pv p), t3, t4, t5] H' := fun y e H' hp' => by
   rw [e]; exact ⟨listAt_pre (hp.trans hp') hl, q H' _ (hp.trans hp')⟩
  cases p with
  | once h s => exact sl_one (y1 := x) (y2 := max x (h + 1)) (y3 := max x (h + 1)) sw_once_but a_once u_once no_t (fun _ => rfl) (fun _ => ⟨h, rfl, rfl⟩) no_f no_t (fun _ => rfl) (fin _ rfl)
  | every h s p => exact sl_one (y1 := x) (y2 := x) (y3 := max x h) sw_every_but a_every u_every no_t (fun _ => rfl) no_t (fun _ => rfl) (fun _ => ⟨h, rfl, rfl⟩) no_f (fin _ rfl)
  | week ds t s => exact sl_one (y1 := x) (y2 := x) (y3 := x) sw_week_but a_week u_week no_t (fun _ => rfl) no_t (fun _ => rfl) no_t (fun _ => rfl) (fin _ (by show x = max x 0; lia))
  | month d t s => exact sl_one (y1 := x) (y2 := x) (y3 := x) sw_month_but a_month u_month no_t (fun _ => rfl) no_t (fun _ => rfl) no_t (fun _ => rfl) (fin _ (by show x = max x 0; lia))
 | hd k r ih =>
  intro x H t2 h0 hf hp q
  rw [show hds (.hd k r) = rv (.hd k r) :: hds r from rfl, foX_cons]
  have fin : ∀ y : Int, y = max x k.stl → ∀ H', H <+: H' → (fkX (whBX Θa slB XF) (fun H' => listAt H' n = some l0) 2 (hds r) Q) .next [some v0, some (.int y), some (rv (.hd k r)), t3, t4, t5] H' := fun y e H' hp' => by
   rw [e]; exact ⟨listAt_pre (hp.trans hp') hl, ih _ H' _ (by lia) hf.2 (hp.trans hp') q⟩
  cases k with
  | frm h => exact sl_one (y1 := x) (y2 := x) (y3 := max x h) sw_from_but a_from u_from no_t (fun _ => rfl) no_t (fun _ => rfl) (fun _ => ⟨h, rfl, rfl⟩) no_f (fin _ rfl)
  | til h => exact sl_one (y1 := x) (y2 := x) (y3 := max x h) sw_until_but a_until u_until no_t (fun _ => rfl) no_t (fun _ => rfl) (fun _ => ⟨h, rfl, rfl⟩) no_f (fin _ rfl)
  | als h => exact sl_one (y1 := x) (y2 := max x (h + 1)) (y3 := max x (h + 1)) sw_also_but a_also u_also no_t (fun _ => rfl) (fun _ => ⟨h, rfl, rfl⟩) no_f no_t (fun _ => rfl) (fin _ rfl)
  | but ds => exact sl_one (y1 := max x (lastI ds * 24 + 24)) (y2 := max x (lastI ds * 24 + 24)) (y3 := max x (lastI ds * 24 + 24)) sw_but_but a_but u_but (fun _ => ⟨ds, hf.1.1, rfl, rfl⟩) no_f no_t (fun _ => rfl) no_t (fun _ => rfl) (fin _ (by show _ = max x (24 * (lastI ds + 1)); rw [show lastI ds * 24 + 24 = 24 * (lastI ds + 1) by lia]))
end
noncomputable def C_lsettled : Ctr := fun vs H Q _ => ∃ r : Rl, vs = [rv r] ∧ r.fine ∧ r.deep ≤ 7 ∧ ∀ H', H <+: H' → Q (.int r.stl) H'
theorem w_lsettled : ∀ vs H Q X, C_lsettled vs H Q X → wpFn Θa f_l_settled vs H Q X := by
 rintro vs H Q X ⟨r, rfl, hf, hd, q⟩
 refine fn_of rfl ?_
 change wpSs Θa f_l_settled.body [some (rv r), none, none, none, none, none] H _ _
 refine zs_cons ?_
 generalize hK : sqX Θa (_ :: _) = K
 simp_arith only [X_lit]
 subst hK
 refine zs_cons ?_
 generalize hK : sqX Θa (_ :: _) = K
 simp_arith only [↓Ta_he]
 refine ⟨r, rfl, hd, fun H1 hp1 => ?_⟩
 simp_arith only [listAt_new]
 refine sl_go listAt_new r 0 _ _ (Int.le_refl _) hf (List.prefix_refl _) fun H' t2' hp => ?_
 subst hK
 rw [sqX_next]
 exact q _ (hp1.trans (pre_new.trans hp))
noncomputable def Θb : Orc := ext "_law_settled" C_lsettled Θa
noncomputable def C_common : Ctr := fun vs H Q _ => ∃ a b : Nat, vs = [.int (a : Int), .int (b : Int)] ∧ 1 ≤ a ∧ 1 ≤ b ∧ (b : Int) < 2 ^ 128 ∧ Q (.int (Nat.lcm a b : Int)) H
theorem co_go {a b : Nat} {t3 t4 t5 : Option V} {H : Hp} {Q : QS} (ha : 1 ≤ a) (hb : 1 ≤ b) (hz : (b : Int) < 2 ^ 128) (q : Q .next [some (.int (a : Int)), some (.int (b : Int)), some (.int (Nat.lcm a b : Int)), t3, t4, t5] H) : ∀ (n j : Nat), Nat.lcm a b / a < j + n → j * a ≤ Nat.lcm a b → 1 ≤ j →
  whileGo (whTX Θb (.cmp (.bin .Mod (.loc 2) (.loc 1)) .NotEq (.lit (.int 0))) noX) (whBX Θb [(.assign 2 (.bin .Add (.loc 2) (.loc 0)))] noXS) n [some (.int (a : Int)), some (.int (b : Int)), some (.int ((j * a : Nat) : Int)), t3, t4, t5] H Q := by
 intro n
 have hl := Nat.lcm_pos (show 0 < a by lia) (show 0 < b by lia)
 have hJ : Nat.lcm a b / a * a = Nat.lcm a b := Nat.div_mul_cancel (Nat.dvd_lcm_left a b)
 induction n with
 | zero =>
  intro j h1 h2 _
  have := (Nat.le_div_iff_mul_le (show 0 < a by lia)).mpr h2
  lia
 | succ n ih =>
  intro j h1 h2 h3
  rw [whX_s]
  simp_arith only [X_lit]
  refine ⟨⟨by lia, by lia⟩, fun h => ?_, fun h => ?_⟩
  ·have hlt : j * a < Nat.lcm a b := Nat.lt_of_le_of_ne h2 fun e => h (by
    rw [e, ← Int.natCast_emod, Nat.mod_eq_zero_of_dvd (Nat.dvd_lcm_right a b)]; rfl)
   have hj : j < Nat.lcm a b / a := by
    refine Nat.lt_of_mul_lt_mul_right (a := a) ?_
    rw [hJ]; exact hlt
   have := ih (j + 1) (by lia) (by rw [← hJ]; exact Nat.mul_le_mul_right a hj) (by lia)
   rw [Nat.succ_mul, Int.natCast_add] at this
   exact this
  ·have hd : b ∣ j * a := Nat.dvd_of_mod_eq_zero (by have h := Classical.not_not.mp h; rw [← Int.natCast_emod] at h; lia)
   have := Nat.le_of_dvd (Nat.mul_pos (by lia) (by lia)) (Nat.lcm_dvd (Nat.dvd_mul_left a j) hd)
   rw [show j * a = Nat.lcm a b by lia]
   exact q
theorem w_common : ∀ vs H Q X, C_common vs H Q X → wpFn Θb f_l_common vs H Q X := by
 rintro vs H Q X ⟨a, b, rfl, ha, hb, hz, q⟩
 refine fn_of rfl ?_
 change wpSs Θb f_l_common.body [some (.int (a : Int)), some (.int (b : Int)), none, none, none, none] H _ _
 refine zs_cons ?_
 generalize hK : sqX Θb (_ :: _) = K
 simp_arith only [X_lit]
 subst hK
 refine zs_cons ?_
 rw [Z_while]
 have := co_go (a := a) (b := b) (t3 := none) (t4 := none) (t5 := none) (H := H) (Q := sqX Θb [.ret (.loc 2)] (fun fl _ H1 => Q (retV fl) H1) fun x _ H1 => X x H1) ha hb hz q (Nat.lcm a b / a + 1) 1 (by lia) (by rw [Nat.one_mul]; exact Nat.le_of_dvd (Nat.lcm_pos (by lia) (by lia)) (Nat.dvd_lcm_left a b)) (Nat.le_refl _)
 rw [Nat.one_mul] at this
 exact ⟨_, this⟩
noncomputable def Θc : Orc := ext "_law_common" C_common Θb
end Mine
namespace Mine
open PySem
noncomputable def Pl.com (p : Pl) (a : Nat) : Nat := match p with
 | .once _ _ => a
 | .every _ _ p => Nat.lcm p.toNat a
 | .week _ _ _ => Nat.lcm 168 a
 | .month _ _ _ => 35064 * a
noncomputable def lrn : List Rl → Nat → Nat
 | [], a => a
 | r :: rs, a => lrn rs (r.inner.com a)
noncomputable def lrB : List Rl → Nat → Prop
 | [], _ => True
 | r :: rs, a => (a : Int) < 2 ^ 128 ∧ lrB rs (r.inner.com a)
theorem lrn_app : ∀ (rs ss : List Rl) (a : Nat), lrn (rs ++ ss) a = lrn ss (lrn rs a)
 | [], _, _ => rfl
 | _ :: rs, ss, _ => lrn_app rs ss _
theorem lrB_app : ∀ (rs ss : List Rl) (a : Nat), lrB (rs ++ ss) a ↔ lrB rs a ∧ lrB ss (lrn rs a)
 | [], ss, a => ⟨fun h => ⟨trivial, h⟩, And.right⟩
 | _ :: rs, ss, a => ⟨fun ⟨h1, h2⟩ => ⟨⟨h1, ((lrB_app rs ss _).mp h2).1⟩, ((lrB_app rs ss _).mp h2).2⟩, fun ⟨⟨h1, h2⟩, h3⟩ => ⟨h1, (lrB_app rs ss _).mpr ⟨h2, h3⟩⟩⟩
theorem com_pos {p : Pl} {a : Nat} (hf : p.fine) (ha : 1 ≤ a) : 1 ≤ p.com a := by
 cases p with
 | once h s => exact ha
 | every h s p =>
  have := hf.2.2.1
  exact Nat.lcm_pos (by lia) ha
 | week ds t s => exact Nat.lcm_pos (by decide) ha
 | month d t s => show 1 ≤ 35064 * a; lia
theorem Tc_he : Θc "_law_heads" = C_heads := rfl
theorem Tc_ls : Θc "_law_settled" = C_lsettled := rfl
theorem Tc_co : Θc "_law_common" = C_common := rfl
noncomputable abbrev wrB : List IS := bdy ((bdy (f_l_walk.body.getD 2 .fail)).getD 0 .fail)
noncomputable abbrev wmB : List IS := bdy ((bdy (f_l_walk.body.getD 2 .fail)).getD 1 .fail)
section
variable {Φ : Orc} {u w : Str} {rest : List V} {v0 v1 v2 v3 v4 v5 : Option V} {Lr : Lc} {H : Hp} {a : List IS} {QF : QS} {XF : XS}
theorem i6_ne (he : (u == w) = false) (h : QF .next (v0 :: v1 :: v2 :: v3 :: v4 :: v5 :: some (.tup (.str u :: rest)) :: Lr) H) : wpS Φ (.ite (.cmp (.sub (.loc 6) (.lit (.int 0))) .Eq (.lit (.str w))) a []) (v0 :: v1 :: v2 :: v3 :: v4 :: v5 :: some (.tup (.str u :: rest)) :: Lr) H QF XF := by
 show ifP (u == w) _ _
 rw [he]; exact h
theorem i6_eq (he : (u == w) = true) (h : wpSs Φ a (v0 :: v1 :: v2 :: v3 :: v4 :: v5 :: some (.tup (.str u :: rest)) :: Lr) H QF XF) : wpS Φ (.ite (.cmp (.sub (.loc 6) (.lit (.int 0))) .Eq (.lit (.str w))) a []) (v0 :: v1 :: v2 :: v3 :: v4 :: v5 :: some (.tup (.str u :: rest)) :: Lr) H QF XF := by
 show ifP (u == w) _ _
 rw [he]; exact h
theorem wr_one {a : Nat} {p : Pl} (hf : p.fine) (ha : 1 ≤ a) (hz : (a : Int) < 2 ^ 128) (q : QF .next (v0 :: v1 :: some (.int (p.com a : Int)) :: v3 :: v4 :: v5 :: some (pv p) :: Lr) H) :
  wpSs Θc (wrB.drop 2) (v0 :: v1 :: some (.int (a : Int)) :: v3 :: v4 :: v5 :: some (pv p) :: Lr) H QF XF := by
 cases p with
 | once h s => exact zs_cons (i6_ne sw_once_month (zs_cons (i6_ne sw_once_every (zs_cons (i6_ne sw_once_week q)))))
 | every h s p =>
  have h1 := hf.2.2.1
  refine zs_cons (i6_ne sw_every_month (zs_cons (i6_eq sw_every_every (zs_cons ?_))))
  generalize hK : sqX Θc [] = K
  simp_arith only [↓Tc_co]
  refine ⟨p.toNat, a, by rw [show ((p.toNat : Nat) : Int) = p by lia], by lia, ha, hz, ?_⟩
  subst hK
  exact zs_cons (i6_ne sw_every_week q)
 | week ds t s =>
  refine zs_cons (i6_ne sw_week_month (zs_cons (i6_ne sw_week_every (zs_cons (i6_eq sw_week_week (zs_cons ?_))))))
  generalize hK : sqX Θc [] = K
  simp_arith only [↓Tc_co]
  refine ⟨168, a, rfl, by decide, ha, hz, ?_⟩
  subst hK
  exact q
 | month d t s =>
  refine zs_cons (i6_eq sw_month_month (zs_cons ?_))
  have e : ((35064 : Int) * (a : Int)) = (((Pl.month d t s).com a : Nat) : Int) := by show _ = ((35064 * a : Nat) : Int); lia
  generalize hK : sqX Θc [] = K
  simp_arith only [X_lit]
  subst hK
  rw [e]
  exact zs_cons (i6_ne sw_month_every (zs_cons (i6_ne sw_month_week q)))
end
theorem wr_loop {XF : XS} {v0 v1 v4 : V} {t7 t8 t9 t10 : Option V} {n : Nat} {l : List V} {H0 : Hp} {Q : QS} (hl : listAt H0 n = some l) : ∀ (rs : List Rl) (P : Int → Prop) (x : Int) (a : Nat) (H : Hp) (t5 t6 : Option V), H0 <+: H → (∀ r ∈ rs, r.fine ∧ r.deep ≤ 7) → 1 ≤ a → lrB rs a → Mx P x →
  (∀ x' t5' t6' H', H0 <+: H' → 1 ≤ lrn rs a → Mx (fun y => P y ∨ ∃ r ∈ rs, y = r.stl) x' → Q .next [some v0, some v1, some (.int (lrn rs a : Int)), some (.int x'), some v4, t5', t6', t7, t8, t9, t10] H') →
  forGo (whBX Θc wrB XF) (fun H' => listAt H' n = some l) 5 (rs.map rv) [some v0, some v1, some (.int (a : Int)), some (.int x), some v4, t5, t6, t7, t8, t9, t10] H Q := by
 intro rs
 induction rs with
 | nil => intro P x a H t5 t6 hp _ ha _ M q; exact q x _ _ H hp ha M.nil
 | cons r rs ih =>
  intro P x a H t5 t6 hp hf ha hz M q
  obtain ⟨f1, f2⟩ := hf r List.mem_cons_self
  rw [List.map_cons, foX_cons]
  refine zs_cons ?_
  generalize hK : sqX Θc (_ :: _) = K
  simp_arith only [↓Tc_he]
  refine ⟨r, rfl, f2, fun H1 hp1 => ?_⟩
  simp_arith only [listAt_new, hds_last]
  have p2 := (hp.trans hp1).trans (pre_new (o := .list (hds r)))
  generalize H1 ++ [O.list (hds r)] = H2 at *
  subst hK
  refine zs_cons ?_
  generalize hK : sqX Θc (_ :: _) = K
  simp_arith only [↓Tc_ls]
  refine ⟨r, rfl, f1, f2, fun H3 hp3 => ?_⟩
  simp_arith only [X_lit]
  subst hK
  have p3 := p2.trans hp3
  refine wr_one f1.inner ha hz.1 ⟨listAt_pre p3 hl, ih _ _ _ H3 _ _ p3 (fun r h => hf r (List.mem_cons_of_mem _ h)) (com_pos f1.inner ha) hz.2 (M.add r.stl) fun x' t5' t6' H' hp' h1 M' => q x' t5' t6' H' hp' h1 (M'.cons fun _ => Iff.rfl)⟩
theorem wm_loop {XF : XS} {v0 v1 v2 v4 : V} {t5 t6 t8 t9 t10 : Option V} {H : Hp} {Q : QS} {st : Hp → Prop} (hst : st H) : ∀ (ms : List (Int × Int)) (P : Int → Prop) (x : Int) (t7 : Option V), Mx P x →
  (∀ x' t7', Mx (fun y => P y ∨ ∃ q ∈ ms, y = q.1 + q.2) x' → Q .next [some v0, some v1, some v2, some (.int x'), some v4, t5, t6, t7', t8, t9, t10] H) →
  forGo (whBX Θc wmB XF) st 7 (ms.map metV) [some v0, some v1, some v2, some (.int x), some v4, t5, t6, t7, t8, t9, t10] H Q := by
 intro ms
 induction ms with
 | nil => intro P x t7 M q; exact q x _ M.nil
 | cons m ms ih =>
  intro P x t7 M q
  rw [List.map_cons, show metV m = .tup [.int m.1, .int m.2] from rfl, foX_cons]
  refine zs_cons ?_
  simp_arith only [X_lit]
  exact ⟨hst, ih _ _ _ (M.add (m.1 + m.2)) fun x' t7' M' => q x' t7' (M'.cons fun _ => Iff.rfl)⟩
structure WB (me : Me) (p : Prs) : Prop where
 fine : ∀ r ∈ p.fr ++ p.bu, r.fine ∧ r.deep ≤ 7
 zr : p.fr.length + p.bu.length ≤ 1000
noncomputable def lE (me : Me) (p : Prs) (x : Int) : Prop := (∃ r ∈ p.fr ++ p.bu, x = r.stl) ∨ ∃ q ∈ me p, x = q.1 + q.2
noncomputable abbrev wpB : List IS := bdy (f_l_walk.body.getD 2 .fail)
theorem wk_loop {XF : XS} {n : Nat} {v1 : V} {me : Me} {l : List V} {t8 t9 t10 : Option V} {H0 : Hp} {Q : QS} (hl : listAt H0 n = some l) : ∀ (as : List Ad) (ps : List Prs) (P : Int → Prop) (x : Int) (a : Nat) (H : Hp) (t4 t5 t6 t7 : Option V), H0 <+: H → PsAt H0 me as ps → (∀ p ∈ ps, WB me p) → 1 ≤ a → lrB (rulesOf ps) a → Mx P x →
  (∀ x' L' H', H0 <+: H' → Mx (fun y => P y ∨ ∃ p ∈ ps, lE me p y) x' → Q .next (some (.ref n) :: some v1 :: some (.int (lrn (rulesOf ps) a : Int)) :: some (.int x') :: L') H') →
  forGo (whBX Θc wpB XF) (fun H' => listAt H' n = some l) 4 (refs as) [some (.ref n), some v1, some (.int (a : Int)), some (.int x), t4, t5, t6, t7, t8, t9, t10] H Q := by
 intro as
 induction as with
 | nil => intro ps P x a H t4 t5 t6 t7 hp D _ _ _ M q; obtain rfl : ps = [] := D; exact q x _ H hp M.nil
 | cons ad as ih =>
  rintro ps P x a H t4 t5 t6 t7 hp ⟨p, qs, rfl, PP, D⟩ hb ha hz M q
  have W := hb p List.mem_cons_self
  have A : PA H ad p (me p) := PP.fr (F := []) (Fr.pre hp) (fun _ _ h => nomatch h)
  rw [rulesOf_cons] at hz q
  rw [lrB_app] at hz
  rw [lrn_app] at q
  rw [show refs (ad :: as) = .ref ad.i :: refs as from rfl, foX_cons]
  refine zs_cons ?_
  generalize hK : sqX Θc (_ :: _) = K
  simp_arith only [A.li, A.lf, A.lu, List.length_map]
  have hw := W.zr
  refine ⟨by lia, ?_⟩
  rw [← List.map_append]
  have l1 := listAt_new (H := H) (l := (p.fr ++ p.bu).map rv)
  have p1 : H <+: H ++ [.list ((p.fr ++ p.bu).map rv)] := pre_new
  generalize H.length = i at *
  generalize H ++ [O.list ((p.fr ++ p.bu).map rv)] = H1 at *
  simp_arith only [l1]
  refine wr_loop l1 _ P x a H1 _ _ (List.prefix_refl _) W.fine ha hz.1 M fun x1 t5' t6' H2 hp2 h1 M1 => ?_
  subst hK
  have p2 := (hp.trans p1).trans hp2
  have A2 : PA H2 ad p (me p) := PP.fr (F := []) (Fr.pre p2) (fun _ _ h => nomatch h)
  refine zs_cons ?_
  generalize hK : sqX Θc _ = K
  have le := A2.le
  simp_arith only [A2.li, le]
  refine wm_loop le _ _ x1 _ M1 fun x2 t7' M2 => ?_
  subst hK
  refine ⟨listAt_pre p2 hl, ih qs _ x2 _ H2 _ _ _ _ p2 D (fun p h => hb p (List.mem_cons_of_mem _ h)) h1 hz.2 M2 fun x' L' H' hp' M' => q x' L' H' hp' (M'.cons fun y => ?_)⟩
  exact or_assoc
noncomputable def lP (me : Me) (ps : List Prs) (x : Int) : Prop := False ∨ ∃ p ∈ ps, lE me p x
noncomputable def lwalk (ps : List Prs) (m lo : Int) : Int := (lrn (rulesOf ps) 1 : Int) + max 0 (m + 48 - lo)
inductive IC_walk (H : Hp) (Q : V → Hp → Prop) : List V → Prop where
 | mk (n : Nat) (as : List Ad) (ps : List Prs) (me : Me) (lo : Int) : listAt H n = some (refs as) → PsAt H me as ps → (∀ p ∈ ps, WB me p) → lrB (rulesOf ps) 1 → (∀ m H', H <+: H' → Mx (lP me ps) m → Q (.int (lwalk ps m lo)) H') → IC_walk H Q [.ref n, .int lo]
noncomputable def C_walk : Ctr := fun vs H Q _ => IC_walk H Q vs
theorem w_walk : ∀ vs H Q X, C_walk vs H Q X → wpFn Θc f_l_walk vs H Q X := by
 rintro vs H Q X ⟨n, as, ps, me, lo, hl, D, hb, hz, q⟩
 refine fn_of rfl ?_
 change wpSs Θc f_l_walk.body [some (.ref n), some (.int lo), none, none, none, none, none, none, none, none, none] H _ _
 refine zs_cons ?_
 generalize hK : sqX Θc (_ :: _) = K
 simp_arith only [X_lit]
 subst hK
 refine zs_cons ?_
 generalize hK : sqX Θc (_ :: _) = K
 simp_arith only [X_lit]
 subst hK
 refine zs_cons ?_
 generalize hK : sqX Θc (_ :: _) = K
 simp_arith only [hl]
 refine wk_loop hl as ps _ 0 1 H _ _ _ _ (List.prefix_refl _) D hb (Nat.le_refl _) hz Mx.zero fun m L' H' hp M => ?_
 subst hK
 exact q m H' hp M
noncomputable def Θd : Orc := ext "_law_walk" C_walk Θc
end Mine
namespace Mine
open PySem
theorem Td_ao : Θd "_law_all_open" = C_all_open := rfl
theorem Td_wk : Θd "_law_walk" = C_walk := rfl
theorem Td_wh : Θd "_law_whole" = C_whole := rfl
theorem Td_ce : Θd "_law_cell_at" = C_cell_at := rfl
structure Lw (H : Hp) (n : Nat) (as : List Ad) (me : Me) (ps : List Prs) : Prop where
 l : listAt H n = some (refs as)
 P : PsAt H me as ps
 hb : ∀ p ∈ ps, PB me p
 hw : ∀ p ∈ ps, WB me p
theorem Lw.pre {H H' : Hp} {n : Nat} {as : List Ad} {me : Me} {ps : List Prs} (L : Lw H n as me ps) (h : H <+: H') : Lw H' n as me ps := ⟨listAt_pre h L.l, L.P.pre h, L.hb, L.hw⟩
section
variable {H0 : Hp} {n : Nat} {as : List Ad} {me : Me} {ps : List Prs} {hours lo : Int}
theorem c_no {H : Hp} {a : Int} {Q : V → Hp → Prop} {X : XL} (A : Lw H n as me ps) (h0 : 0 ≤ a) (hh : sizeOk1 hours) (hn : ¬ okW (lgd me ps) hours a) (q : ∀ H', H <+: H' → Q (.bool false) H') : C_all_open [.ref n, .int a, .int hours] H Q X := ⟨n, as, ps, me, a, hours, A.l, A.P, A.hb, h0, hh, fun h => absurd h hn, fun _ => q⟩
theorem ho_comp {t0 t2 t5 t6 t7 t8 t9 t10 t11 : Option V} {X : XL} {Q : List V → Hp → Prop} (A : Lw H0 n as me ps) (h0 : 0 ≤ lo) (hh : sizeOk1 hours) : ∀ (ks : List Int) (bs : List Bool) (H : Hp), H0 <+: H → (∀ k ∈ ks, 0 ≤ k ∧ ¬ okW (lgd me ps) hours (lo + k)) → bs.any id = false →
  (∀ (bs' : List Bool) H', H0 <+: H' → bs'.any id = false → bs'.length = bs.length + ks.length → Q (bs'.map V.bool) H') →
  compGo (coEX Θd (.call (.fn "_law_all_open") [(.loc 1), (.bin .Add (.loc 4) (.loc 9)), (.loc 3)]) X) (fun _ => True) 9 [t0, some (.ref n), t2, some (.int hours), some (.int lo), t5, t6, t7, t8, t9, t10, t11] (ks.map V.int) (bs.map V.bool) H Q := by
 intro ks
 induction ks with
 | nil => intro bs H hp _ hb q; exact q bs H hp hb rfl
 | cons k ks ih =>
  intro bs H hp hk hb q
  obtain ⟨k0, k1⟩ := hk k List.mem_cons_self
  rw [List.map_cons, coX_cons]
  simp_arith only [↓Td_ao]
  refine c_no (A.pre hp) (by lia) hh k1 fun H1 hp1 => ?_
  have := ih (bs ++ [false]) H1 (hp.trans hp1) (fun j hj => hk j (List.mem_cons_of_mem _ hj)) (by rw [List.any_append, hb]; rfl) fun bs' H' hp' h1 h2 => q bs' H' hp' h1 (by rw [h2, List.length_append, List.length_cons, List.length_cons, List.length_nil]; lia)
  rw [List.map_append] at this
  exact this
noncomputable def thn : IS → List IS
 | .ite _ a _ => a
 | _ => []
inductive IC_holds (H : Hp) (Q : V → Hp → Prop) : List V → Prop where
 | mk (ns : List Int) (n : Nat) (as : List Ad) (me : Me) (ps : List Prs) (v : V) (hours lo : Int) : ns.length ≤ 1000 → Lw H n as me ps → sizeOk1 hours → 0 ≤ lo → lrB (rulesOf ps) 1 → (∀ m, Mx (lP me ps) m → 1 ≤ lwalk ps m lo ∧ lwalk ps m lo ≤ 5000) →
   (v = .none ∧ (∀ x, lo ≤ x → ¬ okW (lgd me ps) hours x) ∨ ∃ a, v = .int a ∧ lo ≤ a ∧ a ≤ lo + 5000 ∧ okW (lgd me ps) hours a ∧ ∀ x, lo ≤ x → x < a → ¬ okW (lgd me ps) hours x) → (∀ H', H <+: H' → Q (.bool true) H') → IC_holds H Q [.scr ns, .ref n, v, .int hours, .int lo]
noncomputable def C_holds : Ctr := fun vs H Q _ => IC_holds H Q vs
theorem w_holds : ∀ vs H Q X, C_holds vs H Q X → wpFn Θd f_l_holds vs H Q X := by
 rintro vs H Q X ⟨ns, n, as, me, ps, v, hours, lo, hz, A, hh, h0, hr, hw, hv, q⟩
 refine fn_of rfl ?_
 change wpSs Θd f_l_holds.body [some (.scr ns), some (.ref n), some v, some (.int hours), some (.int lo), none, none, none, none, none, none, none] H _ _
 refine zs_cons ?_
 generalize hK : sqX Θd (_ :: _) = K
 simp_arith only [↓Td_ce, cc_cell]
 refine ⟨hz, ?_⟩
 generalize cell ns 6 = c
 subst hK
 rcases hv with ⟨rfl, no⟩ | ⟨a, rfl, ha, hb, ok, no⟩
 ·refine zs_cons ?_
  show wpSs Θd (thn (f_l_holds.body.getD 1 .fail)) [some (.scr ns), some (.ref n), some .none, some (.int hours), some (.int lo), some (.int c), none, none, none, none, none, none] H _ _
  refine zs_cons ?_
  generalize hK : sqX Θd (_ :: _) = K
  simp_arith only [↓Td_wk]
  refine ⟨n, as, ps, me, lo, A.l, A.P, A.hw, hr, fun m H1 hp1 M => ?_⟩
  obtain ⟨w1, w2⟩ := hw m M
  generalize lwalk ps m lo = w at w1 w2 ⊢
  subst hK
  have A1 := A.pre hp1
  have c1 := Int.emod_nonneg c (show w ≠ 0 by lia)
  refine zs_cons ?_
  generalize hK : sqX Θd (_ :: _) = K
  simp_arith only [X_lit]
  refine ⟨⟨by lia, by lia⟩, ?_⟩
  subst hK
  generalize c % w = cw at c1 ⊢
  refine zs_cons ?_
  generalize hK : sqX Θd (_ :: _) = K
  simp_arith only [X_lit]
  refine ⟨⟨by lia, by lia⟩, ?_⟩
  rw [rangeL_J]
  refine ho_comp A1 h0 hh _ [] H1 (List.prefix_refl _) (fun k hk => ?_) rfl fun bs H2 hp2 hb1 hb2 => ⟨?_, ?_⟩
  ·have := (mem_rangeJ.mp hk).1
   exact ⟨this, no _ (by lia)⟩
  ·rw [List.length_map, hb2]
   show 0 + (List.map _ (List.range _)).length ≤ _
   rw [List.length_map, List.length_range]; lia
  have A2 := A1.pre (hp2.trans (pre_new (o := .list (bs.map V.bool))))
  have p2 := hp1.trans (hp2.trans (pre_new (o := .list (bs.map V.bool))))
  simp_arith only [listAt_new, bools_map, hb1]
  subst hK
  generalize H2 ++ [O.list (bs.map V.bool)] = H3 at *
  refine zs_cons ?_
  generalize hK : sqX Θd (_ :: _) = K
  simp_arith only [↓Td_ce, cc_cell]
  refine ⟨hz, ?_⟩
  have c2 := Int.emod_nonneg (cell ns 7) (show (1000000000000000000000000000000 : Int) ≠ 0 by decide)
  subst hK
  refine zs_cons ?_
  simp_arith only [↓Td_ao]
  refine c_no A2 (by lia) hh (no _ (by lia)) fun H4 hp4 => ?_
  simp_arith only [↓Td_ao]
  refine c_no (A2.pre hp4) (by lia) hh (no _ (by lia)) fun H5 hp5 => ?_
  simp_arith only [X_lit]
  exact q H5 (p2.trans (hp4.trans hp5))
 ·refine zs_cons ?_
  generalize hK : sqX Θd (_ :: _) = K
  simp_arith only [isNoneV]
  subst hK
  refine zs_cons ?_
  generalize hK : sqX Θd (_ :: _) = K
  simp_arith only [↓Td_wh]
  refine ⟨a, rfl, ?_⟩
  simp_arith only [↓Td_ao]
  refine ⟨fun h => absurd h (by lia), fun _ => ?_⟩
  refine ⟨n, as, ps, me, a, hours, A.l, A.P, A.hb, by lia, hh, fun _ H1 hp1 => ?_, fun h => absurd ok h⟩
  simp_arith only [X_lit]
  subst hK
  have A1 := A.pre hp1
  refine zs_cons ?_
  generalize hK : sqX Θd (_ :: _) = K
  simp_arith only [X_lit]
  refine ⟨⟨by lia, by lia⟩, ?_⟩
  rw [rangeL_J]
  refine ho_comp A1 h0 hh _ [] H1 (List.prefix_refl _) (fun k hk => ?_) rfl fun bs H2 hp2 hb1 hb2 => ⟨?_, ?_⟩
  ·obtain ⟨k1, k2⟩ := mem_rangeJ.mp hk
   exact ⟨k1, no _ (by lia) (by lia)⟩
  ·rw [List.length_map, hb2]
   show 0 + (List.map _ (List.range _)).length ≤ _
   rw [List.length_map, List.length_range]; lia
  have A2 := A1.pre (hp2.trans (pre_new (o := .list (bs.map V.bool))))
  have p2 := hp1.trans (hp2.trans (pre_new (o := .list (bs.map V.bool))))
  simp_arith only [listAt_new, bools_map, hb1]
  subst hK
  generalize H2 ++ [O.list (bs.map V.bool)] = H3 at *
  refine zs_cons ?_
  simp_arith only [↓Td_ao]
  refine ⟨fun e => ?_, fun e => ⟨⟨by lia, by lia⟩, ?_⟩⟩
  ·rw [decide_eq_true e]; exact q H3 p2
  ·have c1 := Int.emod_nonneg c (show a - lo ≠ 0 by lia)
   have c2 := Int.emod_lt_of_pos c (show 0 < a - lo by lia)
   refine c_no A2 (by lia) hh (no _ (by lia) (by lia)) fun H4 hp4 => ?_
   simp_arith only [X_lit]
   exact q H4 (p2.trans hp4)
end
noncomputable def Θe : Orc := ext "_law_holds" C_holds Θd
end Mine
namespace Mine
open PySem
noncomputable def ml (hs : List Mtg) : Me := fun p => (hs.filter fun m => m.who.contains p.nm).map fun m => (m.hr, m.sz)
theorem ml_mem {hs : List Mtg} {p : Prs} {q : Int × Int} : q ∈ ml hs p ↔ ∃ m ∈ hs, m.who.contains p.nm = true ∧ q = (m.hr, m.sz) := by
 unfold ml
 rw [List.mem_map]
 exact ⟨fun ⟨m, h, e⟩ => ⟨m, (List.mem_filter.mp h).1, (List.mem_filter.mp h).2, e.symm⟩, fun ⟨m, h1, h2, e⟩ => ⟨m, List.mem_filter.mpr ⟨h1, h2⟩, e.symm⟩⟩
theorem ml_len {hs : List Mtg} {p : Prs} : (ml hs p).length ≤ hs.length := by
 unfold ml
 rw [List.length_map]; exact List.length_filter_le _ _
theorem ml_any {hs : List Mtg} (hn : ∀ m ∈ hs, m.no ≠ 0) {p : Prs} {x : Int} : (ml hs p).any (inM x) = meets 0 hs p.nm x := by
 rw [Bool.eq_iff_iff, List.any_eq_true]
 unfold meets
 rw [List.any_eq_true]
 constructor
 ·rintro ⟨q, hq, e⟩
  refine e1_3 (ml_mem.mp hq) fun m h1 h2 e_243 => ?_
  obtain rfl := e_243
  have e : (decide (m.hr ≤ x) && decide (x < m.hr + m.sz)) = true := e
  exact ⟨m, h1, by rw [decide_eq_true (hn m h1), h2, e]; rfl⟩
 ·rintro ⟨m, h1, e⟩
  rw [Bool.and_eq_true, Bool.and_eq_true] at e
  exact ⟨(m.hr, m.sz), ml_mem.mpr ⟨m, h1, e.2.1, rfl⟩, e.2.2⟩
theorem opn_fre {hs : List Mtg} (hn : ∀ m ∈ hs, m.no ≠ 0) {p : Prs} {x : Int} (h0 : 0 ≤ x) : opn (ml hs) p x = fre 0 hs p x := by
 unfold opn fre
 rw [ml_any hn, decide_eq_false (show ¬ x < 0 by lia)]; rfl
theorem ok_same {hs : List Mtg} (hn : ∀ m ∈ hs, m.no ≠ 0) {ps : List Prs} {hours x : Int} (h0 : 0 ≤ x) : okW (lgd (ml hs) ps) hours x ↔ okW (gd 0 hs ps) hours x := by
 have e : ∀ y, 0 ≤ y → lgd (ml hs) ps y = gd 0 hs ps y := fun y hy => all_cong fun p _ => opn_fre hn hy
 exact ⟨fun h y y1 y2 => by rw [← e y (by lia)]; exact h y y1 y2, fun h y y1 y2 => by rw [e y (by lia)]; exact h y y1 y2⟩
theorem qP_lP {hs : List Mtg} {ps : List Prs} (x : Int) : qP ps hs x ↔ lP (ml hs) ps x := by
 constructor
 ·rintro ((h | ⟨r, hr, e⟩) | ⟨m, hm, p, hp, hw, e⟩)
  ·exact .inl h
  ·refine e1_2 (mem_rulesOf.mp hr) fun p hp hr => ?_
   exact .inr ⟨p, hp, .inl ⟨r, hr, e⟩⟩
  ·exact .inr ⟨p, hp, .inr ⟨_, ml_mem.mpr ⟨m, hm, hw, rfl⟩, e⟩⟩
 ·rintro (h | ⟨p, hp, ⟨r, hr, e⟩ | ⟨q, hq, e⟩⟩)
  ·exact h.elim
  ·exact .inl (.inr ⟨r, mem_rulesOf.mpr ⟨p, hp, hr⟩, e⟩)
  ·refine e1_3 (ml_mem.mp hq) fun m hm hw e_244 => ?_
   obtain rfl := e_244
   exact .inr ⟨m, hm, p, hp, hw, e⟩
noncomputable def prd : List Rl → Nat
 | [] => 1
 | r :: rs => r.rn * prd rs
theorem prd_pos : ∀ (rs : List Rl), (∀ r ∈ rs, r.fine) → 1 ≤ prd rs
 | [], _ => Nat.le_refl _
 | r :: rs, h => Nat.mul_pos (h r List.mem_cons_self).inner.rn.1 (prd_pos rs fun r hr => h r (List.mem_cons_of_mem _ hr))
theorem com_le {p : Pl} {a : Nat} (hf : p.fine) (ha : 1 ≤ a) : p.com a ≤ p.rn * a := by
 cases p with
 | once h s => show a ≤ 1 * a; lia
 | every h s p =>
  exact Nat.le_of_dvd (Nat.mul_pos hf.rn.1 ha) (Nat.lcm_dvd (Nat.dvd_mul_right _ _) (Nat.dvd_mul_left _ _))
 | week ds t s => exact Nat.le_of_dvd (Nat.mul_pos hf.rn.1 ha) (Nat.lcm_dvd (Nat.dvd_mul_right _ _) (Nat.dvd_mul_left _ _))
 | month d t s => exact Nat.le_refl _
theorem lrB_of : ∀ (rs : List Rl) (a : Nat), (∀ r ∈ rs, r.fine) → 1 ≤ a → a * prd rs < 2 ^ 128 → lrB rs a
 | [], _, _, _, _ => trivial
 | r :: rs, a, hf, ha, h => by
  have f := (hf r List.mem_cons_self).inner
  have hp := prd_pos rs fun r hr => hf r (List.mem_cons_of_mem _ hr)
  have h : a * (r.rn * prd rs) < 2 ^ 128 := h
  have c := com_le f ha
  have h1 : a * 1 ≤ a * (r.rn * prd rs) := Nat.mul_le_mul_left a (Nat.mul_pos f.rn.1 hp)
  refine ⟨by lia, lrB_of rs _ (fun r hr => hf r (List.mem_cons_of_mem _ hr)) (com_pos f ha) (Nat.lt_of_le_of_lt (Nat.mul_le_mul_right (prd rs) c) ?_)⟩
  rw [show r.inner.rn * a * prd rs = a * (r.inner.rn * prd rs) by rw [Nat.mul_comm r.inner.rn a, Nat.mul_assoc]]
  exact h
theorem com_ge {p : Pl} {a : Nat} (hf : p.fine) (ha : 1 ≤ a) : a ≤ p.com a := by
 cases p with
 | once h s => exact Nat.le_refl _
 | every h s p =>
  have := hf.2.2.1
  exact Nat.le_of_dvd (Nat.lcm_pos (by lia) ha) (Nat.dvd_lcm_right _ _)
 | week ds t s => exact Nat.le_of_dvd (Nat.lcm_pos (by decide) ha) (Nat.dvd_lcm_right _ _)
 | month d t s => show a ≤ 35064 * a; lia
theorem com_noM {p : Pl} {a : Nat} (h : p.noM = true) : p.com a = Nat.lcm a p.rn := by
 cases p with
 | once h s => exact (Nat.lcm_one_right a).symm
 | every h s p => exact Nat.lcm_comm _ _
 | week ds t s => exact Nat.lcm_comm _ _
 | month d t s => exact Bool.noConfusion h
theorem lrn_ge : ∀ (rs : List Rl) (a : Nat), (∀ r ∈ rs, r.fine) → 1 ≤ a → a ≤ lrn rs a
 | [], _, _, _ => Nat.le_refl _
 | r :: rs, a, hf, ha => Nat.le_trans (com_ge (hf r List.mem_cons_self).inner ha) (lrn_ge rs _ (fun r hr => hf r (List.mem_cons_of_mem _ hr)) (com_pos (hf r List.mem_cons_self).inner ha))
theorem lrn_noM : ∀ (rs : List Rl) (a : Nat), (∀ r ∈ rs, r.inner.noM = true) → lrn rs a = lcmL (rs.map Rl.rn) a
 | [], _, _ => rfl
 | r :: rs, a, h => by
  show lrn rs (r.inner.com a) = lcmL (rs.map Rl.rn) (Nat.lcm a r.inner.rn)
  rw [com_noM (h r List.mem_cons_self), lrn_noM rs _ fun r hr => h r (List.mem_cons_of_mem _ hr)]
theorem noM_lrn : ∀ (rs : List Rl) (a : Nat), (∀ r ∈ rs, r.fine) → 1 ≤ a → lrn rs a ≤ 5000 → ∀ r ∈ rs, r.inner.noM = true
 | [], _, _, _, _, _, h => nomatch h
 | r :: rs, a, hf, ha, h, s, hs => by
  have f := (hf r List.mem_cons_self).inner
  have hf' : ∀ r ∈ rs, r.fine := fun r hr => hf r (List.mem_cons_of_mem _ hr)
  rcases List.mem_cons.mp hs with rfl | hs
  ·have g := Nat.le_trans (lrn_ge rs _ hf' (com_pos f ha)) h
   cases e : s.inner with
   | month d t z => rw [e] at g; have g : 35064 * a ≤ 5000 := g; lia
   | _ => rfl
  ·exact noM_lrn rs _ hf' (com_pos f ha) h s hs
theorem wk_same {ps : List Prs} {m lo : Int} (hf : ∀ r ∈ rulesOf ps, r.fine) (h : walk ps m lo ≤ 5000 ∨ lwalk ps m lo ≤ 5000) : lwalk ps m lo = walk ps m lo ∧ ∀ r ∈ rulesOf ps, r.ok := by
 have no : ∀ r ∈ rulesOf ps, r.ok := by
  rcases h with h | h
  ·exact noM_of hf (by unfold walk at h; lia)
  ·exact fun r hr => ⟨hf r hr, noM_lrn _ 1 hf (Nat.le_refl _) (by unfold lwalk at h; lia) r hr⟩
 refine ⟨?_, no⟩
 unfold lwalk walk per
 rw [lrn_noM _ _ fun r hr => (no r hr).2]
structure PW (p : Prs) : Prop where
 fine : ∀ r ∈ p.fr ++ p.bu, r.fine ∧ r.deep ≤ 7
 zf : p.fr.length ≤ 10
 zu : p.bu.length ≤ 10
structure Sta (H : Hp) (k : Bk) (al : List Prs) (hs : List Mtg) (n : Nat) (as : List Ad) (ps : List Prs) : Prop where
 book : BkAt H k al hs
 l : listAt H n = some (refs as)
 P : PsAt H (ml hs) as ps
 W : ∀ p ∈ ps, PW p
 sub : ∀ p ∈ ps, p ∈ al
 nd : (ps.map Prs.nm).Nodup
 ne : ps ≠ []
 zh : hs.length ≤ 100
 zp : ps.length ≤ 10
 pr : prd (rulesOf ps) < 2 ^ 100
section
variable {H : Hp} {k : Bk} {al : List Prs} {hs : List Mtg} {n : Nat} {as : List Ad} {ps : List Prs} {hours lo : Int}
theorem Sta.pre {H' : Hp} (S : Sta H k al hs n as ps) (p : H <+: H') : Sta H' k al hs n as ps := ⟨S.book.pre p, listAt_pre p S.l, S.P.pre p, S.W, S.sub, S.nd, S.ne, S.zh, S.zp, S.pr⟩
theorem Sta.fine (S : Sta H k al hs n as ps) : ∀ r ∈ rulesOf ps, r.fine := fun r hr => by
 refine e1_2 (mem_rulesOf.mp hr) fun p hp hr => ?_
 exact ((S.W p hp).fine r hr).1
theorem Sta.wb (S : Sta H k al hs n as ps) : ∀ p ∈ ps, WB (ml hs) p := fun p hp => ⟨(S.W p hp).fine, by have h1 := (S.W p hp).zf; have h2 := (S.W p hp).zu; lia⟩
theorem Sta.lw (S : Sta H k al hs n as ps) (ok : ∀ r ∈ rulesOf ps, r.ok) : Lw H n as (ml hs) ps := ⟨S.l, S.P, fun p hp => by
 have h1 := (S.W p hp).zf
 have h2 := (S.W p hp).zu
 have h3 : (ml hs p).length ≤ hs.length := ml_len
 have h4 := S.zh
 exact ⟨⟨fun r hr => ⟨ok r (mem_rulesOf.mpr ⟨p, hp, List.mem_append_left _ hr⟩), ((S.W p hp).fine r (List.mem_append_left _ hr)).2⟩, fun r hr => ⟨ok r (mem_rulesOf.mpr ⟨p, hp, List.mem_append_right _ hr⟩), ((S.W p hp).fine r (List.mem_append_right _ hr)).2⟩⟩, by lia, by lia, by lia⟩, S.wb⟩
theorem Sta.rb (S : Sta H k al hs n as ps) : lrB (rulesOf ps) 1 := lrB_of _ 1 S.fine (Nat.le_refl _) (by have := S.pr; rw [Nat.one_mul]; lia)
theorem rules_len : ∀ {ps : List Prs}, (∀ p ∈ ps, PW p) → (rulesOf ps).length ≤ 20 * ps.length
 | [], _ => Nat.le_refl _
 | p :: ps, h => by
  have h1 := (h p List.mem_cons_self).zf
  have h2 := (h p List.mem_cons_self).zu
  have := rules_len (ps := ps) fun p hp => h p (List.mem_cons_of_mem _ hp)
  rw [rulesOf_cons, List.length_append, List.length_append, List.length_cons]
  lia
theorem Sta.asks (S : Sta H k al hs n as ps) {i : Nat} (hl : listAt H i = some (nmL ps)) (hh : sizeOk1 hours) (h0 : hourOk lo) : Asks H k i al hs ps hours lo := ⟨⟨S.book, hl, S.sub⟩, S.ne, S.nd, hh, h0, S.fine, by have := rules_len S.W; have := S.zp; lia⟩
theorem Sta.no (S : Sta H k al hs n as ps) : ∀ m ∈ hs, m.no ≠ 0 := fun m hm => by have := (S.book.no m hm).1; lia
noncomputable def Fnd (hs : List Mtg) (ps : List Prs) (hours lo : Int) (v : V) : Prop :=
 v = .none ∧ (∀ x, lo ≤ x → ¬ okW (lgd (ml hs) ps) hours x) ∨ ∃ a, v = .int a ∧ lo ≤ a ∧ a ≤ lo + 5000 ∧ okW (lgd (ml hs) ps) hours a ∧ ∀ x, lo ≤ x → x < a → ¬ okW (lgd (ml hs) ps) hours x
theorem Sta.fnd (S : Sta H k al hs n as ps) {m : Int} {v : V} (h0 : 0 ≤ lo) (M : Mx (qP ps hs) m) (hw : walk ps m lo ≤ 5000) (F : IsFirst (gd 0 hs ps) hours lo (lo + walk ps m lo - 1) v) : Fnd hs ps hours lo v := by
 rcases F with ⟨a, rfl, a1, a2, ok, no⟩ | ⟨rfl, no⟩
 ·exact .inr ⟨a, rfl, a1, by lia, (ok_same S.no (by lia)).mpr ok, fun x x1 x2 h => no x x1 x2 ((ok_same S.no (by lia)).mp h)⟩
 ·exact .inl ⟨rfl, fun x hx h => never S.fine M no (x - lo).toNat x hx (by lia) ((ok_same S.no (by lia)).mp h)⟩
theorem Sta.first (S : Sta H k al hs n as ps) {v v' : V} (F : Fnd hs ps hours lo v) (F' : Fnd hs ps hours lo v') : v = v' := by
 rcases F with ⟨rfl, no⟩ | ⟨a, rfl, a1, a2, ok, no⟩ <;> rcases F' with ⟨rfl, no'⟩ | ⟨a', rfl, a1', a2', ok', no'⟩
 ·rfl
 ·exact absurd ok' (no _ a1')
 ·exact absurd ok (no' _ a1)
 ·have : ¬ a' < a := fun h => no _ a1' h ok'
  have : ¬ a < a' := fun h => no' _ a1 h ok
  rw [show a = a' by lia]
theorem nm_comp {Φ : Orc} {X : XL} {j : Nat} {L : Lc} {st : Hp → Prop} {me : Me} {Q : List V → Hp → Prop} (hj : j < L.length) (hst : st H) : ∀ (as : List Ad) (ps : List Prs) (acc : List V), PsAt H me as ps → Q (acc ++ nmL ps) H →
  compGo (coEX Φ (.sub (.loc j) (.lit (.int 0))) X) st j L (refs as) acc H Q := by
 intro as
 induction as with
 | nil => intro ps acc P q; obtain rfl : ps = [] := P; rw [show nmL [] = [] from rfl, List.append_nil] at q; exact q
 | cons a as ih =>
  rintro ps acc ⟨p, qs, rfl, A, P⟩ q
  rw [show refs (a :: as) = .ref a.i :: refs as from rfl, coX_cons]
  have e : (L.set j (some (.ref a.i)))[j]? = some (some (.ref a.i)) := by rw [List.getElem?_set_self (by lia)]
  rw [X_sub, X_loc, e]
  simp_arith only [A.li]
  refine ⟨hst, ih qs _ P ?_⟩
  rw [List.append_assoc]; exact q
end
theorem Te_wk : Θe "_law_walk" = C_walk := rfl
theorem Te_ev : Θe (Str.ofString "Book." ++ Str.ofString "ever") = C_ever := rfl
theorem Te_ho : Θe "_law_holds" = C_holds := rfl
theorem nm_len {ps : List Prs} (h : ps.length ≤ 10) : ([] ++ nmL ps).length ≤ 1000000 := by rw [List.nil_append, List.length_map]; lia
inductive IC_asked (H : Hp) (Q : V → Hp → Prop) : List V → Prop where
 | mk (ns : List Int) (k : Bk) (al : List Prs) (hs : List Mtg) (n : Nat) (as : List Ad) (ps : List Prs) (j : Nat) (hours lo : Int) : ns.length ≤ 1000 → Sta H k al hs n as ps → listAt H j = some [.int hours, .int lo] → sizeOk1 hours → hourOk lo → (∀ H', H <+: H' → Q (.bool true) H') → IC_asked H Q [.scr ns, .ref k.b, .ref n, .ref j]
noncomputable def C_asked : Ctr := fun vs H Q _ => IC_asked H Q vs
theorem w_asked : ∀ vs H Q X, C_asked vs H Q X → wpFn Θe f_l_asked vs H Q X := by
 rintro vs H Q X ⟨ns, k, al, hs, n, as, ps, j, hours, lo, hz, S, hj, hh, h0, q⟩
 refine fn_of rfl ?_
 change wpSs Θe f_l_asked.body [some (.scr ns), some (.ref k.b), some (.ref n), some (.ref j), none, none, none, none] H _ _
 refine zs_cons ?_
 generalize hK : sqX Θe (_ :: _) = K
 simp_arith only [hj, ↓Te_wk]
 refine ⟨n, as, ps, ml hs, lo, S.l, S.P, S.wb, S.rb, fun m H1 hp1 M => ?_⟩
 simp_arith only [X_lit]
 subst hK
 refine ⟨fun _ => q H1 hp1, fun hw => ?_⟩
 have hw : lwalk ps m lo ≤ 5000 := by lia
 have S1 := S.pre hp1
 obtain ⟨e, ok⟩ := wk_same S.fine (.inr hw)
 have l0 := h0.1
 have j1 := listAt_pre hp1 hj
 refine zs_cons ?_
 generalize hK : sqX Θe (_ :: _) = K
 have sl := S1.l
 simp_arith only [sl, S1.book.ns]
 refine nm_comp ?_ ?_ as ps [] S1.P ?_
 ·show 5 < 8; decide
 ·exact sl
 refine ⟨nm_len S.zp, ?_⟩
 rw [List.nil_append]
 have p2 : H1 <+: H1 ++ [.list (nmL ps)] := pre_new
 have l2 := listAt_new (H := H1) (l := nmL ps)
 have S2 := S1.pre p2
 have j2 := listAt_pre p2 j1
 generalize H1 ++ [O.list (nmL ps)] = H2 at *
 simp_arith only [j2, ↓Te_ev]
 refine ⟨k, _, al, hs, ps, hours, lo, S2.asks l2 hh h0, fun m' H3 hp3 M' => ?_⟩
 obtain rfl := (M'.iff qP_lP).same M
 refine ⟨fun h => absurd h (by lia), fun h _ v F => ?_⟩
 subst hK
 have S3 := S2.pre hp3
 have j3 := listAt_pre hp3 j2
 refine zs_cons ?_
 simp_arith only [j3, ↓Te_ho]
 refine ⟨ns, n, as, ml hs, ps, v, hours, lo, hz, S3.lw ok, hh, l0, S.rb, fun m2 M2 => ?_, S.fnd l0 M' h F, fun H4 hp4 => q H4 (hp1.trans (p2.trans (hp3.trans hp4)))⟩
 rw [M2.same M]
 refine ⟨?_, hw⟩
 have := lrn_ge (rulesOf ps) 1 S.fine (Nat.le_refl _)
 unfold lwalk; lia
noncomputable def Θf : Orc := ext "_law_asked" C_asked Θe
end Mine
namespace Mine
open PySem
theorem fr_ns {H : Hp} {x : Nat} {o o2 : O} : Fr [x] H ((H ++ [o]).set x o2) := (Fr.pre (F := [x]) pre_new).trans Fr.set fun _ h => .inl h
theorem tup_rv (r : Rl) : ∃ l, rv r = .tup l := by
 cases r with
 | pl p => obtain ⟨l, e⟩ := pv_w p; exact ⟨_, e⟩
 | hd k r => exact ⟨_, rfl⟩
section
variable {H : Hp} {x i : Nat} {s : Str} {l : List V}
theorem ne_rv {rs : List Rl} (h : listAt H x = some (.str s :: l)) (h' : listAt H i = some (rs.map rv)) : i ≠ x := fun e => by
 rw [e, h] at h'
 cases rs with
 | nil => exact nomatch Option.some.inj h'
 | cons r rs =>
  obtain ⟨l', e'⟩ := tup_rv r
  rw [List.map_cons, e'] at h'
  exact nomatch (List.cons.inj (Option.some.inj h')).1
theorem ne_met {ms : List (Int × Int)} (h : listAt H x = some (.str s :: l)) (h' : listAt H i = some (ms.map metV)) : i ≠ x := fun e => by
 rw [e, h] at h'
 cases ms with
 | nil => exact nomatch Option.some.inj h'
 | cons r rs => exact nomatch (List.cons.inj (Option.some.inj h')).1
theorem ne_str {s' : Str} {l' : List V} (hs : s' ≠ s) (h : listAt H x = some (.str s :: l)) (h' : listAt H i = some (.str s' :: l')) : i ≠ x := fun e => by
 rw [e, h] at h'
 have e1 := (List.cons.inj (Option.some.inj h')).1
 cases e1
 exact hs rfl
theorem ne_ref {k : Nat} {l' : List V} (h : listAt H x = some (.str s :: l)) (h' : listAt H i = some (.ref k :: l')) : i ≠ x := fun e => by
 rw [e, h] at h'
 exact nomatch (List.cons.inj (Option.some.inj h')).1
theorem PA.ne {a : Ad} {p : Prs} {ms : List (Int × Int)} (h : listAt H x = some (.str s :: l)) (hs : p.nm ≠ s) (A : PA H a p ms) : ∀ i ∈ a.all, i ≠ x := fun i hi => by
 rcases List.mem_cons.mp hi with q | hi
 ·rw [q]; exact ne_str hs h A.li
 rcases List.mem_cons.mp hi with q | hi
 ·rw [q]; exact ne_rv h A.lf
 rcases List.mem_cons.mp hi with q | hi
 ·rw [q]; exact ne_rv h A.lu
 rw [List.mem_singleton.mp hi]; exact ne_met h A.le
theorem PsAt.ne {me : Me} (h : listAt H x = some (.str s :: l)) : ∀ {as : List Ad} {ps : List Prs}, (∀ p ∈ ps, p.nm ≠ s) → PsAt H me as ps → ∀ i ∈ ads as, i ∉ [x]
 | [], _, _, _, _, hi => nomatch hi
 | a :: as, _, hs, ⟨p, qs, e, A, P⟩, i, hi => by
  rw [e] at hs
  rcases List.mem_append.mp (show i ∈ a.all ++ ads as from hi) with hi | hi
  ·exact nin1 (A.ne h (hs p List.mem_cons_self) i hi)
  ·exact P.ne h (fun p hp => hs p (List.mem_cons_of_mem _ hp)) i hi
end
noncomputable def RwAt (H : Hp) (m0 : Me) : List Nat → List Prs → Prop
 | [], ps => ps = []
 | e :: es, ps => ∃ p qs, ps = p :: qs ∧ listAt H e = some ((m0 p).map metV) ∧ RwAt H m0 es qs
section
variable {H H' : Hp} {m0 : Me}
theorem RwAt.fr {F : List Nat} (f : Fr F H H') : ∀ {es : List Nat} {ps : List Prs}, (∀ i ∈ es, i ∉ F) → RwAt H m0 es ps → RwAt H' m0 es ps
 | [], _, _, h => h
 | _ :: _, _, hd, ⟨p, qs, e, h, r⟩ => ⟨p, qs, e, f.list (hd _ List.mem_cons_self) h, r.fr f fun i hi => hd i (List.mem_cons_of_mem _ hi)⟩
theorem RwAt.ne {x : Nat} {s : Str} {l : List V} (h : listAt H x = some (.str s :: l)) : ∀ {es : List Nat} {ps : List Prs}, RwAt H m0 es ps → ∀ i ∈ es, i ∉ [x]
 | [], _, _, _, hi => nomatch hi
 | e :: es, _, ⟨p, qs, _, h', r⟩, i, hi => by
  rcases List.mem_cons.mp hi with q | hi
  ·rw [q]; exact nin1 (ne_met h h')
  ·exact r.ne h i hi
theorem RwAt.lt : ∀ {es : List Nat} {ps : List Prs}, RwAt H m0 es ps → ∀ i ∈ es, i < H.length
 | [], _, _, _, hi => nomatch hi
 | e :: es, _, ⟨p, qs, _, h', r⟩, i, hi => by
  rcases List.mem_cons.mp hi with q | hi
  ·rw [q]; exact listAt_lt h'
  ·exact r.lt i hi
end
noncomputable def Sm (b : Nat) : List Ad → List Ad → Prop
 | [], as => as = []
 | a :: r, as => ∃ e s, as = ⟨a.i, a.f, a.u, e⟩ :: s ∧ b ≤ e ∧ Sm b r s
theorem Sm.snoc {b e : Nat} {a : Ad} (h : b ≤ e) : ∀ {r s : List Ad}, Sm b r s → Sm b (r ++ [a]) (s ++ [⟨a.i, a.f, a.u, e⟩])
 | [], _, h' => by obtain rfl := h'; exact ⟨e, [], rfl, h, rfl⟩
 | _ :: _, _, ⟨e', s, q, h1, h2⟩ => ⟨e', s ++ [_], by rw [q]; rfl, h1, h2.snoc h⟩
theorem Sm.is {b : Nat} : ∀ {r s : List Ad}, Sm b r s → s.map Ad.i = r.map Ad.i
 | [], _, h' => by obtain rfl := h'; rfl
 | _ :: _, _, ⟨e', s, q, h1, h2⟩ => by rw [q, List.map_cons, List.map_cons, h2.is]
theorem refs_is {as : List Ad} : refs as = (as.map Ad.i).map V.ref := by rw [List.map_map]; rfl
inductive IC_put (H : Hp) (Q : V → Hp → Prop) : List V → Prop where
 | mk (n r mo : Nat) (as : List Ad) (ps : List Prs) (me m0 : Me) (es : List Nat) (ms : List (Int × Int)) : listAt H n = some (refs as) → PsAt H me as ps → (ps.map Prs.nm).Nodup → ps.length ≤ 10 → listAt H r = some (es.map V.ref) → RwAt H m0 es ps → listAt H mo = some (ms.map metV) → (∀ p ∈ ps, (m0 p).length + ms.length ≤ 1000) →
   (∀ H' as', Fr (as.map Ad.i) H H' → Sm H.length as as' → PsAt H' (fun p => m0 p ++ ms) as' ps → Q .none H') → IC_put H Q [.ref n, .ref r, .ref mo]
noncomputable def C_put : Ctr := fun vs H Q _ => IC_put H Q vs
noncomputable abbrev puB : List IS := bdy (f_l_put.body.getD 0 .fail)
theorem pu_go {XF : XS} {n r mo : Nat} {me m0 : Me} {ms : List (Int × Int)} {t4 t5 t6 : Option V} {Q : QS} {H0 : Hp} {as : List Ad} : ∀ (a2 : List Ad) (e2 : List Nat) (p2 : List Prs) (a1 a3 : List Ad) (e1 : List Nat) (p1 : List Prs) (H : Hp) (t3 : Option V), a1 ++ a2 = as → e1.length = a1.length → listAt H n = some (refs (a1 ++ a2)) → listAt H r = some ((e1 ++ e2).map V.ref) → PsAt H (fun p => m0 p ++ ms) a3 p1 → PsAt H me a2 p2 → RwAt H m0 e2 p2 → listAt H mo = some (ms.map metV) → ((p1 ++ p2).map Prs.nm).Nodup → Sm H0.length a1 a3 → Fr (as.map Ad.i) H0 H → (∀ p ∈ p2, (m0 p).length + ms.length ≤ 1000) →
  (∀ H' a' L', Fr (as.map Ad.i) H0 H' → Sm H0.length as a' → PsAt H' (fun p => m0 p ++ ms) a' (p1 ++ p2) → Q .next L' H') →
  forGo (whBX Θf puB XF) (fun _ => True) 3 ((rangeJ (a1.length : Int) ((a1.length + a2.length : Nat) : Int)).map V.int) [some (.ref n), some (.ref r), some (.ref mo), t3, t4, t5, t6] H Q := by
 intro a2
 induction a2 with
 | nil =>
  intro e2 p2 a1 a3 e1 p1 H t3 ea _ _ _ P1 P2 _ _ _ s f _ q
  obtain rfl : p2 = [] := P2
  rw [List.append_nil] at ea
  subst ea
  have : rangeJ (a1.length : Int) ((a1.length + ([] : List Ad).length : Nat) : Int) = [] := by unfold rangeJ; rw [show (((a1.length + ([] : List Ad).length : Nat) : Int) - (a1.length : Int)).toNat = 0 by show (((a1.length + 0 : Nat) : Int) - _).toNat = 0; lia]; rfl
  rw [this]
  rw [List.append_nil] at q
  exact q H a3 _ f s P1
 | cons a a2 ih =>
  rintro e2 p2 a1 a3 e1 p1 H t3 ea el hn hr P1 ⟨p, qs, rfl, A, P2⟩ R hm nd s f hz q
  cases e2 with
  | nil => exact nomatch (show p :: qs = [] from R)
  | cons e e2 =>
  refine e2_3 R fun p' qs' ep he R => ?_
  obtain ⟨rfl, rfl⟩ := List.cons.inj ep
  have ai := A.li
  have hz1 := hz p List.mem_cons_self
  rw [rangeJ_cons (by rw [List.length_cons]; lia), List.map_cons, foX_cons]
  have i1 : idx (refs (a1 ++ a :: a2)) (a1.length : Int) = some (.ref a.i) := by
   have := idx_mid (l := refs a1) (x := .ref a.i) (r := refs a2)
   rw [show (refs a1).length = a1.length from List.length_map _] at this
   rw [show refs (a1 ++ a :: a2) = refs a1 ++ .ref a.i :: refs a2 from List.map_append]; exact this
  have i2 : idx ((e1 ++ e :: e2).map V.ref) (a1.length : Int) = some (.ref e) := by
   have := idx_mid (l := e1.map V.ref) (x := .ref e) (r := e2.map V.ref)
   rw [List.length_map, el] at this
   rw [List.map_append]; exact this
  have nu := nd
  rw [List.map_append] at nu
  have n1 : ∀ q ∈ p1, q.nm ≠ p.nm := fun q hq => (List.nodup_append.mp nu).2.2 _ (List.mem_map_of_mem hq) _ (.head _)
  have n2 : ∀ q ∈ qs, q.nm ≠ p.nm := fun q hq e => (List.nodup_cons.mp (List.nodup_append.mp nu).2.1).1 (e ▸ List.mem_map_of_mem hq)
  have nn : n ∉ [a.i] := nin1 (by
   cases a1 with
   | nil => exact ne_ref ai hn
   | cons b a1 => exact ne_ref ai hn)
  have nr : r ∉ [a.i] := nin1 (by
   cases e1 with
   | nil => exact ne_ref ai hr
   | cons b e1 => exact ne_ref ai hr)
  have nm := nin1 (ne_met ai hm)
  have nf := nin1 (ne_rv ai A.lf)
  have nu' := nin1 (ne_rv ai A.lu)
  have i3 := listAt_pre (pre_new (o := .list ((m0 p).map metV ++ ms.map metV))) hn
  have i4 := listAt_pre (pre_new (o := .list ((m0 p).map metV ++ ms.map metV))) ai
  refine zs_cons ?_
  simp_arith only [hn, hr, he, hm, i1, i2, i3, i4, List.length_map]
  refine ⟨by lia, by show (3 : Int) < 4; decide, ?_⟩
  have ln := listAt_new (H := H) (l := (m0 p).map metV ++ ms.map metV)
  have g : Fr [a.i] H ((H ++ [O.list ((m0 p).map metV ++ ms.map metV)]).set a.i (O.list [.str p.nm, .ref a.f, .ref a.u, .ref H.length])) := fr_ns
  have l1 := listAt_set (m := [V.str p.nm, .ref a.f, .ref a.u, .ref H.length]) i4
  have l2 : listAt ((H ++ [O.list ((m0 p).map metV ++ ms.map metV)]).set a.i (O.list [.str p.nm, .ref a.f, .ref a.u, .ref H.length])) H.length = some ((m0 p ++ ms).map metV) := by rw [listAt_set_ne (Nat.ne_of_lt (listAt_lt ai)), ln, List.map_append]
  have hL := f.len
  generalize (H ++ [O.list ((m0 p).map metV ++ ms.map metV)]).set a.i (O.list [.str p.nm, .ref a.f, .ref a.u, .ref H.length]) = H1 at *
  have := ih e2 qs (a1 ++ [a]) (a3 ++ [⟨a.i, a.f, a.u, H.length⟩]) (e1 ++ [e]) (p1 ++ [p]) H1 (some (.int (a1.length : Int))) (by rw [List.append_assoc]; exact ea) (by rw [List.length_append, List.length_append, el]; rfl) (by rw [List.append_assoc]; exact g.list nn hn) (by rw [List.append_assoc]; exact g.list nr hr)
   (PsAt.snoc (a := ⟨a.i, a.f, a.u, H.length⟩) ⟨l1, g.list nf A.lf, g.list nu' A.lu, l2⟩ (P1.fr g (P1.ne ai n1))) (P2.fr g (P2.ne ai n2)) (R.fr g (R.ne ai)) (g.list nm hm) (by rw [List.append_assoc]; exact nd) (s.snoc hL) (f.trans g fun i hi => .inl (by rw [List.mem_singleton.mp hi, ← ea]; exact List.mem_map_of_mem (List.mem_append_right _ (.head _)))) (fun p hp => hz p (List.mem_cons_of_mem _ hp)) (by rw [List.append_assoc]; exact q)
  rw [List.length_append, show a1.length + [a].length + a2.length = a1.length + (a :: a2).length by rw [List.length_cons, List.length_cons, List.length_nil]; lia] at this
  exact this
theorem w_put : ∀ vs H Q X, C_put vs H Q X → wpFn Θf f_l_put vs H Q X := by
 rintro vs H Q X ⟨n, r, mo, as, ps, me, m0, es, ms, hn, P, nd, zp, hr, R, hm, hz, q⟩
 refine fn_of rfl ?_
 change wpSs Θf f_l_put.body [some (.ref n), some (.ref r), some (.ref mo), none, none, none, none] H _ _
 refine zs_cons ?_
 have hl := P.length
 simp_arith only [hn, show (refs as).length = as.length from List.length_map _]
 refine ⟨⟨by lia, by lia⟩, ?_⟩
 rw [rangeL_J]
 have := pu_go (XF := fun x _ H1 => X x H1) (t4 := none) (t5 := none) (t6 := none) (Q := sqX Θf [] (fun fl _ H1 => Q (retV fl) H1) fun x _ H1 => X x H1) as es ps [] [] [] [] H none rfl rfl hn hr rfl P R hm nd rfl Fr.refl hz fun H' a' L' f s P' => q H' a' f s P'
 rw [show ([] : List Ad).length + as.length = as.length from Nat.zero_add _] at this
 exact this
noncomputable def Θg : Orc := ext "_law_put" C_put Θf
end Mine
namespace Mine
open PySem
theorem Sm.ads {b : Nat} : ∀ {r s : List Ad}, Sm b r s → ∀ i ∈ Mine.ads s, i ∈ Mine.ads r ∨ b ≤ i
 | [], _, h, i, hi => by obtain rfl := h; exact nomatch hi
 | a :: r, _, ⟨e, s, q, h1, h2⟩, i, hi => by
  rw [q] at hi
  rcases List.mem_append.mp (show i ∈ [a.i, a.f, a.u, e] ++ Mine.ads s from hi) with hi | hi
  ·have up : ∀ i ∈ a.all, i ∈ Mine.ads (a :: r) := fun i hi => ads_mem List.mem_cons_self hi
   rcases List.mem_cons.mp hi with q | hi
   ·rw [q]; exact .inl (up _ ad_i)
   rcases List.mem_cons.mp hi with q | hi
   ·rw [q]; exact .inl (up _ ad_f)
   rcases List.mem_cons.mp hi with q | hi
   ·rw [q]; exact .inl (up _ ad_u)
   rw [List.mem_singleton.mp hi]; exact .inr h1
  ·exact (h2.ads i hi).imp (List.mem_append_right _) id
noncomputable def Un : List Ad → Prop
 | [] => True
 | a :: r => a.u ∉ a.i :: a.f :: a.e :: ads r
theorem Sm.un {b : Nat} {r s : List Ad} (h : Sm b r s) (u : Un r) (hb : ∀ i ∈ Mine.ads r, i < b) : Un s := by
 cases r with
 | nil => obtain rfl := h; exact trivial
 | cons a r =>
  refine e2_3 h fun e s e_245 h1 h2 => ?_
  obtain rfl := e_245
  have ub := hb a.u (ads_mem List.mem_cons_self ad_u)
  have u : a.u ∉ a.i :: a.f :: a.e :: Mine.ads r := u
  intro h
  rcases List.mem_cons.mp h with q | h
  ·exact u (List.mem_cons.mpr (.inl q))
  rcases List.mem_cons.mp h with q | h
  ·exact u (List.mem_cons_of_mem _ (List.mem_cons.mpr (.inl q)))
  rcases List.mem_cons.mp h with q | h
  ·have q : a.u = e := q
   lia
  rcases h2.ads _ h with h | h
  ·exact u (.tail _ (.tail _ (.tail _ h)))
  ·have h : b ≤ a.u := h
   lia
theorem PsAt.to {H : Hp} {me me' : Me} : ∀ {as : List Ad} {ps : List Prs}, (∀ p ∈ ps, me p = me' p) → PsAt H me as ps → PsAt H me' as ps
 | [], _, _, h => h
 | _ :: _, _, hm, ⟨p, qs, e, A, P⟩ => ⟨p, qs, e, by rw [e] at hm; rw [← hm p List.mem_cons_self]; exact A, P.to fun p hp => hm p (by rw [e]; exact List.mem_cons_of_mem _ hp)⟩
theorem PsAt.isA {H : Hp} {me : Me} : ∀ {as : List Ad} {ps : List Prs}, PsAt H me as ps → ∀ i ∈ as.map Ad.i, ∃ s l, listAt H i = some (.str s :: l)
 | [], _, _, _, hi => nomatch hi
 | a :: _, _, ⟨p, qs, e, A, P⟩, i, hi => by
  rcases List.mem_cons.mp hi with q | hi
  ·rw [q]; exact ⟨_, _, A.li⟩
  ·exact P.isA i hi
structure Fx (al ps : List Prs) : Prop where
 W : ∀ p ∈ ps, PW p
 sub : ∀ p ∈ ps, p ∈ al
 nd : (ps.map Prs.nm).Nodup
 ne : ps ≠ []
 zp : ps.length ≤ 10
 pr : prd (rulesOf ps) < 2 ^ 100
structure Dd (H : Hp) (k : Bk) (al : List Prs) (hs : List Mtg) (me : Me) (n : Nat) (as : List Ad) (ps : List Prs) (m0 : Me) (r : Nat) (es : List Nat) (j : Nat) (hours lo : Int) : Prop where
 book : BkAt H k al hs
 l : listAt H n = some (refs as)
 P : PsAt H me as ps
 lr : listAt H r = some (es.map V.ref)
 R : RwAt H m0 es ps
 lj : listAt H j = some [.int hours, .int lo]
 dj : ∀ i ∈ n :: r :: j :: (es ++ ads as), i ∉ k.foot
 un : Un as
section
variable {H H' : Hp} {k k' : Bk} {al ps : List Prs} {hs hs' : List Mtg} {me me' m0 : Me} {n r j : Nat} {as as' : List Ad} {es : List Nat} {hours lo : Int}
theorem Dd.lt (D : Dd H k al hs me n as ps m0 r es j hours lo) : ∀ i ∈ n :: r :: j :: (es ++ ads as), i < H.length := fun i hi => by
 rcases List.mem_cons.mp hi with q | hi
 ·rw [q]; exact listAt_lt D.l
 rcases List.mem_cons.mp hi with q | hi
 ·rw [q]; exact listAt_lt D.lr
 rcases List.mem_cons.mp hi with q | hi
 ·rw [q]; exact listAt_lt D.lj
 rcases List.mem_append.mp hi with hi | hi
 ·exact D.R.lt i hi
 ·exact D.P.lt i hi
theorem d_n : n ∈ n :: r :: j :: (es ++ ads as) := .head _
theorem d_r : r ∈ n :: r :: j :: (es ++ ads as) := .tail _ (.head _)
theorem d_j : j ∈ n :: r :: j :: (es ++ ads as) := .tail _ (.tail _ (.head _))
theorem d_e {i : Nat} (h : i ∈ es) : i ∈ n :: r :: j :: (es ++ ads as) := .tail _ (.tail _ (.tail _ (List.mem_append_left _ h)))
theorem d_a {i : Nat} (h : i ∈ ads as) : i ∈ n :: r :: j :: (es ++ ads as) := .tail _ (.tail _ (.tail _ (List.mem_append_right _ h)))
theorem Dd.bk (D : Dd H k al hs me n as ps m0 r es j hours lo) (B : BkAt H' k' al hs') (f : Fr k.foot H H') (hk : ∀ i ∈ k'.foot, i ∈ k.foot ∨ H.length ≤ i) : Dd H' k' al hs' me n as ps m0 r es j hours lo :=
 ⟨B, f.list (D.dj _ d_n) D.l, D.P.fr f fun i hi => D.dj i (d_a hi), f.list (D.dj _ d_r) D.lr, D.R.fr f fun i hi => D.dj i (d_e hi), f.list (D.dj _ d_j) D.lj, fun i hi hf => (hk i hf).elim (D.dj i hi) fun h => by have := D.lt i hi; lia, D.un⟩
theorem Dd.pre (D : Dd H k al hs me n as ps m0 r es j hours lo) (p : H <+: H') : Dd H' k al hs me n as ps m0 r es j hours lo := D.bk (D.book.pre p) (Fr.pre p) fun _ => .inl
theorem Dd.put (D : Dd H k al hs me n as ps m0 r es j hours lo) (f : Fr (as.map Ad.i) H H') (s : Sm H.length as as') (P : PsAt H' me' as' ps) : Dd H' k al hs me' n as' ps m0 r es j hours lo := by
 have ia : ∀ i ∈ as.map Ad.i, i ∈ ads as := fun i hi => by
  refine e1_2 (List.mem_map.mp hi) fun a ha e_246 => ?_
  obtain rfl := e_246
  exact ads_mem ha ad_i
 have rl : ∀ {l : Nat} {is : List Nat}, listAt H l = some (is.map V.ref) → is ≠ [] → l ∉ as.map Ad.i := fun {l is} h ne hi => by
  refine e2_1 (D.P.isA _ hi) fun s v e => ?_
  cases is with
  | nil => exact ne rfl
  | cons x is => exact ne_ref e h rfl
 have nn : n ∉ as.map Ad.i := by
  cases as with
  | nil => exact fun h => nomatch h
  | cons a as => exact rl (is := (a :: as).map Ad.i) (by rw [D.l, refs_is]) fun h => nomatch h
 have nr : r ∉ as.map Ad.i := by
  cases es with
  | nil =>
   have e : ps = [] := D.R
   have hl := D.P.length
   rw [e] at hl
   rw [List.eq_nil_of_length_eq_zero hl]; exact fun h => nomatch h
  | cons e es => exact rl D.lr fun h => nomatch h
 have nj : j ∉ as.map Ad.i := fun hi => by
  refine e2_1 (D.P.isA _ hi) fun s v e => ?_
  rw [D.lj] at e
  exact nomatch (List.cons.inj (Option.some.inj e)).1
 have ne : ∀ i ∈ es, i ∉ as.map Ad.i := fun i hi hi' => by
  refine e2_1 (D.P.isA _ hi') fun s v e => ?_
  exact D.R.ne e i hi (.head _)
 refine ⟨D.book.fr f fun i hi hi' => D.dj i (d_a (ia i hi')) hi, by rw [refs_is, s.is, ← refs_is]; exact f.list nn D.l, P, f.list nr D.lr, D.R.fr f ne, f.list nj D.lj, fun i hi => ?_, s.un D.un D.P.lt⟩
 rcases List.mem_cons.mp hi with q | hi
 ·rw [q]; exact D.dj n d_n
 rcases List.mem_cons.mp hi with q | hi
 ·rw [q]; exact D.dj r d_r
 rcases List.mem_cons.mp hi with q | hi
 ·rw [q]; exact D.dj j d_j
 rcases List.mem_append.mp hi with hi | hi
 ·exact D.dj i (d_e hi)
 rcases s.ads i hi with h | h
 ·exact D.dj i (d_a h)
 ·exact fun hf => by have := D.book.lt i hf; lia
theorem Dd.sta (D : Dd H k al hs me n as ps m0 r es j hours lo) (F : Fx al ps) (hz : hs.length ≤ 100) (e : ∀ p ∈ ps, me p = ml hs p) : Sta H k al hs n as ps := ⟨D.book, D.l, D.P.to e, F.W, F.sub, F.nd, F.ne, hz, F.zp, F.pr⟩
end
theorem ml_snoc {hs : List Mtg} {p : Prs} {m : Mtg} (h : m.who.contains p.nm = true) : ml (hs ++ [m]) p = ml hs p ++ [(m.hr, m.sz)] := by
 unfold ml
 rw [List.filter_append, show [m].filter (fun m => m.who.contains p.nm) = [m] by rw [List.filter_cons, h]; rfl, List.map_append]; rfl
theorem er_comp {Φ : Orc} {H : Hp} {X : XL} {j : Nat} {L : Lc} {st : Hp → Prop} {me : Me} {Q : List V → Hp → Prop} (hj : j < L.length) (hst : st H) : ∀ (as : List Ad) (ps : List Prs) (acc : List V), PsAt H me as ps → Q (acc ++ (as.map Ad.e).map V.ref) H →
  compGo (coEX Φ (.sub (.loc j) (.lit (.int 3))) X) st j L (refs as) acc H Q := by
 intro as
 induction as with
 | nil => intro ps acc P q; rw [List.map_nil, List.map_nil, List.append_nil] at q; exact q
 | cons a as ih =>
  rintro ps acc ⟨p, qs, rfl, A, P⟩ q
  rw [show refs (a :: as) = .ref a.i :: refs as from rfl, coX_cons]
  have e : (L.set j (some (.ref a.i)))[j]? = some (some (.ref a.i)) := by rw [List.getElem?_set_self (by lia)]
  rw [X_sub, X_loc, e]
  simp_arith only [A.li]
  refine ⟨hst, ih qs _ P ?_⟩
  rw [List.append_assoc]; exact q
theorem rw_of {H : Hp} {me : Me} : ∀ {as : List Ad} {ps : List Prs}, PsAt H me as ps → RwAt H me (as.map Ad.e) ps
 | [], _, h => h
 | _ :: _, _, ⟨p, qs, e, A, P⟩ => ⟨p, qs, e, A.le, rw_of P⟩
end Mine
namespace Mine
open PySem
theorem Tg_me : Θg (Str.ofString "Book." ++ Str.ofString "meet") = C_meet := rfl
theorem Tg_mv : Θg (Str.ofString "Book." ++ Str.ofString "move") = C_move := rfl
theorem Tg_dr : Θg (Str.ofString "Book." ++ Str.ofString "drop") = C_drop := rfl
theorem Tg_ev : Θg (Str.ofString "Book." ++ Str.ofString "ever") = C_ever := rfl
theorem Tg_bu : Θg (Str.ofString "Book." ++ Str.ofString "busy") = C_busy := rfl
theorem Tg_pu : Θg "_law_put" = C_put := rfl
theorem Tg_as : Θg "_law_asked" = C_asked := rfl
theorem Tg_ce : Θg "_law_cell_at" = C_cell_at := rfl
structure Dk (ns : List Int) (al ps : List Prs) (hs : List Mtg) (hours lo a : Int) : Prop where
 zn : ns.length ≤ 1000
 F : Fx al ps
 ok : ∀ r ∈ rulesOf ps, r.ok
 b9 : ∀ p ∈ ps, p.bu.length ≤ 9
 hh : sizeOk1 hours
 hl : hourOk lo
 fd : lo ≤ a ∧ okW (lgd (ml hs) ps) hours a ∧ Fnd hs ps hours lo (.int a)
 ha : a < 10 ^ 12 - 100
 wk : ∃ m, Mx (qP ps hs) m ∧ walk ps m lo ≤ 5000
 zh : hs.length ≤ 50
 hm : ∀ m ∈ hs, 0 ≤ m.hr ∧ 0 ≤ m.sz ∧ m.sz ≤ 48
noncomputable abbrev ruO (a : Int) : Rl := .pl (.once a 1)
theorem cov_once {a x : Int} (h : x ≠ a) : cov (ruO a) x = false := by
 show ((rangeJ 0 1).any fun k => bg (ruO a) (x - k)) = false
 rw [show rangeJ 0 1 = [0] from rfl, List.any_cons, List.any_nil, Bool.or_false, Int.sub_zero]
 unfold bg
 by_cases h0 : x < 0
 ·rw [if_pos h0]
 ·rw [if_neg h0]; exact decide_eq_false h
theorem prd_app : ∀ (rs ss : List Rl), prd (rs ++ ss) = prd rs * prd ss
 | [], ss => (Nat.one_mul _).symm
 | r :: rs, ss => by show r.rn * prd (rs ++ ss) = r.rn * prd rs * prd ss; rw [prd_app rs ss, Nat.mul_assoc]
section
variable {ns : List Int} {al ps : List Prs} {hs : List Mtg} {hours lo a : Int} {H : Hp} {k : Bk} {me : Me} {n r j : Nat} {as : List Ad} {es : List Nat} {Q : V → Hp → Prop} {X : XL}
theorem Sta.once {p0 : Prs} {ps1 l1 l2 : List Prs} {a0 : Ad} {as1 : List Ad} {H' H2 : Hp} (K : Dk ns (l1 ++ p0 :: l2) (p0 :: ps1) hs hours lo a) (hh : hourOk a) (B : BkAt H' k (l1 ++ ⟨p0.nm, p0.fr, p0.bu ++ [ruO a]⟩ :: l2) hs) (l : listAt H' n = some (refs (a0 :: as1))) (P : PsAt H' (ml hs) (a0 :: as1) (p0 :: ps1)) (un : Un (a0 :: as1)) (uf : a0.u ∉ k.foot)
  (e2 : H2 = H'.set a0.u (.list (p0.bu.map rv ++ [rv (ruO a)]))) : Sta H2 k (l1 ++ ⟨p0.nm, p0.fr, p0.bu ++ [ruO a]⟩ :: l2) hs n (a0 :: as1) (⟨p0.nm, p0.fr, p0.bu ++ [ruO a]⟩ :: ps1) := by
 refine e2_3 P fun p qs ep A P => ?_
 obtain ⟨rfl, rfl⟩ := List.cons.inj ep
 have un : a0.u ∉ a0.i :: a0.f :: a0.e :: ads as1 := un
 have g : Fr [a0.u] H' H2 := by rw [e2]; exact Fr.set
 have W0 := K.F.W p0 List.mem_cons_self
 have nn : n ∉ [a0.u] := nin1 fun e => by
  have h := A.lu
  rw [← e, l] at h
  cases hb : p0.bu with
  | nil => rw [hb] at h; exact nomatch Option.some.inj h
  | cons r rs =>
   obtain ⟨l', e'⟩ := tup_rv r
   rw [hb, List.map_cons, e'] at h
   exact nomatch (List.cons.inj (Option.some.inj h)).1
 have nd := K.F.nd
 refine ⟨B.fr g fun i hi h => uf (by rw [← List.mem_singleton.mp h]; exact hi), g.list nn l, ⟨_, _, rfl, ⟨g.list (nin1 fun e => un (by rw [← e]; exact .head _)) A.li, g.list (nin1 fun e => un (by rw [← e]; exact .tail _ (.head _))) A.lf, ?_, g.list (nin1 fun e => un (by rw [← e]; exact .tail _ (.tail _ (.head _)))) A.le⟩, P.fr g fun i hi => nin1 fun e => un (by rw [← e]; exact .tail _ (.tail _ (.tail _ hi)))⟩, ?_, ?_, nd, (fun h => nomatch h), by have := K.zh; lia, K.F.zp, ?_⟩
 ·rw [e2, listAt_set A.lu, List.map_append]; rfl
 ·intro p hp
  rcases List.mem_cons.mp hp with rfl | hp
  ·refine ⟨fun r hr => ?_, W0.zf, ?_⟩
   ·rcases List.mem_append.mp (show r ∈ (p0.fr ++ p0.bu) ++ [ruO a] by rw [List.append_assoc]; exact hr) with hr | hr
    ·exact W0.fine r hr
    ·rw [List.mem_singleton.mp hr]
     exact ⟨⟨hh, by decide, by decide⟩, Nat.zero_le _⟩
   ·show (p0.bu ++ [ruO a]).length ≤ 10
    have := K.b9 p0 List.mem_cons_self
    rw [List.length_append]
    show p0.bu.length + 1 ≤ 10
    lia
  ·exact K.F.W p (List.mem_cons_of_mem _ hp)
 ·intro p hp
  rcases List.mem_cons.mp hp with rfl | hp
  ·exact List.mem_append_right _ (.head _)
  ·have hn : p ≠ p0 := fun e => (List.nodup_cons.mp nd).1 (List.mem_map_of_mem (e ▸ hp))
   rcases List.mem_append.mp (K.F.sub p (List.mem_cons_of_mem _ hp)) with h | h
   ·exact List.mem_append_left _ h
   ·rcases List.mem_cons.mp h with h | h
    ·exact absurd h hn
    ·exact List.mem_append_right _ (List.mem_cons_of_mem _ h)
 ·have := K.F.pr
  rw [rulesOf_cons] at this ⊢
  show prd (p0.fr ++ (p0.bu ++ [ruO a]) ++ rulesOf ps1) < _
  rw [← List.append_assoc, prd_app, prd_app (p0.fr ++ p0.bu), show prd [ruO a] = 1 from rfl, Nat.mul_one, ← prd_app]
  exact this
theorem Dk.noClash {p0 : Prs} (K : Dk ns al ps hs hours lo a) (h0 : p0 ∈ ps) (hh : hourOk a) : noClash hs p0.nm (ruO a) := fun m hm hw => by
 refine e0_3 (K.hm m hm) fun h1 h2 h3 => ?_
 refine ⟨⟨⟨hh, by decide, by decide⟩, rfl⟩, h1, ⟨h2, h3⟩, fun i i1 i2 => cov_once fun e => ?_⟩
 have g1 := K.hh.1
 have := List.all_eq_true.mp (K.fd.2.1 a (Int.le_refl _) (by lia)) p0 h0
 rw [show opn (ml hs) p0 a = (!(ml hs p0).any (inM a) && freeAt p0 a) from rfl, Bool.and_eq_true, Bool.not_eq_true'] at this
 have no := List.any_eq_false.mp this.1 (m.hr, m.sz) (ml_mem.mpr ⟨m, hm, hw, rfl⟩)
 exact no (by show (decide (m.hr ≤ a) && decide (a < m.hr + m.sz)) = true; rw [decide_eq_true (by lia), decide_eq_true (by lia)]; rfl)
theorem Dk.av (K : Dk ns al ps hs hours lo a) : hourOk a := ⟨by have := K.hl.1; have := K.fd.1; lia, by have := K.ha; lia⟩
theorem de_end {m : Mtg} {t8 : Option V} (K : Dk ns al ps hs hours lo a) (D : Dd H k al (hs ++ [m]) me n as ps (ml hs) r es j hours lo) (hc : k.c ≤ 900) (q : ∀ H', Q (.bool true) H') :
  wpSs Θg (f_l_deeds.body.drop 9) [some (.scr ns), some (.ref k.b), some (.ref n), some (.int a), some (.ref j), some (.int hours), some (.tup [.int m.no, .int a]), some (.ref r), t8, none, none, none, none] H (fun fl _ H1 => Q (retV fl) H1) fun x _ H1 => X x H1 := by
 have zh := K.zh
 refine zs_cons ?_
 generalize hK : sqX Θg (_ :: _) = K'
 simp_arith only [D.book.ns, ↓Tg_dr]
 refine ⟨k, al, hs, m, D.book, by lia, by lia, fun H1 k1 f1 eb _ ec hk B1 => ?_⟩
 have D1 := D.bk B1 f1 hk
 subst hK
 rw [← eb]
 refine zs_cons ?_
 generalize hK : sqX Θg (_ :: _) = K'
 have D2 := D1.pre (pre_new (o := .list []))
 have l2 := listAt_new (H := H1) (l := [])
 simp_arith only [X_lit]
 generalize H1.length = i1 at *
 generalize H1 ++ [O.list []] = H2 at *
 simp_arith only [↓Tg_pu]
 refine ⟨n, r, i1, as, ps, me, ml hs, es, [], D2.l, D2.P, K.F.nd, K.F.zp, D2.lr, D2.R, l2, fun p _ => by have : (ml hs p).length ≤ hs.length := ml_len; show _ + 0 ≤ _; lia, fun H3 as3 f3 s3 P3 => ?_⟩
 have D3 := D2.put f3 s3 P3
 have S3 := D3.sta K.F (by lia) fun p _ => List.append_nil _
 subst hK
 refine zs_cons ?_
 generalize hK : sqX Θg (_ :: _) = K'
 have sl := S3.l
 have j3 := D3.lj
 simp_arith only [sl, S3.book.ns]
 refine nm_comp ?_ ?_ as3 ps [] S3.P ?_
 ·show 10 < 13; decide
 ·exact sl
 refine ⟨nm_len K.F.zp, ?_⟩
 rw [List.nil_append]
 have l4 := listAt_new (H := H3) (l := nmL ps)
 have S4 := S3.pre (pre_new (o := .list (nmL ps)))
 have D4 := D3.pre (pre_new (o := .list (nmL ps)))
 generalize H3.length = i3 at *
 generalize H3 ++ [O.list (nmL ps)] = H4 at *
 simp_arith only [D4.lj, ↓Tg_ev]
 refine ⟨k1, i3, al, hs, ps, hours, lo, S4.asks l4 K.hh K.hl, fun m' H5 p5 M' => ?_⟩
 refine e1_2 (K.wk) fun m2 M2 hw => ?_
 obtain rfl := M'.same M2
 refine ⟨fun h => absurd h (by lia), fun _ _ v F => ?_⟩
 obtain rfl := S4.first (S4.fnd K.hl.1 M' hw F) K.fd.2.2
 have D5 := D4.pre p5
 have S5 := S4.pre p5
 simp_arith only [X_lit]
 refine ⟨fun h => absurd rfl h, fun _ => ?_⟩
 subst hK
 refine zs_cons ?_
 generalize hK : sqX Θg (_ :: _) = K'
 simp_arith only [X_lit]
 subst hK
 cases ps with
 | nil => exact absurd rfl K.F.ne
 | cons p0 ps1 =>
 cases as3 with
 | nil => exact nomatch (show p0 :: ps1 = [] from S5.P)
 | cons a0 as1 =>
 refine e2_1 (List.append_of_mem (K.F.sub p0 List.mem_cons_self)) fun l1 l3 e_247 => ?_
 obtain rfl := e_247
 have A0 : PA H5 a0 p0 (ml hs p0) := by
  refine e2_3 (S5.P) fun p qs ep A _ => ?_
  obtain ⟨rfl, rfl⟩ := List.cons.inj ep
  exact A
 have sl5 : listAt H5 n = some (.ref a0.i :: refs as1) := S5.l
 refine zs_cons ?_
 generalize hK : sqX Θg (_ :: _) = K'
 simp_arith only [sl5, A0.li, S5.book.ns, ↓Tg_bu]
 have b9 := K.b9 p0 List.mem_cons_self
 refine IC_busy.mk k1 l1 l3 p0 hs (ruO a) S5.book ⟨K.av, by decide, by decide⟩ (Nat.zero_le _) (by lia) (K.noClash List.mem_cons_self K.av) fun H6 f6 B6 => ?_
 subst hK
 have nf : ∀ i ∈ n :: r :: j :: (es ++ ads (a0 :: as1)), i ∉ k1.ul := fun i hi h => D5.dj i hi (ft_ul h)
 have P6 := S5.P.fr f6 fun i hi => nf i (d_a hi)
 have l6 := f6.list (nf n d_n) S5.l
 have j6 := f6.list (nf j d_j) D5.lj
 have A6 : PA H6 a0 p0 (ml hs p0) := A0.fr f6 fun i hi => nf i (d_a (ads_mem List.mem_cons_self hi))
 have sl6 : listAt H6 n = some (.ref a0.i :: refs as1) := l6
 have fin := fun H7 e7 => Sta.once (H2 := H7) K K.av B6 l6 P6 D5.un (D5.dj _ (d_a (ads_mem List.mem_cons_self ad_u))) e7
 have jn : j ≠ a0.u := fun e => by
  have h := A6.lu
  rw [← e, j6] at h
  cases hb : p0.bu with
  | nil => rw [hb] at h; exact nomatch Option.some.inj h
  | cons r rs =>
   obtain ⟨l', e'⟩ := tup_rv r
   rw [hb, List.map_cons, e'] at h
   exact nomatch (List.cons.inj (Option.some.inj h)).1
 refine zs_cons ?_
 generalize hK : sqX Θg (_ :: _) = K'
 simp_arith only [sl6, A6.li, A6.lu, List.length_map]
 have j7 := listAt_set_ne (H := H6) (o := .list (p0.bu.map rv ++ [rv (ruO a)])) (Ne.symm jn)
 rw [j6] at j7
 refine ⟨⟨_, A6.lu⟩, by lia, ?_⟩
 have fin := fin _ rfl
 have e7 : rv (ruO a) = .tup [.str "once", .int a, .int 1] := rfl
 rw [e7] at fin j7
 generalize H6.set a0.u (O.list (p0.bu.map rv ++ [.tup [.str "once", .int a, .int 1]])) = H7 at *
 subst hK
 refine zs_cons ?_
 simp_arith only [↓Tg_as]
 exact ⟨ns, k1, _, hs, n, _, _, j, hours, lo, K.zn, fin, j7, K.hh, K.hl, fun H' _ => q H'⟩
end
end Mine
namespace Mine
open PySem
section
variable {ns : List Int} {al ps : List Prs} {hs : List Mtg} {hours lo a : Int} {H : Hp} {k : Bk} {me : Me} {n r j : Nat} {as : List Ad} {es : List Nat} {Q : V → Hp → Prop} {X : XL}
theorem z_snoc {m : Mtg} (h : hs.length ≤ 50) : (hs ++ [m]).length ≤ 100 := by rw [List.length_append]; show hs.length + 1 ≤ 100; lia
theorem de_8 {m : Mtg} {t8 : Option V} (K : Dk ns al ps hs hours lo a) (D : Dd H k al (hs ++ [m]) me n as ps (ml hs) r es j hours lo) (em : ∀ p ∈ ps, me p = ml (hs ++ [m]) p) (hc : k.c ≤ 900) (q : ∀ H', Q (.bool true) H') :
  wpSs Θg (f_l_deeds.body.drop 8) [some (.scr ns), some (.ref k.b), some (.ref n), some (.int a), some (.ref j), some (.int hours), some (.tup [.int m.no, .int a]), some (.ref r), t8, none, none, none, none] H (fun fl _ H1 => Q (retV fl) H1) fun x _ H1 => X x H1 := by
 refine zs_cons ?_
 generalize hK : sqX Θg (_ :: _) = K'
 simp_arith only [↓Tg_as]
 refine ⟨ns, k, al, hs ++ [m], n, as, ps, j, hours, lo, K.zn, D.sta K.F (z_snoc K.zh) em, D.lj, K.hh, K.hl, fun H1 hp1 => ?_⟩
 simp_arith only [X_lit]
 subst hK
 exact de_end K (D.pre hp1) hc q
theorem pt_z {p : Prs} (h : hs.length ≤ 50) {q : Int × Int} : (ml hs p).length + [q].length ≤ 1000 := by have : (ml hs p).length ≤ hs.length := ml_len; show _ + 1 ≤ _; lia
theorem who_in {p : Prs} (h : p ∈ ps) : (ps.map Prs.nm).contains p.nm = true := List.contains_iff_mem.mpr (List.mem_map_of_mem h)
theorem de_6 {g : Int} (K : Dk ns al ps hs hours lo a) (D : Dd H k al (hs ++ [⟨g, a, hours, ps.map Prs.nm⟩]) me n as ps (ml hs) r es j hours lo) (em : ∀ p ∈ ps, me p = ml (hs ++ [⟨g, a, hours, ps.map Prs.nm⟩]) p) (hc : k.c ≤ 900) (q : ∀ H', Q (.bool true) H') :
  wpSs Θg (f_l_deeds.body.drop 6) [some (.scr ns), some (.ref k.b), some (.ref n), some (.int a), some (.ref j), some (.int hours), some (.tup [.int g, .int a]), some (.ref r), none, none, none, none, none] H (fun fl _ H1 => Q (retV fl) H1) fun x _ H1 => X x H1 := by
 have h1 := K.hh.1
 have h2 := K.hh.2
 have a0 := K.av.1
 have ha := K.ha
 have zh := K.zh
 refine zs_cons ?_
 generalize hK : sqX Θg (_ :: _) = K'
 simp_arith only [D.book.ns, ↓Tg_ce, cc_cell]
 refine ⟨K.zn, ?_⟩
 have c1 := Int.emod_nonneg (cell ns 7) (show (40 : Int) ≠ 0 by decide)
 have c2 := Int.emod_lt_of_pos (cell ns 7) (show (0 : Int) < 40 by decide)
 generalize cell ns 7 % 40 = c at c1 c2 ⊢
 simp_arith only [↓Tg_mv]
 refine ⟨k, al, hs, ⟨g, a, hours, ps.map Prs.nm⟩, ps, a + 1, _, ⟨D.book, rfl, fun p hp => ⟨K.F.sub p hp, fine_of K.ok p hp⟩, ⟨K.hh, ⟨by lia, by lia⟩, ⟨by show 0 ≤ a + 1 + hours + c; lia, by lia⟩, by lia, by lia⟩, by lia⟩, fun H1 hp1 _ => ?_, fun b H1 _ f1 B1 => ?_⟩
 ·subst hK
  refine zs_cons ?_
  generalize hK : sqX Θg (_ :: _) = K'
  simp_arith only [isNoneV]
  subst hK
  rw [sqX_next]
  exact de_8 (m := ⟨g, a, hours, ps.map Prs.nm⟩) K (D.pre hp1) em hc q
 ·subst hK
  have D1 := D.bk B1 f1 fun _ h => .inl h
  refine zs_cons ?_
  generalize hK : sqX Θg (_ :: _) = K'
  simp_arith only [isNoneV]
  have D2 := D1.pre (pre_new (o := .list [V.tup [.int b, .int hours]]))
  have l2 := listAt_new (H := H1) (l := [V.tup [.int b, .int hours]])
  generalize H1.length = i1 at *
  generalize H1 ++ [O.list [V.tup [.int b, .int hours]]] = H2 at *
  simp_arith only [↓Tg_pu]
  refine ⟨n, r, i1, as, ps, me, ml hs, es, [(b, hours)], D2.l, D2.P, K.F.nd, K.F.zp, D2.lr, D2.R, l2, fun p _ => pt_z K.zh, fun H3 as3 f3 s3 P3 => ?_⟩
  subst hK
  rw [sqX_next]
  exact de_8 (m := ⟨g, b, hours, ps.map Prs.nm⟩) K (D2.put f3 s3 P3) (fun p hp => (ml_snoc (m := ⟨g, b, hours, ps.map Prs.nm⟩) (who_in hp)).symm) hc q
inductive IC_deeds (H : Hp) (Q : V → Hp → Prop) : List V → Prop where
 | mk (ns : List Int) (k : Bk) (al ps : List Prs) (hs : List Mtg) (n j : Nat) (as : List Ad) (hours lo a : Int) : Dk ns al ps hs hours lo a → Sta H k al hs n as ps → (∀ i ∈ n :: j :: ads as, i ∉ k.foot) → Un as → k.c ≤ 800 → listAt H j = some [.int hours, .int lo] → (∀ H', Q (.bool true) H') → IC_deeds H Q [.scr ns, .ref k.b, .ref n, .int a, .ref j]
noncomputable def C_deeds : Ctr := fun vs H Q _ => IC_deeds H Q vs
theorem w_deeds : ∀ vs H Q X, C_deeds vs H Q X → wpFn Θg f_l_deeds vs H Q X := by
 rintro vs H Q X ⟨ns, k, al, ps, hs, n, j, as, hours, lo, a, K, S, dj, un, hc, lj, q⟩
 refine fn_of rfl ?_
 have h1 := K.hh.1
 have h2 := K.hh.2
 have a0 := K.av.1
 have ha := K.ha
 have zh := K.zh
 change wpSs Θg f_l_deeds.body [some (.scr ns), some (.ref k.b), some (.ref n), some (.int a), some (.ref j), none, none, none, none, none, none, none, none] H _ _
 refine zs_cons ?_
 generalize hK : sqX Θg (_ :: _) = K'
 simp_arith only [lj]
 subst hK
 refine zs_cons ?_
 generalize hK : sqX Θg (_ :: _) = K'
 have sl := S.l
 simp_arith only [sl, S.book.ns]
 refine nm_comp ?_ ?_ as ps [] S.P ?_
 ·show 10 < 13; decide
 ·exact sl
 refine ⟨nm_len K.F.zp, ?_⟩
 rw [List.nil_append]
 have l1 := listAt_new (H := H) (l := nmL ps)
 have p1 : H <+: H ++ [.list (nmL ps)] := pre_new
 have S1 := S.pre p1
 have j1 := listAt_pre p1 lj
 have ni : H.length ∉ k.foot := fun h => by have := S.book.lt _ h; lia
 generalize H.length = i1 at *
 generalize H ++ [O.list (nmL ps)] = H1 at *
 simp_arith only [↓Tg_me]
 have ok := (ok_same S.no (ps := ps) (hours := hours) a0).mp K.fd.2.1
 refine ⟨k, i1, al, hs, ps, hours, a, _, ⟨S1.book, l1, S.sub⟩, fine_of K.ok, S.ne, S.nd, ⟨K.hh, K.av, ⟨by lia, by lia⟩, by lia, by lia⟩, ni, by lia, by lia, fun H2 _ F => ?_, fun b k' H2 F f2 ft eb eg ec B2 => ?_⟩
 ·rcases F with ⟨b, e, _⟩ | ⟨_, no⟩
  ·exact nomatch e
  ·exact absurd ok (no a (Int.le_refl _) (by lia))
 obtain rfl : b = a := by
  rcases F with ⟨b', e, h3, h4, _⟩ | ⟨e, _⟩
  ·cases e; lia
  ·exact nomatch e
 subst hK
 rw [← eb]
 have nf : ∀ i ∈ n :: j :: ads as, i ∉ k'.foot := fun i hi => by rw [ft]; exact dj i hi
 have g1 := f2.list (dj n (.head _)) S1.l
 have g2 := S1.P.fr f2 fun i hi => dj i (.tail _ (.tail _ hi))
 have g3 := f2.list (dj j (.tail _ (.head _))) j1
 refine zs_cons ?_
 generalize hK : sqX Θg (_ :: _) = K'
 simp_arith only [isNoneV]
 refine ⟨fun h => absurd rfl h, fun _ => ?_⟩
 subst hK
 refine zs_cons ?_
 generalize hK : sqX Θg (_ :: _) = K'
 simp_arith only [g1]
 refine er_comp ?_ ?_ as ps [] g2 ?_
 ·show 10 < 13; decide
 ·exact g1
 refine ⟨by rw [List.nil_append, List.length_map, List.length_map, g2.length]; have := K.F.zp; lia, ?_⟩
 rw [List.nil_append]
 subst hK
 rw [sqX_next]
 have p3 : H2 <+: H2 ++ [.list ((as.map Ad.e).map V.ref)] := pre_new
 have D3 : Dd (H2 ++ [.list ((as.map Ad.e).map V.ref)]) k' al (hs ++ [⟨k.g + 1, b, hours, ps.map Prs.nm⟩]) (ml hs) n as ps (ml hs) H2.length (as.map Ad.e) j hours lo := ⟨B2.pre p3, listAt_pre p3 g1, g2.pre p3, listAt_new, rw_of (g2.pre p3), listAt_pre p3 g3, fun i hi => by
  rcases List.mem_cons.mp hi with q | hi
  ·rw [q]; exact nf n (.head _)
  rcases List.mem_cons.mp hi with q | hi
  ·rw [q]; exact fun h => by have := B2.lt _ h; lia
  rcases List.mem_cons.mp hi with q | hi
  ·rw [q]; exact nf j (.tail _ (.head _))
  rcases List.mem_append.mp hi with hi | hi
  ·refine e1_2 (List.mem_map.mp hi) fun x hx e_248 => ?_
   obtain rfl := e_248
   exact nf _ (.tail _ (.tail _ (ads_mem hx ad_e)))
  ·exact nf i (.tail _ (.tail _ hi)), un⟩
 generalize H2.length = i2 at *
 generalize H2 ++ [O.list ((as.map Ad.e).map V.ref)] = H3 at *
 refine zs_cons ?_
 generalize hK : sqX Θg (_ :: _) = K'
 simp_arith only [X_lit]
 have D4 := D3.pre (pre_new (o := .list [V.tup [.int b, .int hours]]))
 have l4 := listAt_new (H := H3) (l := [V.tup [.int b, .int hours]])
 generalize H3.length = i3 at *
 generalize H3 ++ [O.list [V.tup [.int b, .int hours]]] = H4 at *
 simp_arith only [↓Tg_pu]
 refine ⟨n, i2, i3, as, ps, ml hs, ml hs, as.map Ad.e, [(b, hours)], D4.l, D4.P, K.F.nd, K.F.zp, D4.lr, D4.R, l4, fun p _ => pt_z K.zh, fun H5 as5 f5 s5 P5 => ?_⟩
 subst hK
 have em : ∀ p ∈ ps, ml hs p ++ [(b, hours)] = ml (hs ++ [⟨k.g + 1, b, hours, ps.map Prs.nm⟩]) p := fun p hp => (ml_snoc (m := ⟨k.g + 1, b, hours, ps.map Prs.nm⟩) (who_in hp)).symm
 have D5 := D4.put f5 s5 P5
 refine zs_cons ?_
 generalize hK : sqX Θg (_ :: _) = K'
 simp_arith only [↓Tg_as]
 refine ⟨ns, k', al, _, n, as5, ps, j, hours, lo, K.zn, D5.sta K.F (z_snoc K.zh) em, D5.lj, K.hh, K.hl, fun H6 hp6 => ?_⟩
 simp_arith only [X_lit]
 subst hK
 exact de_6 (g := k.g + 1) K (D5.pre hp6) em (by lia) q
end
noncomputable def Θh : Orc := ext "_law_deeds" C_deeds Θg
end Mine
namespace Mine
open PySem
noncomputable def riseB (most : Int) : Int → List Int → Bool
 | _, [] => true
 | a, d :: r => decide (a < d) && decide (d ≤ most) && riseB most d r
theorem rise_of {most : Int} : ∀ {ds : List Int} {a : Int}, riseB most a ds = true → rise most a ds
 | [], _, _ => trivial
 | d :: r, a, h => by
  have h : (decide (a < d) && decide (d ≤ most) && riseB most d r) = true := h
  rw [Bool.and_eq_true, Bool.and_eq_true, decide_eq_true_eq, decide_eq_true_eq] at h
  exact ⟨h.1.1, h.1.2, rise_of h.2⟩
noncomputable def wdGo : List Int → Int → List Int
 | [], _ => []
 | k :: r, b => if b % 2 = 1 then k :: wdGo r (b / 2) else wdGo r (b / 2)
noncomputable def wd (b : Int) : List Int := wdGo [0, 1, 2, 3, 4, 5, 6] b
theorem wd_all : ∀ k : Fin 127, (decide (1 ≤ (wd (1 + (k.val : Int))).length) && decide ((wd (1 + (k.val : Int))).length ≤ 7) && riseB 6 (-1) (wd (1 + (k.val : Int)))) = true := by decide +kernel
theorem wd_fine (c : Int) : 1 ≤ (wd (1 + c % 127)).length ∧ (wd (1 + c % 127)).length ≤ 7 ∧ rise 6 (-1) (wd (1 + c % 127)) := by
 have h1 : 0 ≤ c % 127 := Int.emod_nonneg _ (by decide)
 have h2 : c % 127 < 127 := Int.emod_lt_of_pos _ (by decide)
 have := wd_all ⟨(c % 127).toNat, by lia⟩
 simp only [Int.toNat_of_nonneg h1] at this
 rw [Bool.and_eq_true, Bool.and_eq_true, decide_eq_true_eq, decide_eq_true_eq] at this
 exact ⟨this.1.1, this.1.2, rise_of this.2⟩
noncomputable def C_weekdays : Ctr := fun vs H Q _ => ∃ b : Int, vs = [.int b] ∧ ∀ H', H <+: H' → Q (intsV (wd b)) H'
theorem wd_loop {XF : XS} {t3 t4 t5 : Option V} {H : Hp} {Q : QS} : ∀ (ks : List Int) (b : Int) (t2 : Option V) (acc : List Int), acc.length + ks.length ≤ 1000000 →
  (∀ b' t', Q .next [some (V.int b'), some (.ref H.length), t', t3, t4, t5] (H ++ [.list ((acc ++ wdGo ks b).map .int)])) →
  forGo (whBX Θh [(.ite (.cmp (.bin .Mod (.loc 0) (.lit (.int 2))) .Eq (.lit (.int 1))) [(.expr (.meth (.loc 1) .append [(.loc 2)]))] []), (.assign 0 (.bin .FloorDiv (.loc 0) (.lit (.int 2))))] XF) (fun _ => True) 2 (ks.map V.int)
   [some (V.int b), some (.ref H.length), t2, t3, t4, t5] (H ++ [.list (acc.map .int)]) Q := by
 intro ks
 induction ks with
 | nil =>
  intro b t2 acc _ q
  have := q b t2
  rw [show wdGo [] b = [] from rfl, List.append_nil] at this
  exact this
 | cons k r ih =>
  intro b t2 acc hl q
  rw [List.map_cons, foX_cons]
  simp_arith only [listAt_new, set_new]
  rw [List.length_cons] at hl
  have e : wdGo (k :: r) b = if b % 2 = 1 then k :: wdGo r (b / 2) else wdGo r (b / 2) := rfl
  rw [e] at q
  refine ⟨fun h => ⟨⟨_, listAt_new⟩, ?_⟩, fun h => ?_⟩
  ·rw [if_pos h] at q
   have := ih (b / 2) (some (.int k)) (acc ++ [k]) (by rw [List.length_append, List.length_singleton]; lia) (by
    intro b' t'
    have := q b' t'
    rw [List.append_cons acc] at this
    exact this)
   rw [List.map_append] at this
   exact ⟨by rw [List.length_map]; lia, this⟩
  ·rw [if_neg h] at q
   exact ih (b / 2) (some (.int k)) acc (by lia) q
theorem range7 : rangeL 0 7 = [0, 1, 2, 3, 4, 5, 6].map V.int := rfl
theorem w_weekdays : ∀ vs H Q X, C_weekdays vs H Q X → wpFn Θh f_l_weekdays vs H Q X := by
 rintro vs H Q X ⟨b, rfl, q⟩
 refine fn_of rfl ?_
 simp_arith only [f_l_weekdays, initL, List.map_cons, List.map_nil, List.replicate, List.cons_append, List.nil_append]
 rw [range7]
 refine wd_loop (acc := []) [0, 1, 2, 3, 4, 5, 6] b _ (by decide) ?_
 intro b' t'
 simp_arith only [listAt_new, List.nil_append]
 exact q _ pre_new
noncomputable def Θi : Orc := ext "_law_weekdays" C_weekdays Θh
noncomputable def farOk (f : Int) : Prop := 0 ≤ f ∧ f ≤ 999999999800
noncomputable def C_far : Ctr := fun vs H Q _ => ∃ c : Int, vs = [.int c] ∧ ∀ (f : Int) (H' : Hp), H <+: H' → farOk f → Q (.int f) H'
theorem w_far : ∀ vs H Q X, C_far vs H Q X → wpFn Θi f_l_far vs H Q X := by
 rintro vs H Q X ⟨c, rfl, q⟩
 refine fn_of rfl ?_
 have hw : c % 4 = 0 ∨ c % 4 = 1 ∨ c % 4 = 2 ∨ c % 4 = 3 := by lia
 simp_arith only [f_l_far, initL, List.map_cons, List.map_nil, List.replicate, List.cons_append, List.nil_append, listAt_new]
 rcases hw with e | e | e | e
 ·rw [e]; exact q _ _ pre_new ⟨by decide, by decide⟩
 ·rw [e]; exact q _ _ pre_new ⟨by lia, by lia⟩
 ·rw [e]; exact q _ _ pre_new ⟨by lia, by lia⟩
 ·rw [e]; exact q _ _ pre_new ⟨by decide, by decide⟩
noncomputable def Θj : Orc := ext "_law_far" C_far Θi
noncomputable abbrev ABC : Str := "abcdefghijklmnopqrstuvwxyz"
theorem abc_all : ∀ k : Fin 26, idxP ABC.cps.toList (k.val : Int) = some (97 + k.val) := by decide +kernel
theorem abc_at {i : Int} (h1 : 0 ≤ i) (h2 : i < 26) : idxP ABC.cps.toList i = some (97 + i.toNat) := by
 have := abc_all ⟨i.toNat, by lia⟩
 simp only [Int.toNat_of_nonneg h1] at this
 exact this
theorem app_list {x : Str} {c : Nat} : (x ++ (⟨#[c]⟩ : Str)).cps.toList = x.cps.toList ++ [c] := Array.toList_append
theorem app_len {x : Str} {c : Nat} : (x ++ (⟨#[c]⟩ : Str)).length = x.length + 1 := by
 show (x ++ (⟨#[c]⟩ : Str)).cps.size = x.cps.size + 1
 rw [← Array.length_toList, app_list, List.length_append, Array.length_toList]; rfl
theorem app_low {x : Str} {c : Nat} (h : lowS x) (hc : 97 ≤ c ∧ c ≤ 122) : lowS (x ++ (⟨#[c]⟩ : Str)) := by
 intro d hd
 rw [app_list] at hd
 rcases List.mem_append.mp hd with q | q
 ·exact h d q
 ·rw [List.mem_singleton.mp q]; exact hc
noncomputable def plc (sh : Int) : Nat := (sh / 2 % 12).toNat
noncomputable def tagc (sh k : Int) : Nat := 97 + (sh / 24 % 2 * 13 + k).toNat
noncomputable def lowY (x : Str) : Prop := ∀ c ∈ x.cps.toList, 97 ≤ c ∧ c ≤ 121
theorem lowY.s {x : Str} (h : lowY x) : lowS x := fun c hc => ⟨(h c hc).1, Nat.le_succ_of_le (h c hc).2⟩
theorem app_lowY {x : Str} {c : Nat} (h : lowY x) (hc : 97 ≤ c ∧ c ≤ 121) : lowY (x ++ (⟨#[c]⟩ : Str)) := by
 intro d hd
 rw [app_list] at hd
 rcases List.mem_append.mp hd with q | q
 ·exact h d q
 ·rw [List.mem_singleton.mp q]; exact hc
noncomputable def Tag (sh k : Int) (x : Str) : Prop := if sh % 6 = 4 then x.length = k.toNat + 1 ∧ lowY x else x.cps.toList[plc sh]? = some (tagc sh k)
theorem Tag.ne {sh k k' : Int} {x y : Str} (h0 : 0 ≤ k) (h1 : k < k') (h : Tag sh k x) (h' : Tag sh k' y) : x ≠ y := by
 intro e
 subst e
 unfold Tag at h h'
 by_cases c : sh % 6 = 4
 ·rw [if_pos c] at h h'; have := h.1; have := h'.1; lia
 ·rw [if_neg c] at h h'
  rw [h] at h'
  have := Option.some.inj h'
  unfold tagc at this
  lia
noncomputable def zN (c : Nat) : Str := ⟨#[122, c]⟩
theorem Tag.nz {sh k : Int} {x : Str} {c : Nat} (h0 : 0 ≤ k) (h1 : k ≤ 6) (hc : 117 ≤ c) (h : Tag sh k x) : x ≠ zN c := by
 intro e
 subst e
 unfold Tag at h
 by_cases d : sh % 6 = 4
 ·rw [if_pos d] at h
  have := (h.2 122 (show 122 ∈ [122, c] from .head _)).2
  lia
 ·rw [if_neg d] at h
  have hm : 117 ≤ tagc sh k := by
   rcases List.mem_cons.mp (show tagc sh k ∈ [122, c] from List.mem_of_getElem? h) with q | q
   ·lia
   ·rw [List.mem_singleton.mp q]; exact hc
  unfold tagc at hm
  lia
theorem low_nil : lowS "" := fun c h => by cases h
theorem lowY_nil : lowY "" := fun c h => by cases h
inductive IC_name_by (H : Hp) (Q : V → Hp → Prop) : List V → Prop where
 | mk (sh : Int) (ce : Int) (k : Int) : (0 ≤ k) → (k ≤ 11) → (∀ x, nameOk x → Tag sh k x → Q (.str x) H) → IC_name_by H Q ([.int sh, .int ce, .int k])
noncomputable def C_name_by : Ctr := fun vs H Q _ => IC_name_by H Q vs
theorem n1_loop {XF : XS} {sh ce k : Int} {v4 : V} {t7 t8 t9 : Option V} {H : Hp} {Q : QS} : ∀ (js : List Int) (x : Str) (t6 : Option V), lowY x → x.length + js.length ≤ 12 →
  (∀ x' t6', lowY x' → x'.length = x.length + js.length → Q .next [some (.int sh), some (.int ce), some (.int k), some (.str ABC), some v4, some (.str x'), t6', t7, t8, t9] H) →
  forGo (whBX Θj [(.assign 5 (.bin .Add (.loc 5) (.sub (.loc 3) (.bin .Mod (.bin .Add (.bin .FloorDiv (.loc 0) (.lit (.int 6))) (.bin .Mult (.loc 6) (.bin .Add (.lit (.int 1)) (.bin .Mod (.bin .FloorDiv (.loc 0) (.lit (.int 150))) (.lit (.int 5)))))) (.lit (.int 25))))))] XF) (fun _ => True) 6 (js.map V.int)
   [some (.int sh), some (.int ce), some (.int k), some (.str ABC), some v4, some (.str x), t6, t7, t8, t9] H Q := by
 intro js
 induction js with
 | nil => intro x t6 hl hz q; exact q x t6 hl rfl
 | cons j js ih =>
  intro x t6 hl hz q
  rw [List.map_cons, foX_cons]
  rw [List.length_cons] at hz q
  have hi := abc_at (i := (sh / 6 + j * (1 + sh / 150 % 5)) % 25) (Int.emod_nonneg _ (by decide)) (by have := Int.emod_lt_of_pos (sh / 6 + j * (1 + sh / 150 % 5)) (show (0 : Int) < 25 by decide); lia)
  have hc : 97 ≤ 97 + ((sh / 6 + j * (1 + sh / 150 % 5)) % 25).toNat ∧ 97 + ((sh / 6 + j * (1 + sh / 150 % 5)) % 25).toNat ≤ 121 := by
   have := Int.emod_lt_of_pos (sh / 6 + j * (1 + sh / 150 % 5)) (show (0 : Int) < 25 by decide)
   lia
  simp_arith only [↓sV_str, ↓q_lenstr, ↓q_sstr, ↓q_ins, ↓q_nins, ↓u_str, ↓q_adds, hi]
  refine ⟨.inr ⟨by lia, by lia⟩, by show x.length + 1 ≤ _; lia, ih _ _ (app_lowY hl hc) (by rw [app_len]; lia) fun x' t6' h1 h2 => q x' t6' h1 (by rw [h2, app_len]; lia)⟩
theorem n2_loop {XF : XS} {sh ce k : Int} {t7 t8 t9 : Option V} {H : Hp} {Q : QS} (hk : 0 ≤ k ∧ k ≤ 11) : ∀ (n : Nat) (j : Nat) (x : Str) (t6 : Option V), lowS x → x.length = j → j + n ≤ 12 → (plc sh < j → x.cps.toList[plc sh]? = some (tagc sh k)) →
  (∀ x' t6', lowS x' → x'.length = j + n → (plc sh < j + n → x'.cps.toList[plc sh]? = some (tagc sh k)) → Q .next [some (.int sh), some (.int ce), some (.int k), some (.str ABC), some (.int (sh / 2 % 12)), some (.str x'), t6', t7, t8, t9] H) →
  forGo (whBX Θj [(.ite (.cmp (.loc 6) .Eq (.loc 4)) [(.assign 5 (.bin .Add (.loc 5) (.sub (.loc 3) (.bin .Add (.bin .Mult (.bin .Mod (.bin .FloorDiv (.loc 0) (.lit (.int 24))) (.lit (.int 2))) (.lit (.int 13))) (.loc 2)))))] [(.assign 5 (.bin .Add (.loc 5) (.sub (.loc 3) (.bin .Mod (.bin .Add (.bin .FloorDiv (.loc 1) (.lit (.int 288))) (.bin .Mult (.loc 6) (.bin .Add (.lit (.int 1)) (.bin .Mod (.loc 1) (.lit (.int 5)))))) (.lit (.int 26))))))])] XF) (fun _ => True) 6
   ((List.range' j n).map fun (m : Nat) => V.int (m : Int)) [some (.int sh), some (.int ce), some (.int k), some (.str ABC), some (.int (sh / 2 % 12)), some (.str x), t6, t7, t8, t9] H Q := by
 intro n
 induction n with
 | zero => intro j x t6 hl hx _ ht q; exact q x t6 hl hx ht
 | succ n ih =>
  intro j x t6 hl hx hz ht q
  show forGo _ _ _ (V.int (j : Int) :: ((List.range' (j + 1) n).map fun (m : Nat) => V.int (m : Int))) _ _ _
  rw [foX_cons]
  have hi1 := abc_at (i := sh / 24 % 2 * 13 + k) (by lia) (by lia)
  have hi2 := abc_at (i := (ce / 288 + (j : Int) * (1 + ce % 5)) % 26) (Int.emod_nonneg _ (by decide)) (Int.emod_lt_of_pos _ (by decide))
  have hpl : 0 ≤ sh / 2 % 12 := by lia
  have nxt : ∀ c, 97 ≤ c ∧ c ≤ 122 → (plc sh = j → c = tagc sh k) → forGo (whBX Θj _ XF) (fun _ => True) 6 ((List.range' (j + 1) n).map fun (m : Nat) => V.int (m : Int)) [some (.int sh), some (.int ce), some (.int k), some (.str ABC), some (.int (sh / 2 % 12)), some (.str (x ++ (⟨#[c]⟩ : Str))), some (.int (j : Int)), t7, t8, t9] H Q := fun c hc hp => by
   refine ih (j + 1) _ _ (app_low hl hc) (by rw [app_len, hx]) (by lia) (fun h => ?_) fun x' t6' h1 h2 h3 => q x' t6' h1 (by lia) fun h => h3 (by lia)
   rw [app_list]
   have hxl : x.cps.toList.length = j := by rw [Array.length_toList]; exact hx
   by_cases hj : plc sh = j
   ·rw [List.getElem?_append_right (by lia), hxl, hj, Nat.sub_self, ← hp hj]; rfl
   ·rw [List.getElem?_append_left (by lia)]; exact ht (by lia)
  simp_arith only [↓sV_str, ↓q_lenstr, ↓q_sstr, ↓q_ins, ↓q_nins, ↓u_str, ↓q_adds, hi1, hi2]
  refine ⟨fun h => ⟨by show x.length + 1 ≤ _; lia, ?_⟩, fun h => ⟨.inr ⟨by lia, by lia⟩, by show x.length + 1 ≤ _; lia, ?_⟩⟩
  ·exact nxt _ (by lia) fun _ => rfl
  ·refine nxt _ ?_ fun hp => absurd ?_ h
   ·have := Int.emod_lt_of_pos (ce / 288 + (j : Int) * (1 + ce % 5)) (show (0 : Int) < 26 by decide)
    lia
   ·unfold plc at hp; lia
theorem rangeL_N {b : Int} : rangeL 0 b = (List.range' 0 b.toNat).map fun (m : Nat) => V.int (m : Int) := by
 unfold rangeL
 rw [← List.range_eq_range', show b - 0 = b by lia]
 exact List.map_congr_left fun k _ => by rw [Int.zero_add]
theorem w_name_by : ∀ vs H Q X, C_name_by vs H Q X → wpFn Θj f_l_name_by vs H Q X := by
 rintro vs H Q X ⟨sh, ce, k, h0, h1, q⟩
 refine fn_of rfl ?_
 change wpSs Θj f_l_name_by.body [some (.int sh), some (.int ce), some (.int k), none, none, none, none, none, none, none] H _ _
 have two : ∀ ce : Int, ¬ sh % 6 = 4 → wpSs Θj (f_l_name_by.body.drop 5) [some (.int sh), some (.int ce), some (.int k), some (.str ABC), some (.int (sh / 2 % 12)), some (.str ""), none, none, none, none] H (fun fl _ H1 => Q (retV fl) H1) (fun x _ H1 => X x H1) := fun ce h6 => by
  refine zs_cons ?_
  generalize hK : sqX Θj (_ :: _) = K
  have hp1 : 0 ≤ sh / 2 % 12 := by lia
  have hp2 : sh / 2 % 12 < 12 := by lia
  have he1 := Int.emod_nonneg (ce / 24) (show 12 - sh / 2 % 12 ≠ 0 by lia)
  have he2 := Int.emod_lt_of_pos (ce / 24) (show 0 < 12 - sh / 2 % 12 by lia)
  simp_arith only [↓sV_str, ↓q_lenstr, ↓q_sstr, ↓q_ins, ↓q_nins, ↓u_str, ↓q_adds]
  refine ⟨⟨by lia, by lia⟩, ⟨by lia, by lia⟩, ?_⟩
  rw [rangeL_N]
  subst hK
  refine n2_loop ⟨h0, h1⟩ _ 0 _ _ low_nil rfl (by lia) (fun h => by lia) fun x' t6' k1 k2 k3 => ?_
  simp_arith only [↓sV_str, ↓q_lenstr, ↓q_sstr, ↓q_ins, ↓q_nins, ↓u_str, ↓q_adds]
  refine q x' ⟨by lia, by lia, k1⟩ ?_
  unfold Tag
  rw [if_neg h6]
  exact k3 (by unfold plc; lia)
 have main : ∀ ce : Int, wpSs Θj (f_l_name_by.body.drop 3) [some (.int sh), some (.int ce), some (.int k), some (.str ABC), some (.int (sh / 2 % 12)), none, none, none, none, none] H (fun fl _ H1 => Q (retV fl) H1) (fun x _ H1 => X x H1) := fun ce => by
  refine zs_cons ?_
  generalize hK : sqX Θj (_ :: _) = K
  simp_arith only [↓sV_str, ↓q_lenstr, ↓q_sstr, ↓q_ins, ↓q_nins, ↓u_str, ↓q_adds]
  subst hK
  refine zs_cons ?_
  generalize hK : sqX Θj (_ :: _) = K
  simp_arith only [↓sV_str, ↓q_lenstr, ↓q_sstr, ↓q_ins, ↓q_nins, ↓u_str, ↓q_adds]
  refine ⟨fun h6 => ⟨⟨by lia, by lia⟩, ?_⟩, fun h6 => by subst hK; exact two ce h6⟩
  rw [rangeL_J]
  have hlen := rangeJ_len 0 (k + 1)
  refine n1_loop _ _ _ lowY_nil (by show 0 + _ ≤ _; lia) fun x' t6' k1 k2 => ?_
  have k2 : x'.length = 0 + (rangeJ 0 (k + 1)).length := k2
  simp_arith only [↓sV_str, ↓q_lenstr, ↓q_sstr, ↓q_ins, ↓q_nins, ↓u_str, ↓q_adds]
  subst hK
  refine q x' ⟨by lia, by lia, k1.s⟩ ?_
  unfold Tag
  rw [if_pos h6]; exact ⟨by lia, k1⟩
 refine zs_cons ?_
 generalize hK : sqX Θj (_ :: _) = K
 simp_arith only [↓sV_str, ↓q_lenstr, ↓q_sstr, ↓q_ins, ↓q_nins, ↓u_str, ↓q_adds]
 subst hK
 refine zs_cons ?_
 generalize hK : sqX Θj (_ :: _) = K
 simp_arith only [↓sV_str, ↓q_lenstr, ↓q_sstr, ↓q_ins, ↓q_nins, ↓u_str, ↓q_adds]
 subst hK
 refine zs_cons ?_
 generalize hK : sqX Θj (_ :: _) = K
 simp_arith only [↓sV_str, ↓q_lenstr, ↓q_sstr, ↓q_ins, ↓q_nins, ↓u_str, ↓q_adds]
 subst hK
 exact ⟨fun _ => main _, fun _ => main _⟩
noncomputable def Θk : Orc := ext "_law_name_by" C_name_by Θj
end Mine
namespace Mine
open PySem
structure Sml (r : Rl) : Prop where
 ok : r.ok
 deep : r.deep ≤ 2
 rn : r.rn ≤ 8
theorem six {k : Int} (h1 : 0 ≤ k) (h2 : k < 6) : k = 0 ∨ k = 1 ∨ k = 2 ∨ k = 3 ∨ k = 4 ∨ k = 5 := by lia
theorem st_at {k : Int} (h1 : 0 ≤ k) (h2 : k < 6) : ∃ d : Int, idx [V.int 2, .int 3, .int 4, .int 5, .int 6, .int 8] k = some (.int d) ∧ 1 ≤ d ∧ d ≤ 8 := by
 rcases six h1 h2 with rfl | rfl | rfl | rfl | rfl | rfl <;> exact ⟨_, rfl, by decide, by decide⟩
theorem wo_at {k : Int} (h : Int) (h1 : 0 ≤ k) (h2 : k < 3) : ∃ K : Hd, idx [V.str "from", .str "until", .str "also"] k = some (.str K.w) ∧ K.v = .int h ∧ (hourOk h → K.fine) := by
 have : k = 0 ∨ k = 1 ∨ k = 2 := by lia
 rcases this with rfl | rfl | rfl
 ·exact ⟨.frm h, rfl, rfl, id⟩
 ·exact ⟨.til h, rfl, rfl, id⟩
 ·exact ⟨.als h, rfl, rfl, id⟩
noncomputable def C_small_rule : Ctr := fun vs H Q _ => ∃ (i : Nat) (a b c far : Int), vs = [.ref i, .int far] ∧ listAt H i = some [.int a, .int b, .int c] ∧ farOk far ∧ ∀ r H', H <+: H' → Sml r → Q (rv r) H'
section
variable {i : Nat} {a b c far : Int} {H : Hp} {Q : V → Hp → Prop} {X : XL} {t3 t4 t5 t6 : Option V}
theorem sr3 {r : Rl} (hl : listAt H i = some [.int a, .int b, .int c]) (hf : farOk far) (h1 : r.ok) (h2 : r.deep ≤ 1) (h3 : r.rn ≤ 8) (q : ∀ r H', H <+: H' → Sml r → Q (rv r) H') :
  wpSs Θk (f_l_small_rule.body.drop 3) [some (.ref i), some (.int far), some (rv r), t3, t4, t5, t6] H (fun fl _ H1 => Q (retV fl) H1) fun x _ H1 => X x H1 := by
 refine zs_cons ?_
 generalize hK : sqX Θk (_ :: _) = K
 simp_arith only [hl]
 have f1 := hf.1
 have f2 := hf.2
 refine ⟨fun _ => ?_, fun _ => ?_⟩
 ·subst hK
  exact q (.hd (.but [(far + c / 6 % 30) / 24]) r) H (List.prefix_refl _) ⟨⟨⟨⟨Nat.le_refl _, by show 1 ≤ 20; decide, ⟨by lia, by lia, trivial⟩⟩, h1.1⟩, h1.2⟩, Nat.succ_le_succ h2, h3⟩
 ·subst hK
  exact q r H (List.prefix_refl _) ⟨h1, Nat.le_succ_of_le h2, h3⟩
theorem sr2 {p : Pl} (hl : listAt H i = some [.int a, .int b, .int c]) (hf : farOk far) (h1 : Rl.ok (.pl p)) (h3 : p.rn ≤ 8) (q : ∀ r H', H <+: H' → Sml r → Q (rv r) H') :
  wpSs Θk (f_l_small_rule.body.drop 2) [some (.ref i), some (.int far), some (pv p), t3, t4, t5, t6] H (fun fl _ H1 => Q (retV fl) H1) fun x _ H1 => X x H1 := by
 refine e1_3 (wo_at (far + c / 18 % 30) (Int.emod_nonneg (c / 6) (show (3 : Int) ≠ 0 by decide)) (Int.emod_lt_of_pos (c / 6) (show (0 : Int) < 3 by decide))) fun K0 e1 e2 e3 => ?_
 have f1 := hf.1
 have f2 := hf.2
 have l1 := listAt_pre (pre_new (o := .list [V.str "from", .str "until", .str "also"])) hl
 refine zs_cons ?_
 generalize hK : sqX Θk (_ :: _) = K
 simp_arith only [hl, l1, listAt_new, e1]
 rw [← e2]
 subst hK
 refine ⟨fun _ => ?_, fun _ => ?_⟩
 ·exact sr3 (r := .hd K0 (.pl p)) l1 hf ⟨⟨e3 ⟨by lia, by lia⟩, h1.1⟩, h1.2⟩ (Nat.le_refl _) h3 fun r H' hp => q r H' (pre_new.trans hp)
 ·exact sr3 (r := .pl p) hl hf h1 (Nat.zero_le _) h3 q
theorem w_small_rule : ∀ vs H Q X, C_small_rule vs H Q X → wpFn Θk f_l_small_rule vs H Q X := by
 rintro vs H Q X ⟨i, a, b, c, far, rfl, hl, hf, q⟩
 refine fn_of rfl ?_
 change wpSs Θk f_l_small_rule.body [some (.ref i), some (.int far), none, none, none, none, none] H _ _
 refine e1_3 (st_at (Int.emod_nonneg c (show (6 : Int) ≠ 0 by decide)) (Int.emod_lt_of_pos c (show (0 : Int) < 6 by decide))) fun d e1 d1 d2 => ?_
 have f1 := hf.1
 have f2 := hf.2
 have l1 := listAt_pre (pre_new (o := .list [V.int 2, .int 3, .int 4, .int 5, .int 6, .int 8])) hl
 refine zs_cons ?_
 generalize hK : sqX Θk (_ :: _) = K
 simp_arith only [hl, l1, listAt_new, e1]
 subst hK
 have q1 : ∀ r H', H ++ [O.list [V.int 2, .int 3, .int 4, .int 5, .int 6, .int 8]] <+: H' → Sml r → Q (rv r) H' := fun r H' hp => q r H' (pre_new.trans hp)
 generalize H ++ [O.list [V.int 2, .int 3, .int 4, .int 5, .int 6, .int 8]] = H1 at *
 refine zs_cons ?_
 generalize hK : sqX Θk (_ :: _) = K
 simp_arith only [l1]
 subst hK
 refine ⟨fun _ => ?_, fun _ => ?_⟩
 ·exact sr2 (p := .once (far + b % 30) (1 + a / 3 % 2)) l1 hf ⟨⟨⟨by lia, by lia⟩, ⟨by lia, by lia⟩⟩, rfl⟩ (by show 1 ≤ 8; decide) q1
 ·exact sr2 (p := .every (far + b % 8) (1 + a / 3 % 2) d) l1 hf ⟨⟨⟨by lia, by lia⟩, ⟨by lia, by lia⟩, d1, by lia⟩, rfl⟩ (by show d.toNat ≤ 8; lia) q1
end
noncomputable def Θl : Orc := ext "_law_small_rule" C_small_rule Θk
structure Lng (r : Rl) : Prop where
 fine : r.fine
 deep : r.deep ≤ 2
 rn : r.rn ≤ 1000000
noncomputable def C_long_rule : Ctr := fun vs H Q _ => ∃ c far : Int, vs = [.int c, .int far] ∧ farOk far ∧ ∀ r H', H <+: H' → Lng r → Q (rv r) H'
theorem w_long_rule : ∀ vs H Q X, C_long_rule vs H Q X → wpFn Θl f_l_long_rule vs H Q X := by
 rintro vs H Q X ⟨c, far, rfl, hf, q⟩
 refine fn_of rfl ?_
 change wpSs Θl f_l_long_rule.body [some (.int c), some (.int far), none, none, none, none] H _ _
 have f1 := hf.1
 have f2 := hf.2
 have ev : Lng (.pl (.every far 1 (5001 + c / 4 % 990000))) := ⟨⟨⟨by lia, by lia⟩, ⟨by decide, by decide⟩, by lia, by lia⟩, Nat.zero_le _, by show (5001 + c / 4 % 990000).toNat ≤ 1000000; lia⟩
 refine zs_cons ?_
 generalize hK : sqX Θl (_ :: _) = K
 simp_arith only [X_lit]
 subst hK
 refine ⟨fun _ => q _ H (List.prefix_refl _) ev, fun hn => ?_⟩
 refine zs_cons ?_
 generalize hK : sqX Θl (_ :: _) = K
 simp_arith only [X_lit]
 subst hK
 refine zs_cons ?_
 generalize hK : sqX Θl (_ :: _) = K
 have l1 := fun l o => listAt_pre (pre_new (o := o)) (listAt_new (H := H) (l := l))
 simp_arith only [l1, listAt_new]
 subst hK
 have on : hourOk (far + 5100 + c / 4 % 9000) := ⟨by lia, by lia⟩
 have pp := fun o1 o2 o3 => (pre_new (H := H) (o := o1)).trans ((pre_new (o := o2)).trans (pre_new (o := o3)))
 have k4 : c % 4 = 0 ∨ c % 4 = 1 ∨ c % 4 = 2 ∨ c % 4 = 3 := by lia
 refine zs_cons ?_
 simp_arith only [listAt_new]
 rcases k4 with e | e | e | e
 ·rw [e]; exact q (.pl (.every far 1 (5001 + c / 4 % 990000))) _ (pp _ _ _) ev
 ·rw [e]; exact q (.pl (.month (1 + c / 4 % 28) 5 2)) _ (pp _ _ _) ⟨⟨⟨by decide, by decide⟩, ⟨by decide, by decide⟩, by lia, by lia, by lia⟩, Nat.zero_le _, by show 35064 ≤ 1000000; decide⟩
 ·rw [e]; exact q (.pl (.once (far + 5100 + c / 4 % 9000) 1)) _ (pp _ _ _) ⟨⟨on, ⟨by decide, by decide⟩⟩, Nat.zero_le _, by show 1 ≤ 1000000; decide⟩
 ·rw [e]; exact q (.hd (.til (far + 5100 + c / 4 % 9000)) (.pl (.once 0 1))) _ (pp _ _ _) ⟨⟨on, ⟨⟨by decide, by decide⟩, ⟨by decide, by decide⟩⟩⟩, by show 1 ≤ 2; decide, by show 1 ≤ 1000000; decide⟩
noncomputable def Θm : Orc := ext "_law_long_rule" C_long_rule Θl
end Mine
namespace Mine
open PySem
structure Gp (p : Prs) : Prop where
 nm : nameOk p.nm
 fr : ∀ r ∈ p.fr, Sml r
 bu : ∀ r ∈ p.bu, Sml r
 zf : p.fr.length ≤ 2
 zu : p.bu.length ≤ 1
theorem Tm_ca : Θm "_law_cell_at" = C_cell_at := rfl
theorem Tm_sr : Θm "_law_small_rule" = C_small_rule := rfl
theorem Tm_nb : Θm "_law_name_by" = C_name_by := rfl
noncomputable abbrev peB : List IS := bdy (f_l_some_by.body.getD 2 .fail)
structure PeS (n : Nat) (vs : List V) (Hs H : Hp) (ce : Nat) (cs : List Int) : Prop where
 pre : Hs <+: H
 lt : n < Hs.length
 ppl : listAt Hs n = some vs
 cells : listAt H ce = some (cs.map V.int)
theorem PeS.to {n ce : Nat} {vs : List V} {Hs H H' : Hp} {cs : List Int} (S : PeS n vs Hs H ce cs) (p : H <+: H') : PeS n vs Hs H' ce cs := ⟨S.pre.trans p, S.lt, S.ppl, listAt_pre p S.cells⟩
structure Rls (Hs H : Hp) (f : Nat) (rs : List Rl) (k : Nat) : Prop where
 at' : listAt H f = some (rs.map rv)
 fine : ∀ r ∈ rs, Sml r
 len : rs.length ≤ k
 new : Hs.length ≤ f
theorem Rls.to {Hs H H' : Hp} {f k : Nat} {rs : List Rl} (S : Rls Hs H f rs k) (p : H <+: H') : Rls Hs H' f rs k := ⟨listAt_pre p S.at', S.fine, S.len, S.new⟩
noncomputable def PeQ (n : Nat) (vs : List V) (Hs : Hp) (sh k : Int) (QF : QS) (a b c d : V) : Prop := ∀ (ad : Ad) (p : Prs) (H3 : Hp) (t7 t8 t9 t10 t11 t12 : Option V), Fr [n] Hs H3 → (∀ x ∈ ad.all, Hs.length ≤ x) → ad.all.Nodup → listAt H3 n = some (vs ++ [.ref ad.i]) → PA H3 ad p [] → Gp p → Tag sh k p.nm →
 QF .next [some a, some b, some c, some d, some (.ref n), some (.int sh), some (.int k), t7, t8, t9, t10, t11, t12] H3
theorem nd4 {f u m : Nat} (hf : f < m) (hu : u < m) (h : u ≠ f) : (Ad.all ⟨m + 1, f, u, m⟩).Nodup := by
 unfold Ad.all
 simp only [List.nodup_cons, List.mem_cons, List.not_mem_nil, or_false, not_or, not_false_eq_true, List.nodup_nil, and_true]
 lia
section
variable {n ce f u : Nat} {vs : List V} {Hs H : Hp} {fr bu : List Rl} {sh k c0 far : Int} {cr : List Int} {QF : QS} {XF : XS} {a b c : V} {t9 t10 t11 t12 : Option V}
theorem pe5 (S : PeS n vs Hs H ce (c0 :: cr)) (F : Rls Hs H f fr 2) (U : Rls Hs H u bu 1) (hfu : u ≠ f) (hv : vs.length ≤ 100) (hk : 0 ≤ k ∧ k ≤ 11) (q : PeQ n vs Hs sh k QF a b c (.int far)) :
  wpSs Θm (peB.drop 5) [some a, some b, some c, some (.int far), some (.ref n), some (.int sh), some (.int k), some (.ref ce), some (.ref f), some (.ref u), t10, t11, t12] H QF XF := by
 have hce : listAt H ce = some (.int c0 :: cr.map V.int) := S.cells
 have hpp := listAt_pre S.pre S.ppl
 have hpp2 := listAt_pre (pre_new (o := .list [])) hpp
 change wpSs Θm [.expr (.meth (.loc 4) .append [.lst [(.call (.fn "_law_name_by") [(.loc 5), (.bin .FloorDiv (.sub (.loc 7) (.lit (.int 0))) (.lit (.int 12))), (.loc 6)]), (.loc 8), (.loc 9), (.lst [])]])] _ _ _ _
 simp_arith only [hpp, hce, ↓Tm_nb]
 refine ⟨⟨_, hpp⟩, sh, _, k, hk.1, hk.2, fun x hx ht => ?_⟩
 have hp3 := fun l => listAt_pre (pre_new (o := .list l)) hpp2
 simp_arith only [hp3]
 refine ⟨by lia, ?_⟩
 have hlt := S.lt
 have hle := S.pre.length_le
 have fl := listAt_lt F.at'
 have ul := listAt_lt U.at'
 have fn := F.new
 have un := U.new
 have pp : H <+: H ++ [O.list []] ++ [O.list [V.str x, V.ref f, V.ref u, V.ref H.length]] := pre_new.trans pre_new
 have e1 : (H ++ [O.list []]).length = H.length + 1 := by rw [List.length_append]; rfl
 have l2 : listAt (H ++ [O.list []] ++ [O.list [V.str x, V.ref f, V.ref u, V.ref H.length]]) (H.length + 1) = some [V.str x, V.ref f, V.ref u, V.ref H.length] := e1 ▸ listAt_new
 have P : PA (H ++ [O.list []] ++ [O.list [V.str x, V.ref f, V.ref u, V.ref H.length]]) ⟨H.length + 1, f, u, H.length⟩ ⟨x, fr, bu⟩ [] := ⟨l2, listAt_pre pp F.at', listAt_pre pp U.at', listAt_pre pre_new listAt_new⟩
 have hge : ∀ y ∈ Ad.all ⟨H.length + 1, f, u, H.length⟩, Hs.length ≤ y := fun y hy => by
  rcases List.mem_cons.mp hy with q | hy
  ·rw [q]; show Hs.length ≤ H.length + 1; lia
  rcases List.mem_cons.mp hy with q | hy
  ·rw [q]; exact fn
  rcases List.mem_cons.mp hy with q | hy
  ·rw [q]; exact un
  rw [List.mem_singleton.mp hy]; exact hle
 have f1 : Fr [n] Hs (H ++ [O.list []] ++ [O.list [V.str x, V.ref f, V.ref u, V.ref H.length]]) := Fr.pre (S.pre.trans pp)
 rw [e1]
 exact q ⟨H.length + 1, f, u, H.length⟩ ⟨x, fr, bu⟩ _ _ _ _ _ _ _ (f1.trans Fr.set fun _ h => .inl h) hge (nd4 fl ul hfu) (listAt_set (hp3 _)) (P.fr Fr.set fun y hy => nin1 (by have := hge y hy; lia)) ⟨hx, F.fine, U.fine, F.len, U.len⟩ ht
end
theorem PeS.set {n ce u : Nat} {vs : List V} {Hs H : Hp} {cs : List Int} {o : O} (S : PeS n vs Hs H ce cs) (hu : Hs.length ≤ u) (hne : u ≠ ce) : PeS n vs Hs (H.set u o) ce cs := ⟨pre_set S.pre hu, S.lt, S.ppl, by rw [listAt_set_ne hne]; exact S.cells⟩
theorem Rls.set {Hs H : Hp} {f u k : Nat} {rs : List Rl} {o : O} (F : Rls Hs H f rs k) (hne : u ≠ f) : Rls Hs (H.set u o) f rs k := ⟨by rw [listAt_set_ne hne]; exact F.at', F.fine, F.len, F.new⟩
theorem Rls.app {Hs H : Hp} {u k : Nat} {rs : List Rl} {r : Rl} (U : Rls Hs H u rs k) (hr : Sml r) : Rls Hs (H.set u (.list (rs.map rv ++ [rv r]))) u (rs ++ [r]) (k + 1) := by
 refine ⟨?_, fun x hx => ?_, ?_, U.new⟩
 ·rw [List.map_append]; exact listAt_set U.at'
 ·rcases List.mem_append.mp hx with q | q
  ·exact U.fine x q
  ·rw [List.mem_singleton.mp q]; exact hr
 ·rw [List.length_append]; exact Nat.succ_le_succ U.len
theorem Rls.le {Hs H : Hp} {u k k' : Nat} {rs : List Rl} (U : Rls Hs H u rs k) (h : k ≤ k') : Rls Hs H u rs k' := ⟨U.at', U.fine, Nat.le_trans U.len h, U.new⟩
section
variable {a0 a1 a2 a3 a4 a5 a6 a7 a8 a9 : V}
theorem s1 : cutL (.int 1) (.int 4) [a0, a1, a2, a3, a4, a5, a6, a7, a8, a9] = some [a1, a2, a3] := rfl
theorem s4 : cutL (.int 4) (.int 7) [a0, a1, a2, a3, a4, a5, a6, a7, a8, a9] = some [a4, a5, a6] := rfl
theorem s7 : cutL (.int 7) (.int 10) [a0, a1, a2, a3, a4, a5, a6, a7, a8, a9] = some [a7, a8, a9] := rfl
end
section
variable {n ce f u : Nat} {vs : List V} {Hs H : Hp} {fr bu : List Rl} {sh k far c0 c1 c2 c3 c4 c5 c6 c7 c8 c9 : Int} {QF : QS} {XF : XS} {a b c : V} {t8 t9 t10 t11 t12 : Option V}
theorem pe4 (S : PeS n vs Hs H ce [c0, c1, c2, c3, c4, c5, c6, c7, c8, c9]) (F : Rls Hs H f fr 2) (U : Rls Hs H u bu 0) (hcu : u ≠ ce) (hfu : u ≠ f) (hfar : farOk far) (hv : vs.length ≤ 100) (hk : 0 ≤ k ∧ k ≤ 11) (q : PeQ n vs Hs sh k QF a b c (.int far)) :
  wpSs Θm (peB.drop 4) [some a, some b, some c, some (.int far), some (.ref n), some (.int sh), some (.int k), some (.ref ce), some (.ref f), some (.ref u), t10, t11, t12] H QF XF := by
 have hce : listAt H ce = some [.int c0, .int c1, .int c2, .int c3, .int c4, .int c5, .int c6, .int c7, .int c8, .int c9] := S.cells
 refine zs_cons ?_
 generalize hK : sqX Θm (_ :: _) = K
 simp_arith only [hce, s7, ↓Tm_sr]
 refine ⟨fun _ => ⟨⟨_, U.at'⟩, _, c7, c8, c9, far, rfl, listAt_new, hfar, fun r H2 hp2 hr => ?_⟩, fun _ => by subst hK; exact pe5 S F (U.le (by decide)) hfu hv hk q⟩
 have pp := pre_new.trans hp2
 have U3 := U.to pp
 simp_arith only [U3.at']
 refine ⟨by rw [List.length_map]; have := U3.len; lia, ?_⟩
 subst hK
 exact pe5 ((S.to pp).set U.new hcu) ((F.to pp).set hfu) (U3.app hr) hfu hv hk q
theorem pe3 (S : PeS n vs Hs H ce [c0, c1, c2, c3, c4, c5, c6, c7, c8, c9]) (F : Rls Hs H f fr 2) (hfar : farOk far) (hv : vs.length ≤ 100) (hk : 0 ≤ k ∧ k ≤ 11) (q : PeQ n vs Hs sh k QF a b c (.int far)) :
  wpSs Θm (peB.drop 3) [some a, some b, some c, some (.int far), some (.ref n), some (.int sh), some (.int k), some (.ref ce), some (.ref f), t9, t10, t11, t12] H QF XF := by
 refine zs_cons ?_
 generalize hK : sqX Θm (_ :: _) = K
 simp_arith only [X_lit]
 subst hK
 have h1 := listAt_lt S.cells
 have h2 := listAt_lt F.at'
 exact pe4 (S.to pre_new) (F.to pre_new) (bu := []) ⟨listAt_new, fun _ h => (nomatch h), Nat.le_refl _, S.pre.length_le⟩ (by lia) (by lia) hfar hv hk q
theorem pe2 (S : PeS n vs Hs H ce [c0, c1, c2, c3, c4, c5, c6, c7, c8, c9]) (F : Rls Hs H f fr 1) (hcf : f ≠ ce) (hfar : farOk far) (hv : vs.length ≤ 100) (hk : 0 ≤ k ∧ k ≤ 11) (q : PeQ n vs Hs sh k QF a b c (.int far)) :
  wpSs Θm (peB.drop 2) [some a, some b, some c, some (.int far), some (.ref n), some (.int sh), some (.int k), some (.ref ce), some (.ref f), t9, t10, t11, t12] H QF XF := by
 have hce : listAt H ce = some [.int c0, .int c1, .int c2, .int c3, .int c4, .int c5, .int c6, .int c7, .int c8, .int c9] := S.cells
 refine zs_cons ?_
 generalize hK : sqX Θm (_ :: _) = K
 simp_arith only [hce, s4, ↓Tm_sr]
 refine ⟨fun _ => ⟨⟨_, F.at'⟩, _, c4, c5, c6, far, rfl, listAt_new, hfar, fun r H2 hp2 hr => ?_⟩, fun _ => by subst hK; exact pe3 S (F.le (by decide)) hfar hv hk q⟩
 have pp := pre_new.trans hp2
 have F3 := F.to pp
 simp_arith only [F3.at']
 refine ⟨by rw [List.length_map]; have := F3.len; lia, ?_⟩
 subst hK
 exact pe3 ((S.to pp).set F.new hcf) (F3.app hr) hfar hv hk q
theorem pe1 (S : PeS n vs Hs H ce [c0, c1, c2, c3, c4, c5, c6, c7, c8, c9]) (hfar : farOk far) (hv : vs.length ≤ 100) (hk : 0 ≤ k ∧ k ≤ 11) (q : PeQ n vs Hs sh k QF a b c (.int far)) :
  wpSs Θm (peB.drop 1) [some a, some b, some c, some (.int far), some (.ref n), some (.int sh), some (.int k), some (.ref ce), t8, t9, t10, t11, t12] H QF XF := by
 have hce : listAt H ce = some [.int c0, .int c1, .int c2, .int c3, .int c4, .int c5, .int c6, .int c7, .int c8, .int c9] := S.cells
 refine zs_cons ?_
 generalize hK : sqX Θm (_ :: _) = K
 simp_arith only [hce, s1, ↓Tm_sr]
 refine ⟨_, c1, c2, c3, far, rfl, listAt_new, hfar, fun r H2 hp2 hr => ?_⟩
 simp_arith only [X_lit]
 subst hK
 have pp := pre_new.trans hp2
 have h1 := listAt_lt S.cells
 have h2 := pp.length_le
 refine pe2 (fr := [r]) ((S.to pp).to pre_new) ⟨listAt_new, fun r' hr' => ?_, Nat.le_refl _, Nat.le_trans S.pre.length_le h2⟩ (by lia) hfar hv hk q
 rw [List.mem_singleton.mp hr']; exact hr
end
theorem ce_comp {ns : List Int} {at0 k far : Int} {v2 v4 v5 : V} {t7 t8 t9 t10 t11 t12 : Option V} {H : Hp} {X : XL} {Q : List V → Hp → Prop} (hz : ns.length ≤ 1000) : ∀ (js : List Int) (acc : List V), Q (acc ++ js.map fun j => V.int (cell ns (at0 + 10 * k + j))) H →
  compGo (coEX Θm (.call (.fn "_law_cell_at") [(.loc 0), (.bin .Add (.bin .Add (.loc 1) (.bin .Mult (.lit (.int 10)) (.loc 6))) (.loc 10))]) X) (fun _ => True) 10
   [some (.scr ns), some (.int at0), some v2, some (.int far), some v4, some v5, some (.int k), t7, t8, t9, t10, t11, t12] (js.map V.int) acc H Q := by
 intro js
 induction js with
 | nil => intro acc q; rw [List.map_nil, List.append_nil] at q; exact q
 | cons j js ih =>
  intro acc q
  rw [List.map_cons, coX_cons]
  simp_arith only [↓Tm_ca, ↓cc_cell]
  refine ⟨hz, ih _ ?_⟩
  rw [List.map_cons, List.append_cons] at q
  exact q
theorem range10 : rangeL 0 10 = [0, 1, 2, 3, 4, 5, 6, 7, 8, 9].map V.int := rfl
structure Ppl (H : Hp) (n : Nat) (as : List Ad) (ps : List Prs) (me : Prs → List (Int × Int)) : Prop where
 ln : listAt H n = some (refs as)
 at' : PsAt H me as ps
 nd : (n :: ads as).Nodup
theorem Ppl.pre {H H' : Hp} {n : Nat} {as : List Ad} {ps : List Prs} {me : Prs → List (Int × Int)} (q : H <+: H') (P : Ppl H n as ps me) : Ppl H' n as ps me := ⟨listAt_pre q P.ln, P.at'.pre q, P.nd⟩
theorem Ppl.fr {F : List Nat} {H H' : Hp} {n : Nat} {as : List Ad} {ps : List Prs} {me : Prs → List (Int × Int)} (P : Ppl H n as ps me) (f : Fr F H H') (hd : ∀ i ∈ n :: ads as, i ∉ F) : Ppl H' n as ps me := ⟨f.list (hd n List.mem_cons_self) P.ln, P.at'.fr f fun i hi => hd i (List.mem_cons_of_mem _ hi), P.nd⟩
theorem Ppl.lt {H : Hp} {n : Nat} {as : List Ad} {ps : List Prs} {me : Prs → List (Int × Int)} (P : Ppl H n as ps me) : ∀ i ∈ n :: ads as, i < H.length := fun i hi => by
 rcases List.mem_cons.mp hi with q | q
 ·rw [q]; exact listAt_lt P.ln
 ·exact P.at'.lt i q
theorem Ppl.snoc {H H' : Hp} {n : Nat} {as : List Ad} {ps : List Prs} {me : Prs → List (Int × Int)} {a : Ad} {p : Prs} (P : Ppl H n as ps me) (f : Fr [n] H H') (hn : listAt H' n = some (refs as ++ [.ref a.i])) (ha : PA H' a p (me p)) (hg : ∀ x ∈ a.all, H.length ≤ x) (hd : a.all.Nodup) : Ppl H' n (as ++ [a]) (ps ++ [p]) me := by
 have nd := List.nodup_cons.mp P.nd
 have lt := P.lt
 have e : ads (as ++ [a]) = ads as ++ a.all := by unfold ads; rw [List.flatMap_append]; show _ ++ (a.all ++ []) = _; rw [List.append_nil]
 refine ⟨by rw [hn]; unfold refs; rw [List.map_append]; rfl, (P.at'.fr f fun i hi => nin1 fun q => nd.1 (q ▸ hi)).snoc ha, ?_⟩
 rw [e, ← List.cons_append]
 exact List.nodup_append.mpr ⟨P.nd, hd, fun x hx y hy q => by have := lt x hx; have := hg y hy; lia⟩
theorem pe_loop {ns : List Int} {at0 many far sh : Int} {n : Nat} {Q : QS} {XF : XS} (hz : ns.length ≤ 1000) (hfar : farOk far)
  (q : ∀ as ps H' L', Ppl H' n as ps (fun _ => []) → ((ps.length : Int) = many) → (∀ (i : Nat) p, ps[i]? = some p → Tag sh i p.nm ∧ Gp p) → Q .next (some (.scr ns) :: some (.int at0) :: some (.int many) :: some (.int far) :: some (.ref n) :: L') H') : ∀ (m j : Nat) (as : List Ad) (ps : List Prs) (H' : Hp) (t6 t7 t8 t9 t10 t11 t12 : Option V),
  ((j + m : Nat) : Int) = many → j + m ≤ 12 → Ppl H' n as ps (fun _ => []) → ps.length = j → (∀ (i : Nat) p, ps[i]? = some p → Tag sh i p.nm ∧ Gp p) →
  forGo (whBX Θm peB XF) (fun _ => True) 6 ((List.range' j m).map fun (m : Nat) => V.int (m : Int)) [some (.scr ns), some (.int at0), some (.int many), some (.int far), some (.ref n), some (.int sh), t6, t7, t8, t9, t10, t11, t12] H' Q := by
 intro m
 induction m with
 | zero => intro j as ps H' t6 t7 t8 t9 t10 t11 t12 hm _ P hj hg; exact q as ps H' _ P (by lia) hg
 | succ m ih =>
  intro j as ps H' t6 t7 t8 t9 t10 t11 t12 hm h12 P hj hg
  show forGo _ _ _ (V.int (j : Int) :: ((List.range' (j + 1) m).map fun (m : Nat) => V.int (m : Int))) _ _ _
  rw [foX_cons]
  refine zs_cons ?_
  generalize hK : sqX Θm (_ :: _) = K
  simp_arith only [X_lit]
  rw [range10]
  refine ce_comp hz _ [] ⟨by show 10 ≤ 1000000; decide, ?_⟩
  subst hK
  have hvs := P.at'.length
  refine pe1 (Hs := H') (vs := refs as) ⟨pre_new, listAt_lt P.ln, P.ln, listAt_new⟩ hfar (by unfold refs; rw [List.length_map]; lia) ⟨by lia, by lia⟩ fun a p H3 t7 t8 t9 t10 t11 t12 h1 h2 h3 h4 h5 h6 h7 => ?_
  refine ⟨trivial, ih (j + 1) (as ++ [a]) (ps ++ [p]) H3 _ _ _ _ _ _ _ (by lia) (by lia) (P.snoc h1 h4 h5 h2 h3) (by rw [List.length_append, List.length_singleton, hj]) fun i p' hi => ?_⟩
  by_cases hi2 : i < ps.length
  ·rw [List.getElem?_append_left hi2] at hi; exact hg i p' hi
  ·rw [List.getElem?_append_right (by lia)] at hi
   have : i - ps.length = 0 := by have := (List.getElem?_eq_some_iff.mp hi).1; exact Nat.lt_one_iff.mp this
   rw [this] at hi
   obtain rfl := Option.some.inj hi
   rw [show i = j by lia]; exact ⟨h7, h6⟩
theorem nodup_tags {sh : Int} {ps : List Prs} (h : ∀ (i : Nat) p, ps[i]? = some p → Tag sh i p.nm) : (ps.map Prs.nm).Nodup := by
 refine List.pairwise_map.mpr (List.pairwise_iff_getElem.mpr fun i j hi hj hij => ?_)
 exact (h i _ (List.getElem?_eq_getElem hi)).ne (by lia) (by lia) (h j _ (List.getElem?_eq_getElem hj))
inductive IC_some_by (H : Hp) (Q : V → Hp → Prop) : List V → Prop where
 | mk (ns : List Int) (at0 : Int) (many : Int) (far : Int) : (ns.length ≤ 1000) → (1 ≤ many) → (many ≤ 7) → (farOk far) → (∀ (n : Nat) (as : List Ad) (ps : List Prs) (H' : Hp), Ppl H' n as ps (fun _ => []) → ((ps.length : Int) = many) → (ps.map Prs.nm).Nodup → (∀ p ∈ ps, Gp p ∧ p.nm ≠ zN 122) → Q (.ref n) H') → IC_some_by H Q ([.scr ns, .int at0, .int many, .int far])
noncomputable def C_some_by : Ctr := fun vs H Q _ => IC_some_by H Q vs
theorem w_some_by : ∀ vs H Q X, C_some_by vs H Q X → wpFn Θm f_l_some_by vs H Q X := by
 rintro vs H Q X ⟨ns, at0, many, far, hz, h1, h2, hfar, q⟩
 refine fn_of rfl ?_
 change wpSs Θm f_l_some_by.body [some (.scr ns), some (.int at0), some (.int many), some (.int far), none, none, none, none, none, none, none, none, none] H _ _
 refine zs_cons ?_
 generalize hK : sqX Θm (_ :: _) = K
 simp_arith only [X_lit]
 subst hK
 refine zs_cons ?_
 generalize hK : sqX Θm (_ :: _) = K
 simp_arith only [↓Tm_ca, ↓cc_cell]
 refine ⟨hz, ?_⟩
 subst hK
 refine zs_cons ?_
 generalize hK : sqX Θm (_ :: _) = K
 simp_arith only [X_lit]
 refine ⟨⟨by lia, by lia⟩, ?_⟩
 rw [rangeL_N]
 subst hK
 refine pe_loop hz hfar (fun as ps H' L' P hlen hg => ?_) many.toNat 0 [] [] _ _ _ _ _ _ _ _ (by lia) (by lia) ⟨listAt_new, rfl, List.nodup_cons.mpr ⟨List.not_mem_nil, List.nodup_nil⟩⟩ rfl (fun i p h => no_some h)
 simp_arith only [X_lit]
 refine q _ as ps H' P hlen (nodup_tags fun i p h => (hg i p h).1) fun p hp => ?_
 obtain ⟨i, hi, e⟩ := List.getElem_of_mem hp
 have := hg i p (by rw [← e]; exact List.getElem?_eq_getElem hi)
 exact ⟨this.2, this.1.nz (by lia) (by lia) (by decide)⟩
noncomputable def Θn : Orc := ext "_law_some_by" C_some_by Θm
end Mine
namespace Mine
open PySem
noncomputable abbrev mN : Me := fun _ => []
theorem ads_mid {as1 as2 : List Ad} {a : Ad} : ads (as1 ++ a :: as2) = ads as1 ++ (a.all ++ ads as2) := by unfold ads; rw [List.flatMap_append, List.flatMap_cons]
theorem PsAt.mid {H : Hp} {me : Me} {a : Ad} {as2 : List Ad} : ∀ {as1 : List Ad} {ps : List Prs}, PsAt H me (as1 ++ a :: as2) ps → ∃ ps1 p ps2, ps = ps1 ++ p :: ps2 ∧ PsAt H me as1 ps1 ∧ PA H a p (me p) ∧ PsAt H me as2 ps2
 | [], _, ⟨p, qs, e, A, P⟩ => ⟨[], p, qs, e, rfl, A, P⟩
 | _ :: _, _, ⟨p, qs, e, A, P⟩ => by
  refine e3_4 (P.mid) fun ps1 p' ps2 e' h1 h2 h3 => ?_
  exact ⟨p :: ps1, p', ps2, by rw [e, e']; rfl, ⟨p, ps1, rfl, A, h1⟩, h2, h3⟩
theorem PsAt.app {H : Hp} {me : Me} {as2 : List Ad} {ps2 : List Prs} (h : PsAt H me as2 ps2) : ∀ {as1 : List Ad} {ps1 : List Prs}, PsAt H me as1 ps1 → PsAt H me (as1 ++ as2) (ps1 ++ ps2)
 | [], _, e => by obtain rfl := e; exact h
 | _ :: _, _, ⟨p, qs, e, A, P⟩ => ⟨p, qs ++ ps2, by rw [e]; rfl, A, h.app P⟩
theorem Ppl.swap {H H' : Hp} {n x : Nat} {as1 as2 : List Ad} {a a' : Ad} {ps1 ps2 : List Prs} {p' : Prs} {me : Me} (nd : (n :: ads (as1 ++ a :: as2)).Nodup) (ln : listAt H n = some (refs (as1 ++ a :: as2))) (P1 : PsAt H me as1 ps1) (P2 : PsAt H me as2 ps2) (f : Fr [x] H H') (hx : x ∈ a.all) (A : PA H' a' p' (me p')) (hi : a'.i = a.i) (hn : a'.all.Nodup) (hs : ∀ y ∈ a'.all, y ∈ a.all ∨ H.length ≤ y) : Ppl H' n (as1 ++ a' :: as2) (ps1 ++ p' :: ps2) me := by
 have lt1 := P1.lt
 have lt2 := P2.lt
 have ltn := listAt_lt ln
 rw [ads_mid] at nd
 obtain ⟨n0, nd⟩ := List.nodup_cons.mp nd
 refine e0_3 (List.nodup_append.mp nd) fun d1 nd d2 => ?_
 refine e0_3 (List.nodup_append.mp nd) fun d3 d4 d5 => ?_
 rw [List.mem_append, List.mem_append, not_or, not_or] at n0
 have nx : n ∉ [x] := nin1 fun e => n0.2.1 (e ▸ hx)
 have f1 : ∀ i ∈ ads as1, i ∉ [x] := fun i h => nin1 fun e => d2 i h x (List.mem_append_left _ hx) e
 have f2 : ∀ i ∈ ads as2, i ∉ [x] := fun i h => nin1 fun e => d5 x hx i h e.symm
 refine ⟨?_, PsAt.app (as2 := a' :: as2) ⟨p', ps2, rfl, A, P2.fr f f2⟩ (P1.fr f f1), ?_⟩
 ·rw [f.list nx ln, show refs (as1 ++ a :: as2) = refs (as1 ++ a' :: as2) by unfold refs; rw [List.map_append, List.map_append, List.map_cons, List.map_cons, hi]]
 ·rw [ads_mid]
  refine List.nodup_cons.mpr ⟨?_, List.nodup_append.mpr ⟨d1, List.nodup_append.mpr ⟨hn, d4, fun i hi j hj e => ?_⟩, fun i hi j hj e => ?_⟩⟩
  ·rw [List.mem_append, List.mem_append, not_or, not_or]
   exact ⟨n0.1, fun h => (hs n h).elim n0.2.1 fun h => by lia, n0.2.2⟩
  ·rcases hs i hi with h | h
   ·exact d5 i h j hj e
   ·have := lt2 j hj; lia
  ·rcases List.mem_append.mp hj with hj | hj
   ·rcases hs j hj with h | h
    ·exact d2 i hi j (List.mem_append_left _ h) e
    ·have := lt1 i hi; lia
   ·exact d2 i hi j (List.mem_append_right _ hj) e
theorem all_nd {as1 as2 : List Ad} {a : Ad} {n : Nat} (nd : (n :: ads (as1 ++ a :: as2)).Nodup) : a.all.Nodup := by
 rw [ads_mid] at nd
 exact (List.nodup_append.mp (List.nodup_append.mp (List.nodup_cons.mp nd).2).2.1).1
theorem nd_all {i f u e : Nat} : (Ad.all ⟨i, f, u, e⟩).Nodup ↔ i ≠ f ∧ i ≠ u ∧ i ≠ e ∧ f ≠ u ∧ f ≠ e ∧ u ≠ e := by
 unfold Ad.all
 rw [List.nodup_cons, List.nodup_cons, List.nodup_cons, List.nodup_cons, List.mem_cons, List.mem_cons, List.mem_singleton, List.mem_cons, List.mem_singleton, List.mem_singleton, not_or, not_or, not_or]
 exact ⟨fun ⟨⟨a, b, c⟩, ⟨d, e⟩, f, _⟩ => ⟨a, b, c, d, e, f⟩, fun ⟨a, b, c, d, e, f⟩ => ⟨⟨a, b, c⟩, ⟨d, e⟩, f, List.not_mem_nil, List.nodup_nil⟩⟩
section
variable {H : Hp} {n : Nat} {as1 as2 : List Ad} {a : Ad} {ps1 ps2 : List Prs} {p : Prs} {me : Me}
theorem Ppl.newF {rs : List Rl} (nd : (n :: ads (as1 ++ a :: as2)).Nodup) (ln : listAt H n = some (refs (as1 ++ a :: as2))) (P1 : PsAt H me as1 ps1) (A : PA H a p (me p)) (P2 : PsAt H me as2 ps2) (em : me ⟨p.nm, rs, p.bu⟩ = me p) :
  Ppl ((H ++ [O.list (rs.map rv)]).set a.i (O.list [.str p.nm, .ref H.length, .ref a.u, .ref a.e])) n (as1 ++ ⟨a.i, H.length, a.u, a.e⟩ :: as2) (ps1 ++ ⟨p.nm, rs, p.bu⟩ :: ps2) me := by
 obtain ⟨h1, h2, h3, h4, h5, h6⟩ := nd_all.mp (all_nd nd)
 have hi := listAt_lt A.li
 have hu := listAt_lt A.lu
 have he := listAt_lt A.le
 have g : Fr [a.i] H ((H ++ [O.list (rs.map rv)]).set a.i (O.list [.str p.nm, .ref H.length, .ref a.u, .ref a.e])) := fr_ns
 refine Ppl.swap nd ln P1 P2 g ad_i ⟨listAt_set (listAt_pre pre_new A.li), by rw [listAt_set_ne (Nat.ne_of_lt hi)]; exact listAt_new, g.list (nin1 (Ne.symm h2)) A.lu, by rw [em]; exact g.list (nin1 (Ne.symm h3)) A.le⟩ rfl (nd_all.mpr ⟨by lia, h2, h3, by lia, by lia, h6⟩) fun y hy => ?_
 rcases List.mem_cons.mp hy with q | hy
 ·rw [q]; exact .inl ad_i
 rcases List.mem_cons.mp hy with q | hy
 ·rw [q]; exact .inr (Nat.le_refl _)
 rcases List.mem_cons.mp hy with q | hy
 ·rw [q]; exact .inl ad_u
 rw [List.mem_singleton.mp hy]; exact .inl ad_e
theorem Ppl.newU {rs : List Rl} (nd : (n :: ads (as1 ++ a :: as2)).Nodup) (ln : listAt H n = some (refs (as1 ++ a :: as2))) (P1 : PsAt H me as1 ps1) (A : PA H a p (me p)) (P2 : PsAt H me as2 ps2) (em : me ⟨p.nm, p.fr, rs⟩ = me p) :
  Ppl ((H ++ [O.list (rs.map rv)]).set a.i (O.list [.str p.nm, .ref a.f, .ref H.length, .ref a.e])) n (as1 ++ ⟨a.i, a.f, H.length, a.e⟩ :: as2) (ps1 ++ ⟨p.nm, p.fr, rs⟩ :: ps2) me := by
 obtain ⟨h1, h2, h3, h4, h5, h6⟩ := nd_all.mp (all_nd nd)
 have hi := listAt_lt A.li
 have hf := listAt_lt A.lf
 have he := listAt_lt A.le
 have g : Fr [a.i] H ((H ++ [O.list (rs.map rv)]).set a.i (O.list [.str p.nm, .ref a.f, .ref H.length, .ref a.e])) := fr_ns
 refine Ppl.swap nd ln P1 P2 g ad_i ⟨listAt_set (listAt_pre pre_new A.li), g.list (nin1 (Ne.symm h1)) A.lf, by rw [listAt_set_ne (Nat.ne_of_lt hi)]; exact listAt_new, by rw [em]; exact g.list (nin1 (Ne.symm h3)) A.le⟩ rfl (nd_all.mpr ⟨h1, by lia, h3, by lia, h5, by lia⟩) fun y hy => ?_
 rcases List.mem_cons.mp hy with q | hy
 ·rw [q]; exact .inl ad_i
 rcases List.mem_cons.mp hy with q | hy
 ·rw [q]; exact .inl ad_f
 rcases List.mem_cons.mp hy with q | hy
 ·rw [q]; exact .inr (Nat.le_refl _)
 rw [List.mem_singleton.mp hy]; exact .inl ad_e
theorem Ppl.addU {r : Rl} (nd : (n :: ads (as1 ++ a :: as2)).Nodup) (ln : listAt H n = some (refs (as1 ++ a :: as2))) (P1 : PsAt H me as1 ps1) (A : PA H a p (me p)) (P2 : PsAt H me as2 ps2) (em : me ⟨p.nm, p.fr, p.bu ++ [r]⟩ = me p) :
  Ppl (H.set a.u (O.list (p.bu.map rv ++ [rv r]))) n (as1 ++ a :: as2) (ps1 ++ ⟨p.nm, p.fr, p.bu ++ [r]⟩ :: ps2) me := by
 have hn := all_nd nd
 obtain ⟨h1, h2, h3, h4, h5, h6⟩ := nd_all.mp hn
 have g : Fr [a.u] H (H.set a.u (O.list (p.bu.map rv ++ [rv r]))) := Fr.set
 exact Ppl.swap nd ln P1 P2 g ad_u ⟨g.list (nin1 h2) A.li, g.list (nin1 h4) A.lf, by rw [listAt_set A.lu, List.map_append]; rfl, by rw [em]; exact g.list (nin1 (Ne.symm h6)) A.le⟩ rfl hn fun _ h => .inl h
end
structure Gq (B : Nat) (p : Prs) : Prop where
 nm : nameOk p.nm
 nz : p.nm ≠ zN 122
 W : ∀ r ∈ p.fr ++ p.bu, r.fine ∧ r.deep ≤ 7
 zf : p.fr.length ≤ 2
 zu : p.bu.length ≤ 2
 pd : prd (p.fr ++ p.bu) ≤ B
theorem prd_8 : ∀ {rs : List Rl}, (∀ r ∈ rs, r.rn ≤ 8) → prd rs ≤ 8 ^ rs.length
 | [], _ => Nat.le_refl _
 | r :: rs, h => by
  show r.rn * prd rs ≤ 8 ^ (rs.length + 1)
  rw [Nat.pow_succ, Nat.mul_comm (8 ^ rs.length)]
  exact Nat.mul_le_mul (h r List.mem_cons_self) (prd_8 fun r hr => h r (List.mem_cons_of_mem _ hr))
theorem Gp.q {p : Prs} (h : Gp p) (hz : p.nm ≠ zN 122) : Gq 512 p := by
 have all : ∀ r ∈ p.fr ++ p.bu, Sml r := fun r hr => (List.mem_append.mp hr).elim (h.fr r) (h.bu r)
 have h1 := h.zf
 have h2 := h.zu
 refine ⟨h.nm, hz, fun r hr => ⟨(all r hr).ok.1, Nat.le_trans (all r hr).deep (by decide)⟩, h1, by lia, Nat.le_trans (prd_8 fun r hr => (all r hr).rn) ?_⟩
 rw [List.length_append, show (512 : Nat) = 8 ^ 3 from rfl]
 exact Nat.pow_le_pow_right (by decide) (by lia)
theorem Gq.to {B B' : Nat} {p : Prs} (h : Gq B p) (hb : B ≤ B') : Gq B' p := ⟨h.nm, h.nz, h.W, h.zf, h.zu, Nat.le_trans h.pd hb⟩
theorem prd_all {B : Nat} : ∀ {ps : List Prs}, (∀ p ∈ ps, Gq B p) → prd (rulesOf ps) ≤ B ^ ps.length
 | [], _ => Nat.le_refl _
 | p :: ps, h => by
  rw [rulesOf_cons, prd_app, List.length_cons, Nat.pow_succ, Nat.mul_comm (B ^ ps.length)]
  exact Nat.mul_le_mul (h p List.mem_cons_self).pd (prd_all fun p hp => h p (List.mem_cons_of_mem _ hp))
structure Cs (H : Hp) (n : Nat) (as : List Ad) (ps : List Prs) (B : Nat) : Prop where
 P : Ppl H n as ps mN
 nd : (ps.map Prs.nm).Nodup
 ne : ps ≠ []
 g : ∀ p ∈ ps, Gq B p
 zp : ps.length ≤ 7
 pw : B ^ ps.length < 2 ^ 100
 big : 512 ≤ B
end Mine
namespace Mine
open PySem
theorem Tn_ca : Θn "_law_cell_at" = C_cell_at := rfl
theorem Tn_sb : Θn "_law_some_by" = C_some_by := rfl
theorem Tn_wd : Θn "_law_weekdays" = C_weekdays := rfl
theorem Tn_lr : Θn "_law_long_rule" = C_long_rule := rfl
theorem ite_way {Φ : Orc} {x y : Int} {a : List IS} {l0 : Option V} {Lr : Lc} {H : Hp} {QF : QS} {XF : XS} (h1 : x = y → wpSs Φ a (l0 :: some (.int x) :: Lr) H QF XF) (h2 : x ≠ y → QF .next (l0 :: some (.int x) :: Lr) H) : wpS Φ (.ite (.cmp (.loc 1) .Eq (.lit (.int y))) a []) (l0 :: some (.int x) :: Lr) H QF XF := by
 show ifP (decide (x = y)) _ _
 exact iX_p h1 h2
theorem refs_end {as : List Ad} {a : Ad} : idx (refs (as ++ [a])) (-1) = some (.ref a.i) := by
 rw [show refs (as ++ [a]) = refs as ++ [.ref a.i] from List.map_append]; exact idx_end
theorem last_of {as : List Ad} {ps : List Prs} {H : Hp} (P : PsAt H mN as ps) (h : ps ≠ []) : ∃ as1 a, as = as1 ++ [a] := by
 cases as with
 | nil => exact absurd P h
 | cons b as => exact ⟨_, _, (List.dropLast_concat_getLast (List.cons_ne_nil b as)).symm⟩
theorem PsAt.end1 {H : Hp} {ps : List Prs} (P : PsAt H mN [] ps) : ps = [] := P
section
variable {H : Hp} {n : Nat} {as : List Ad} {ps ps1 ps2 : List Prs} {p p' : Prs} {B : Nat}
theorem Cs.swap {H' : Hp} {as' : List Ad} (C : Cs H n as (ps1 ++ p :: ps2) B) (P : Ppl H' n as' (ps1 ++ p' :: ps2) mN) (hn : p'.nm = p.nm) (hg : Gq B p') : Cs H' n as' (ps1 ++ p' :: ps2) B := by
 have e : (ps1 ++ p' :: ps2).length = (ps1 ++ p :: ps2).length := by rw [List.length_append, List.length_append]; rfl
 refine ⟨P, by have := C.nd; rw [List.map_append, List.map_cons] at this ⊢; rw [hn]; exact this, fun h => ?_, fun x hx => ?_, by rw [e]; exact C.zp, by rw [e]; exact C.pw, C.big⟩
 ·exact nomatch (List.append_eq_nil_iff.mp h).2
 ·rcases List.mem_append.mp hx with h | h
  ·exact C.g x (List.mem_append_left _ h)
  ·rcases List.mem_cons.mp h with h | h
   ·rw [h]; exact hg
   ·exact C.g x (List.mem_append_right _ (List.mem_cons_of_mem _ h))
theorem Cs.pre {H' : Hp} (C : Cs H n as ps B) (h : H <+: H') : Cs H' n as ps B := ⟨C.P.pre h, C.nd, C.ne, C.g, C.zp, C.pw, C.big⟩
theorem Gq.newF {rs : List Rl} (g : Gq B p) (hw : ∀ r ∈ rs, r.fine ∧ r.deep ≤ 7) (hz : rs.length ≤ 2) (hp : prd (rs ++ p.bu) ≤ B) : Gq B ⟨p.nm, rs, p.bu⟩ := ⟨g.nm, g.nz, fun r hr => (List.mem_append.mp hr).elim (hw r) fun h => g.W r (List.mem_append_right _ h), hz, g.zu, hp⟩
theorem Gq.newU {rs : List Rl} (g : Gq B p) (hw : ∀ r ∈ rs, r.fine ∧ r.deep ≤ 7) (hz : rs.length ≤ 2) (hp : prd (p.fr ++ rs) ≤ B) : Gq B ⟨p.nm, p.fr, rs⟩ := ⟨g.nm, g.nz, fun r hr => (List.mem_append.mp hr).elim (fun h => g.W r (List.mem_append_left _ h)) (hw r), g.zf, hz, hp⟩
theorem Gq.pds (g : Gq B p) : prd p.fr ≤ B ∧ prd p.bu ≤ B := by
 have h := g.pd
 rw [prd_app] at h
 have h1 := prd_pos p.fr fun r hr => (g.W r (List.mem_append_left _ hr)).1
 have h2 := prd_pos p.bu fun r hr => (g.W r (List.mem_append_right _ hr)).1
 exact ⟨Nat.le_trans (Nat.le_mul_of_pos_right _ h2) h, Nat.le_trans (Nat.le_mul_of_pos_left _ h1) h⟩
end
section
variable {ns : List Int} {way far c : Int} {H : Hp} {n : Nat} {as : List Ad} {ps : List Prs} {B : Nat} {Q : V → Hp → Prop} {X : XL} {t5 t6 t7 t8 t9 : Option V}
theorem cut_01 {k : Int} {l : List V} (h1 : 0 ≤ k) : cutL .none (.int k) l = some (l.take (min k.toNat l.length)) := by
 show some ((l.drop 0).take ((if k < 0 then _ else min k.toNat l.length) - 0)) = _
 rw [if_neg (by lia), List.drop_zero, Nat.sub_zero]
theorem ca6 (hB : way = 3 → B = 512) (C : Cs H n as ps B) (q : ∀ n as ps H' B, (way = 3 → B = 512) → Cs H' n as ps B → Q (.ref n) H') :
  wpSs Θn (f_l_cast.body.drop 6) [some (.scr ns), some (.int way), some (.int far), some (.ref n), some (.int c), t5, t6, t7, t8, t9] H (fun fl _ H1 => Q (retV fl) H1) fun x _ H1 => X x H1 := by
 refine zs_cons (ite_way (fun e => ?_) (fun e => ?_))
 ·refine e2_1 (last_of C.P.at' C.ne) fun as1 a e_249 => ?_
  obtain rfl := e_249
  refine e3_4 (C.P.at'.mid) fun ps1 p ps2 e_250 P1 A P2 => ?_
  obtain rfl := e_250
  have g := C.g p (List.mem_append_right _ (.head _))
  have N1 := Ppl.newF (rs := []) C.P.nd C.P.ln P1 A P2 rfl
  have C1 := C.swap N1 rfl (g.newF (fun _ h => nomatch h) (Nat.zero_le _) g.pds.2)
  have ln := listAt_pre (pre_new (o := .list [])) C.P.ln
  have li := listAt_pre (pre_new (o := .list [])) A.li
  refine zs_cons ?_
  generalize hK : sqX Θn (_ :: _) = K
  simp_arith only [ln, refs_end, li]
  refine ⟨by show (1 : Int) < 4; decide, ?_⟩
  subst hK
  change Cs ((H ++ [O.list []]).set a.i (O.list [.str p.nm, .ref H.length, .ref a.u, .ref a.e])) n _ _ B at C1
  generalize (H ++ [O.list []]).set a.i (O.list [.str p.nm, .ref H.length, .ref a.u, .ref a.e]) = H1 at *
  clear N1
  refine e3_4 (C1.P.at'.mid) fun ps3 p3 ps4 e3 P1 A P2 => ?_
  rw [e3] at C1
  have g := C1.g p3 (List.mem_append_right _ (.head _))
  have k2 := Int.emod_nonneg c (show (2 : Int) ≠ 0 by decide)
  have cu := cut_01 (l := p3.bu.map rv) k2
  rw [← List.map_take] at cu
  generalize hb : p3.bu.take (min (c % 2).toNat (p3.bu.map rv).length) = bs at cu
  have sb : bs.Sublist p3.bu := by rw [← hb]; exact List.take_sublist _ _
  have N2 := Ppl.newU (rs := bs) C1.P.nd C1.P.ln P1 A P2 rfl
  have hz := g.zu
  have C2 := C1.swap N2 rfl (g.newU (fun r hr => g.W r (List.mem_append_right _ (sb.subset hr))) (by have := sb.length_le; lia) (by
   have h := g.pd
   rw [← List.take_append_drop (min (c % 2).toNat (p3.bu.map rv).length) p3.bu, hb, ← List.append_assoc, prd_app] at h
   exact Nat.le_trans (Nat.le_mul_of_pos_right _ (prd_pos _ fun r hr => (g.W r (List.mem_append_right _ (List.mem_of_mem_drop hr))).1)) h))
  have ln := C1.P.ln
  have ln2 := listAt_pre (pre_new (o := .list (bs.map rv))) ln
  have li2 := listAt_pre (pre_new (o := .list (bs.map rv))) A.li
  refine zs_cons ?_
  generalize hK : sqX Θn _ = K
  simp_arith only [ln, refs_end, A.li, A.lu, cu, ln2, li2]
  refine ⟨by show (2 : Int) < 4; decide, ?_⟩
  subst hK
  exact q _ _ _ _ _ hB C2
 ·exact q _ _ _ _ _ hB C
end
end Mine
namespace Mine
open PySem
section
variable {H : Hp} {n : Nat} {as1 as2 : List Ad} {a : Ad} {ps1 ps2 : List Prs} {p : Prs}
theorem Ppl.split (P : Ppl H n (as1 ++ a :: as2) (ps1 ++ p :: ps2) mN) (hl : as1.length = ps1.length) : PsAt H mN as1 ps1 ∧ PA H a p [] ∧ PsAt H mN as2 ps2 := by
 refine e3_4 (P.at'.mid) fun ps3 p3 ps4 e h1 h2 h3 => ?_
 obtain ⟨rfl, e1⟩ := List.append_inj e (by rw [← h1.length, hl])
 obtain ⟨rfl, rfl⟩ := List.cons.inj e1
 exact ⟨h1, h2, h3⟩
end
section
variable {H H1 : Hp} {n s : Nat} {as1 as2 : List Ad} {a : Ad} {ps : List Prs} {B : Nat} {l : List V} {ns : List Int} {way far c : Int} {t0 t6 t7 t8 t9 : Option V} {QF : QS} {XF : XS}
noncomputable abbrev LcC (ns : List Int) (way far : Int) (n : Nat) (c : Int) (t5 t6 t7 t8 t9 : Option V) : Lc := [some (.scr ns), some (.int way), some (.int far), some (.ref n), some (.int c), t5, t6, t7, t8, t9]
noncomputable def StQ (QF : QS) (ns : List Int) (way far : Int) (n : Nat) (c : Int) (t7 t8 t9 : Option V) (a : Ad) (as1 as2 : List Ad) (B s : Nat) (l : List V) : Prop := ∀ H' a' ps' t6', a'.i = a.i → Cs H' n (as1 ++ a' :: as2) ps' B → listAt H' s = some l → QF .next (LcC ns way far n c (some (.ref a.i)) t6' t7 t8 t9) H'
theorem st_two {r : Rl} (C : Cs H n (as1 ++ a :: as2) ps B) (hs : listAt H s = some l) (hl : ∀ x v, l ≠ .str x :: v) (hr : r.fine ∧ r.deep ≤ 7) (h5 : r.rn ≤ 512) (p1 : H <+: H1) (q : StQ QF ns way far n c t7 t8 t9 a as1 as2 B s l) :
  ∃ w u e, listAt (H1 ++ [O.list [rv r]]) a.i = some [w, .ref a.f, u, e] ∧ wpSs Θn [.setItem (.loc 5) (.lit (.int 2)) (.lst [])] (LcC ns way far n c (some (.ref a.i)) t6 t7 t8 t9) ((H1 ++ [O.list [rv r]]).set a.i (O.list [w, .ref H1.length, u, e])) QF XF := by
 have C1 := C.pre p1
 refine e3_4 (C1.P.at'.mid) fun ps1 p ps2 e_251 P1 A P2 => ?_
 obtain rfl := e_251
 have hlen := P1.length
 have N1 : Ppl ((H1 ++ [O.list [rv r]]).set a.i (O.list [.str p.nm, .ref H1.length, .ref a.u, .ref a.e])) n (as1 ++ ⟨a.i, H1.length, a.u, a.e⟩ :: as2) (ps1 ++ ⟨p.nm, [r], p.bu⟩ :: ps2) mN := Ppl.newF (rs := [r]) C1.P.nd C1.P.ln P1 A P2 rfl
 refine ⟨_, _, _, listAt_pre pre_new A.li, ?_⟩
 have ns1 := nin1 (x := a.i) (i := s) fun e => by
  have h := listAt_pre p1 hs
  rw [e, A.li] at h
  exact hl _ _ (Option.some.inj h).symm
 have hs1 := (fr_ns (H := H1) (x := a.i) (o := .list [rv r]) (o2 := .list [.str p.nm, .ref H1.length, .ref a.u, .ref a.e])).list ns1 (listAt_pre p1 hs)
 generalize (H1 ++ [O.list [rv r]]).set a.i (O.list [.str p.nm, .ref H1.length, .ref a.u, .ref a.e]) = H2 at *
 refine e0_3 (N1.split hlen) fun P3 A3 P4 => ?_
 have N2 := Ppl.newU (rs := []) N1.nd N1.ln P3 A3 P4 rfl
 have g := C.g p (List.mem_append_right _ (.head _))
 have C2 := C.swap N2 rfl ⟨g.nm, g.nz, fun r' h => by rw [List.mem_singleton.mp (show r' ∈ [r] from h)]; exact hr, by show 1 ≤ 2; decide, Nat.zero_le _, Nat.le_trans (by show r.rn * 1 ≤ 512; lia) C.big⟩
 have hs2 := (fr_ns (H := H2) (x := a.i) (o := .list []) (o2 := .list [.str p.nm, .ref H1.length, .ref H2.length, .ref a.e])).list ns1 hs1
 have li := listAt_pre (pre_new (o := .list [])) A3.li
 refine zs_cons ?_
 generalize hK : sqX Θn _ = K
 simp_arith only [li]
 refine ⟨by show (2 : Int) < 4; decide, ?_⟩
 subst hK
 exact q _ ⟨a.i, H1.length, H2.length, a.e⟩ _ _ rfl C2 hs2
end
theorem lp_go {body : List IS} {n s : Nat} {l : List V} {B : Nat} {ns : List Int} {way far c : Int} {t7 t8 t9 : Option V} {XF : XS} {a3 : List Ad} {Q : QS}
  (step : ∀ (QF : QS) (a1 a2 : List Ad) (a : Ad) (ps : List Prs) (H : Hp) (t6 : Option V), Cs H n (a1 ++ a :: a2) ps B → listAt H s = some l → StQ QF ns way far n c t7 t8 t9 a a1 a2 B s l → wpSs Θn body (LcC ns way far n c (some (.ref a.i)) t6 t7 t8 t9) H QF XF) : ∀ (a2 a1 : List Ad) (ps : List Prs) (H : Hp) (t5 t6 : Option V), Cs H n (a1 ++ (a2 ++ a3)) ps B → listAt H s = some l →
  (∀ H' as' ps' t5' t6', Cs H' n as' ps' B → Q .next (LcC ns way far n c t5' t6' t7 t8 t9) H') → forGo (whBX Θn body XF) (fun H' => listAt H' s = some l) 5 (refs a2) (LcC ns way far n c t5 t6 t7 t8 t9) H Q := by
 intro a2
 induction a2 with
 | nil => intro a1 ps H t5 t6 C hs q; exact q H _ _ _ _ C
 | cons a a2 ih =>
  intro a1 ps H t5 t6 C hs q
  rw [show refs (a :: a2) = .ref a.i :: refs a2 from rfl, foX_cons]
  refine step _ a1 (a2 ++ a3) a ps H _ C hs fun H' a' ps' t6' ei C' hs' => ⟨hs', ?_⟩
  exact ih (a1 ++ [a']) ps' H' _ _ (by rw [List.append_assoc]; exact C') hs' q
section
variable {ns : List Int} {way far c : Int} {H : Hp} {n : Nat} {as : List Ad} {ps : List Prs} {B : Nat} {Q : V → Hp → Prop} {X : XL} {t5 t6 t7 t8 t9 : Option V}
noncomputable abbrev w4B : List IS := bdy ((thn (f_l_cast.body.getD 5 .fail)).getD 1 .fail)
noncomputable abbrev w6B : List IS := bdy ((thn (f_l_cast.body.getD 2 .fail)).getD 0 .fail)
theorem Cs.take2 {k : Nat} (C : Cs H n as ps B) (hk : 1 ≤ k) : Cs (H ++ [.list (refs (as.take k))]) H.length (as.take k) (ps.take k) B := by
 have hd : ads as = ads (as.take k) ++ ads (as.drop k) := by unfold ads; rw [← List.flatMap_append, List.take_append_drop]
 have nd := (List.nodup_cons.mp C.P.nd).2
 rw [hd] at nd
 refine ⟨⟨listAt_new, (C.P.at'.take k).pre pre_new, List.nodup_cons.mpr ⟨fun h => ?_, (List.nodup_append.mp nd).1⟩⟩, C.nd.sublist ((List.take_sublist k ps).map _), fun h => ?_, fun p hp => C.g p (List.mem_of_mem_take hp), Nat.le_trans (List.length_take_le' _ _) C.zp, Nat.lt_of_le_of_lt (Nat.pow_le_pow_right (by have := C.big; lia) (List.length_take_le' _ _)) C.pw, C.big⟩
 ·have := C.P.at'.lt _ (by rw [hd]; exact List.mem_append_left _ h); lia
 ·rcases List.take_eq_nil_iff.mp h with h | h
  ·lia
  ·exact C.ne h
theorem refs_ne {as : List Ad} : ∀ x v, refs as ≠ .str x :: v := fun x v h => by
 cases as with
 | nil => exact nomatch h
 | cons a as => exact nomatch (List.cons.inj h).1
theorem ca5 (hz : ns.length ≤ 1000) (hB : way = 3 → B = 512) (C : Cs H n as ps B) (q : ∀ n as ps H' B, (way = 3 → B = 512) → Cs H' n as ps B → Q (.ref n) H') :
  wpSs Θn (f_l_cast.body.drop 5) [some (.scr ns), some (.int way), some (.int far), some (.ref n), some (.int c), t5, t6, t7, t8, t9] H (fun fl _ H1 => Q (retV fl) H1) fun x _ H1 => X x H1 := by
 refine zs_cons (ite_way (fun e => ?_) (fun e => ?_))
 ·have cu := cut_01 (k := 2) (l := refs as) (by decide)
  rw [show (refs as).take (min (2 : Int).toNat (refs as).length) = refs (as.take (min (2 : Int).toNat (refs as).length)) from (List.map_take ..).symm] at cu
  have C1 := C.take2 (k := min (2 : Int).toNat (refs as).length) (by
   have h1 := C.P.at'.length
   have h2 : 0 < ps.length := List.length_pos_iff.mpr C.ne
   rw [show (refs as).length = as.length from List.length_map _]
   show 1 ≤ min 2 as.length
   lia)
  generalize as.take (min (2 : Int).toNat (refs as).length) = as2 at *
  generalize ps.take (min (2 : Int).toNat (refs as).length) = ps2 at *
  refine zs_cons ?_
  generalize hK : sqX Θn (_ :: _) = K
  simp_arith only [C.P.ln, cu]
  subst hK
  generalize H.length = n2 at *
  generalize H ++ [O.list (refs as2)] = H2 at *
  have ln := C1.P.ln
  refine zs_cons ?_
  generalize hK : sqX Θn _ = K
  simp_arith only [ln]
  refine lp_go (a3 := []) (s := n2) (fun QF a1 a2 a ps H t6 C hs q => ?_) as2 [] ps2 H2 _ _ (by rw [List.nil_append, List.append_nil]; exact C1) ln fun H' as' ps' t5' t6' C' => ?_
  ·refine e3_4 (C.P.at'.mid) fun ps1 p ps3 e_252 P1 A P2 => ?_
   obtain rfl := e_252
   refine zs_cons ?_
   generalize hK : sqX Θn (_ :: _) = K
   simp_arith only [A.li, A.lu, List.length_map, ↓Tn_wd]
   refine ⟨_, rfl, fun H1 hp1 => ?_⟩
   refine e0_3 (wd_fine (c + (p.bu.length : Int))) fun w1 w2 w3 => ?_
   generalize wd (1 + (c + (p.bu.length : Int)) % 127) = ds at *
   subst hK
   obtain ⟨w, u, e, l1, fin⟩ := st_two (r := .pl (.week ds (cell ns 5 % 24) (2 + cell ns 2 % 9))) (t6 := some (intsV ds)) (XF := fun x _ H1 => X x H1) C hs refs_ne ⟨⟨⟨by lia, by lia⟩, ⟨by lia, by lia⟩, w1, w2, w3⟩, Nat.zero_le _⟩ (by show 168 ≤ 512; decide) hp1 q
   change listAt (H1 ++ [O.list [.tup [.str "week", intsV ds, .int (cell ns 5 % 24), .int (2 + cell ns 2 % 9)]]]) a.i = _ at l1
   refine zs_cons ?_
   generalize hK : sqX Θn (_ :: _) = K
   simp_arith only [↓Tn_ca, ↓cc_cell]
   refine ⟨hz, hz, ?_⟩
   simp_arith only [l1]
   refine ⟨by show (1 : Int) < 4; decide, ?_⟩
   subst hK
   exact fin
  ·subst hK
   exact ca6 hB C' q
 ·exact ca6 hB C q
end
end Mine
namespace Mine
open PySem
theorem Cs.one {H H1 H2 H3 H4 H5 : Hp} {nm : Str} {r : Rl} (hn : nameOk nm) (hz : nm ≠ zN 122) (hr : r.fine ∧ r.deep ≤ 7) (h : r.rn ≤ 1000000) (e1 : H1 = H ++ [O.list [rv r]]) (e2 : H2 = H1 ++ [O.list []]) (e3 : H3 = H2 ++ [O.list []]) (e4 : H4 = H3 ++ [O.list [.str nm, .ref H.length, .ref H1.length, .ref H2.length]]) (e5 : H5 = H4 ++ [O.list [.ref H3.length]]) :
  Cs H5 H4.length [⟨H3.length, H.length, H1.length, H2.length⟩] [⟨nm, [r], []⟩] (2 ^ 30) := by
 have l1 : H1.length = H.length + 1 := by rw [e1, List.length_append]; rfl
 have l2 : H2.length = H1.length + 1 := by rw [e2, List.length_append]; rfl
 have l3 : H3.length = H2.length + 1 := by rw [e3, List.length_append]; rfl
 have l4 : H4.length = H3.length + 1 := by rw [e4, List.length_append]; rfl
 have p5 : H4 <+: H5 := by rw [e5]; exact pre_new
 have p4 : H3 <+: H5 := List.IsPrefix.trans (by rw [e4]; exact pre_new) p5
 have p3 : H2 <+: H5 := List.IsPrefix.trans (by rw [e3]; exact pre_new) p4
 have p2 : H1 <+: H5 := List.IsPrefix.trans (by rw [e2]; exact pre_new) p3
 have g1 : listAt H1 H.length = some [rv r] := by rw [e1]; exact listAt_new
 have g2 : listAt H2 H1.length = some [] := by rw [e2]; exact listAt_new
 have g3 : listAt H3 H2.length = some [] := by rw [e3]; exact listAt_new
 have g4 : listAt H4 H3.length = some [.str nm, .ref H.length, .ref H1.length, .ref H2.length] := by rw [e4]; exact listAt_new
 have g5 : listAt H5 H4.length = some [.ref H3.length] := by rw [e5]; exact listAt_new
 refine ⟨⟨g5, ⟨_, [], rfl, ⟨listAt_pre p5 g4, listAt_pre p2 g1, listAt_pre p3 g2, listAt_pre p4 g3⟩, rfl⟩, ?_⟩, List.nodup_cons.mpr ⟨List.not_mem_nil, List.nodup_nil⟩, (fun h => nomatch h), fun p hp => ?_, by show 1 ≤ 7; decide, by show (2 ^ 30) ^ 1 < 2 ^ 100; decide, by decide⟩
 ·show (H4.length :: ([H3.length, H.length, H1.length, H2.length] ++ [])).Nodup
  rw [List.append_nil]
  refine List.nodup_cons.mpr ⟨?_, nd_all.mpr (by lia)⟩
  rw [List.mem_cons, List.mem_cons, List.mem_cons, List.mem_singleton]
  lia
 ·rw [List.mem_singleton.mp hp]
  exact ⟨hn, hz, fun r' h => by rw [List.mem_singleton.mp (show r' ∈ [r] from h)]; exact hr, by show 1 ≤ 2; decide, Nat.zero_le _, by show r.rn * 1 ≤ 2 ^ 30; lia⟩
section
variable {ns : List Int} {way far c : Int} {H : Hp} {n : Nat} {as : List Ad} {ps : List Prs} {B : Nat} {Q : V → Hp → Prop} {X : XL} {t5 t6 t7 t8 t9 : Option V}
theorem ca4 (hz : ns.length ≤ 1000) (hf : farOk far) (hB : way = 3 → B = 512) (C : Cs H n as ps B) (q : ∀ n as ps H' B, (way = 3 → B = 512) → Cs H' n as ps B → Q (.ref n) H') :
  wpSs Θn (f_l_cast.body.drop 4) [some (.scr ns), some (.int way), some (.int far), some (.ref n), some (.int c), t5, t6, t7, t8, t9] H (fun fl _ H1 => Q (retV fl) H1) fun x _ H1 => X x H1 := by
 refine zs_cons (ite_way (fun e => ?_) (fun e => ?_))
 ·cases as with
  | nil => exact absurd C.P.at' C.ne
  | cons a as =>
  refine e2_3 (C.P.at') fun p qs e_253 A _ => ?_
  obtain rfl := e_253
  have g := C.g p List.mem_cons_self
  have ln : listAt H n = some (.ref a.i :: refs as) := C.P.ln
  have f1 := hf.1
  have f2 := hf.2
  refine zs_cons ?_
  generalize hK : sqX Θn _ = K
  simp_arith only [ln, A.li]
  subst hK
  exact ca5 hz (fun h => absurd (e.symm.trans h) (by decide)) (Cs.one (r := .pl (.every far 1 (4951 + c % 4))) g.nm g.nz ⟨⟨⟨f1, by lia⟩, ⟨by decide, by decide⟩, by lia, by lia⟩, Nat.zero_le _⟩ (by show (4951 + c % 4).toNat ≤ 1000000; lia) rfl rfl rfl rfl rfl) q
 ·exact ca5 hz hB C q
theorem ca3 (hz : ns.length ≤ 1000) (hf : farOk far) (C : Cs H n as ps 512) (h1 : way = 1 → ps.length ≤ 3 ∧ ∀ p ∈ ps, p.bu.length ≤ 1) (q : ∀ n as ps H' B, (way = 3 → B = 512) → Cs H' n as ps B → Q (.ref n) H') :
  wpSs Θn (f_l_cast.body.drop 3) [some (.scr ns), some (.int way), some (.int far), some (.ref n), some (.int c), t5, t6, t7, t8, t9] H (fun fl _ H1 => Q (retV fl) H1) fun x _ H1 => X x H1 := by
 refine zs_cons (ite_way (fun e => ?_) (fun e => ?_))
 ·obtain ⟨h3, hu⟩ := h1 e
  refine e2_1 (last_of C.P.at' C.ne) fun as1 a e_254 => ?_
  obtain rfl := e_254
  refine e3_4 (C.P.at'.mid) fun ps1 p ps2 e_255 P1 A P2 => ?_
  obtain rfl := e_255
  refine zs_cons ?_
  generalize hK : sqX Θn _ = K
  simp_arith only [C.P.ln, refs_end, A.li, ↓Tn_lr]
  refine ⟨⟨_, A.lu⟩, c, far, rfl, hf, fun r H1 hp1 hr => ?_⟩
  have u1 := hu p (List.mem_append_right _ (.head _))
  have g := C.g p (List.mem_append_right _ (.head _))
  have C1 := C.pre hp1
  have A1 : PA H1 a p [] := A.fr (F := []) (Fr.pre hp1) fun _ _ h => nomatch h
  have N := Ppl.addU (r := r) C1.P.nd C1.P.ln (P1.pre hp1) A1 (P2.pre hp1) rfl
  have CB : Cs H1 n (as1 ++ [a]) (ps1 ++ p :: ps2) (2 ^ 30) := ⟨C1.P, C.nd, C.ne, fun p hp => (C.g p hp).to (by decide), C.zp, Nat.lt_of_le_of_lt (Nat.pow_le_pow_right (by decide) h3) (by decide), by decide⟩
  have C2 := CB.swap N rfl ⟨g.nm, g.nz, fun r' h => by
   rcases List.mem_append.mp (show r' ∈ (p.fr ++ p.bu) ++ [r] by rw [List.append_assoc]; exact h) with h | h
   ·exact g.W r' h
   ·rw [List.mem_singleton.mp h]; exact ⟨hr.fine, Nat.le_trans hr.deep (by decide)⟩, g.zf, by
   show (p.bu ++ [r]).length ≤ 2
   rw [List.length_append]; show p.bu.length + 1 ≤ 2; lia, by
   show prd (p.fr ++ (p.bu ++ [r])) ≤ 2 ^ 30
   rw [← List.append_assoc, prd_app]
   exact Nat.le_trans (Nat.mul_le_mul g.pd (show r.rn * 1 ≤ 1000000 by have := hr.rn; lia)) (by decide)⟩
  simp_arith only [A1.lu, List.length_map]
  refine ⟨by lia, ?_⟩
  subst hK
  exact ca4 hz hf (fun h => absurd (e.symm.trans h) (by decide)) C2 q
 ·exact ca4 hz hf (fun _ => rfl) C q
theorem ca2 (hz : ns.length ≤ 1000) (hf : farOk far) (C : Cs H n as ps 512) (h1 : way = 1 → ps.length ≤ 3 ∧ ∀ p ∈ ps, p.bu.length ≤ 1) (q : ∀ n as ps H' B, (way = 3 → B = 512) → Cs H' n as ps B → Q (.ref n) H') :
  wpSs Θn (f_l_cast.body.drop 2) [some (.scr ns), some (.int way), some (.int far), some (.ref n), some (.int c), t5, t6, t7, t8, t9] H (fun fl _ H1 => Q (retV fl) H1) fun x _ H1 => X x H1 := by
 refine zs_cons (ite_way (fun e => ?_) (fun e => ?_))
 ·refine e2_1 (last_of C.P.at' C.ne) fun as1 a e_256 => ?_
  obtain rfl := e_256
  have ln := C.P.ln
  have cu : cutL .none (.int (-1)) (refs (as1 ++ [a])) = some (refs as1) := by
   rw [show refs (as1 ++ [a]) = refs as1 ++ [.ref a.i] from List.map_append]; exact cut_but
  have f1 := hf.1
  have f2 := hf.2
  refine zs_cons ?_
  generalize hK : sqX Θn _ = K
  simp_arith only [ln, cu, listAt_new]
  have C1 := C.pre (pre_new (o := .list (refs as1)))
  have l1 := listAt_new (H := H) (l := refs as1)
  generalize H.length = s at *
  generalize H ++ [O.list (refs as1)] = H2 at *
  refine lp_go (a3 := [a]) (s := s) (fun QF a1 a2 a ps H t6 C hs q => ?_) as1 [] ps H2 _ _ C1 l1 fun H' as' ps' t5' t6' C' => ?_
  ·obtain ⟨w, u, e, l1, fin⟩ := st_two (r := .pl (.every far 1 1)) (t6 := t6) (XF := fun x _ H1 => X x H1) C hs refs_ne ⟨⟨⟨f1, by lia⟩, ⟨by decide, by decide⟩, by decide, by decide⟩, Nat.zero_le _⟩ (by show 1 ≤ 512; decide) (List.prefix_refl H) q
   change listAt (H ++ [O.list [.tup [.str "every", .int far, .int 1, .int 1]]]) a.i = _ at l1
   refine zs_cons ?_
   generalize hK : sqX Θn _ = K
   simp_arith only [l1]
   refine ⟨by show (1 : Int) < 4; decide, ?_⟩
   subst hK
   exact fin
  ·subst hK
   exact ca3 hz hf C' (fun h => absurd (e.symm.trans h) (by decide)) q
 ·exact ca3 hz hf C h1 q
end
noncomputable def C_cast : Ctr := fun vs H Q _ => ∃ (ns : List Int) (way far : Int), vs = [.scr ns, .int way, .int far] ∧ ns.length ≤ 1000 ∧ farOk far ∧ ∀ n as ps H' B, (way = 3 → B = 512) → Cs H' n as ps B → Q (.ref n) H'
theorem w_cast : ∀ vs H Q X, C_cast vs H Q X → wpFn Θn f_l_cast vs H Q X := by
 rintro vs H Q X ⟨ns, way, far, rfl, hz, hf, q⟩
 refine fn_of rfl ?_
 change wpSs Θn f_l_cast.body [some (.scr ns), some (.int way), some (.int far), none, none, none, none, none, none, none] H _ _
 refine zs_cons ?_
 generalize hK : sqX Θn (_ :: _) = K
 simp_arith only [↓Tn_ca, ↓cc_cell]
 refine ⟨hz, ?_⟩
 have d : (if decide (way = 6) = true then (1 : Int) else 0) = 0 ∨ (if decide (way = 6) = true then (1 : Int) else 0) = 1 := by
  by_cases h : way = 6
  ·rw [decide_eq_true h]; exact .inr rfl
  ·rw [decide_eq_false h]; exact .inl rfl
 have d1 : way = 1 → (if decide (way = 6) = true then (1 : Int) else 0) = 0 := fun h => by rw [h]; rfl
 simp_arith only [↓Tn_sb]
 generalize (if decide (way = 6) = true then (1 : Int) else 0) = dd at *
 refine ⟨ns, 10, _, far, hz, by lia, by lia, hf, fun n as ps H1 P hl nd hg => ?_⟩
 subst hK
 have C : Cs H1 n as ps 512 := ⟨P, nd, fun h => by rw [h] at hl; have : (0 : Int) = _ := hl; lia, fun p hp => (hg p hp).1.q (hg p hp).2, by lia, Nat.lt_of_le_of_lt (Nat.pow_le_pow_right (by decide) (show ps.length ≤ 7 by lia)) (by decide), by decide⟩
 refine zs_cons ?_
 generalize hK : sqX Θn (_ :: _) = K
 simp_arith only [↓Tn_ca, ↓cc_cell]
 refine ⟨hz, ?_⟩
 subst hK
 exact ca2 hz hf C (fun h => ⟨by have := d1 h; lia, fun p hp => (hg p hp).1.zu⟩) q
noncomputable def Θo : Orc := ext "_law_cast" C_cast Θn
end Mine
namespace Mine
open PySem
theorem To_co : Θo (Str.ofString "Book." ++ Str.ofString "come") = C_come := rfl
theorem To_bu : Θo (Str.ofString "Book." ++ Str.ofString "busy") = C_busy := rfl
theorem To_me : Θo (Str.ofString "Book." ++ Str.ofString "meet") = C_meet := rfl
theorem To_in : Θo "Book.__init__" = C_init := rfl
structure Mk (H0 H : Hp) (k : Bk) (ps : List Prs) : Prop where
 fr : Fr [] H0 H
 foot : ∀ i ∈ k.foot, H0.length ≤ i
 book : BkAt H k ps []
 c : k.c = 5
noncomputable abbrev bsB : List IS := [(.expr (.mcall (.loc 4) "busy" [(.sub (.loc 5) (.lit (.int 0))), (.loc 6)]))]
section
variable {XF : XS} {v0 v1 v2 v3 : V} {t7 t8 t9 t10 : Option V} {H0 : Hp} {Q : QS} {B : Nat}
theorem bo_in {k : Bk} {a : Ad} {p : Prs} {qs : List Prs} {st : Hp → Prop} (P : PA H0 a p []) (hst : ∀ H', Fr [] H0 H' → st H') : ∀ (rs dn : List Rl) (H : Hp) (t6 : Option V), Mk H0 H k (qs ++ [⟨p.nm, p.fr, dn⟩]) → (∀ r ∈ rs, r.fine ∧ r.deep ≤ 7) → dn.length + rs.length ≤ 20 →
  (∀ H' t6', Mk H0 H' k (qs ++ [⟨p.nm, p.fr, dn ++ rs⟩]) → Q .next [some v0, some v1, some v2, some v3, some (.ref k.b), some (.ref a.i), t6', t7, t8, t9, t10] H') →
  forGo (whBX Θo bsB XF) st 6 (rs.map rv) [some v0, some v1, some v2, some v3, some (.ref k.b), some (.ref a.i), t6, t7, t8, t9, t10] H Q := by
 intro rs
 induction rs with
 | nil => intro dn H t6 M _ _ q; have := q H t6; rw [List.append_nil] at this; exact this M
 | cons r rs ih =>
  intro dn H t6 M hf hz q
  rw [List.map_cons, foX_cons]
  rw [List.length_cons] at hz
  have hi := M.fr.list (fun h => nomatch h) P.li
  simp_arith only [M.book.ns, hi, ↓To_bu]
  refine ⟨k, qs, [], ⟨p.nm, p.fr, dn⟩, [], r, M.book, (hf r List.mem_cons_self).1, (hf r List.mem_cons_self).2, by show dn.length < 20; lia, fun _ h => (nomatch h), fun H' f B => ?_⟩
  have M2 : Mk H0 H' k (qs ++ [⟨p.nm, p.fr, dn ++ [r]⟩]) := ⟨M.fr.trans f fun i hi => .inr (M.foot i (ft_ul hi)), M.foot, B, M.c⟩
  refine ⟨hst _ M2.fr, ih (dn ++ [r]) _ _ M2 (fun x h => hf x (.tail _ h)) (by rw [List.length_append, List.length_singleton]; lia) fun H' t6' M' => q H' t6' ?_⟩
  rw [List.append_assoc] at M'
  exact M'
theorem Mk.come {H H2 : Hp} {k k2 : Bk} {al al2 : List Prs} {H1 : Hp} (M : Mk H0 H k al) (p1 : H <+: H1) (f2 : Fr k.foot H1 H2) (hc : k2.c = k.c) (hk : ∀ i ∈ k2.foot, i ∈ k.foot ∨ H1.length ≤ i) (B : BkAt H2 k2 al2 []) : Mk H0 H2 k2 al2 := by
 have h0 := M.fr.len
 have h1 := p1.length_le
 exact ⟨(M.fr.trans (Fr.pre (F := []) p1) (fun _ h => nomatch h)).trans f2 fun i hi => .inr (M.foot i hi), fun i hi => (hk i hi).elim (M.foot i) fun h => by lia, B, hc.trans M.c⟩
noncomputable abbrev boL : List IS := bdy (f_l_book_of.body.getD 2 .fail)
theorem bo_loop {n b : Nat} {vs0 : List V} (hl : listAt H0 n = some vs0) : ∀ (as : List Ad) (ps qs : List Prs) (H : Hp) (k : Bk) (t5 t6 : Option V), k.b = b → PsAt H0 mN as ps → Mk H0 H k qs → ((qs ++ ps).map Prs.nm).Nodup → (∀ p ∈ ps, Gq B p) → qs.length + ps.length ≤ 100 →
  (∀ k' H' t5' t6', k'.b = b → Mk H0 H' k' (qs ++ ps) → Q .next [some (.ref n), some v1, some v2, some v3, some (.ref b), t5', t6', t7, t8, t9, t10] H') →
  forGo (whBX Θo boL XF) (fun H' => listAt H' n = some vs0) 5 (refs as) [some (.ref n), some v1, some v2, some v3, some (.ref b), t5, t6, t7, t8, t9, t10] H Q := by
 intro as
 induction as with
 | nil =>
  intro ps qs H k t5 t6 hb hps M _ _ _ q
  obtain rfl := hps
  have := q k H t5 t6 hb
  rw [List.append_nil] at this
  exact this M
 | cons a as ih =>
  intro ps qs H k t5 t6 hb hps M hn hg hz q
  refine e2_3 hps fun p rest e_257 P hr => ?_
  obtain rfl := e_257
  have gp := hg p List.mem_cons_self
  rw [List.length_cons] at hz
  have hi := M.fr.list (fun h => nomatch h) P.li
  have lf := M.fr.list (fun h => nomatch h) P.lf
  have hni : p.nm ∉ qs.map Prs.nm := fun hm => by
   rw [List.map_append] at hn
   exact (List.nodup_append.mp hn).2.2 p.nm hm p.nm (.head _) rfl
  have hns := M.book.ns
  obtain rfl := hb
  rw [show refs (a :: as) = .ref a.i :: refs as from rfl, foX_cons]
  refine zs_cons ?_
  generalize hK : sqX Θo (_ :: _) = K
  have pp : H <+: H ++ [.list (p.fr.map rv)] := pre_new
  simp_arith only [hns, hi, lf, ↓To_co]
  have B1 := M.book.pre pp
  have hd1 := listAt_new (H := H) (l := p.fr.map rv)
  have hdf : H.length ∉ k.foot := fun h => by have := M.book.lt _ h; lia
  have hH := pp.length_le
  generalize H ++ [O.list (p.fr.map rv)] = H1 at *
  have fr2 := gp.zf
  refine ⟨k, qs, [], p.nm, H.length, p.fr, B1, hd1, hdf, gp.nm, hni, by lia, fun r hr => gp.W r (List.mem_append_left _ hr), by lia, fun H2 k2 f2 hb2 hg2 hc2 hk2 B2 => ?_⟩
  subst hK
  have M2 := M.come pp f2 hc2 hk2 B2
  have hi2 := M2.fr.list (fun h => nomatch h) P.li
  have lu2 := M2.fr.list (fun h => nomatch h) P.lu
  refine zs_cons ?_
  generalize hK : sqX Θo [] = K
  simp_arith only [hi2, lu2]
  subst hK
  have bl := gp.zu
  rw [← hb2]
  refine bo_in (k := k2) P (fun H' f => f.list (fun h => nomatch h) P.lu) p.bu [] H2 _ M2 (fun r hr => gp.W r (List.mem_append_right _ hr)) (by show 0 + _ ≤ _; lia) fun H3 t3' M3 => ?_
  rw [List.nil_append] at M3
  refine ⟨M3.fr.list (fun h => nomatch h) hl, ?_⟩
  rw [hb2]
  refine ih rest (qs ++ [p]) H3 k2 _ _ hb2 hr M3 (by rw [List.append_assoc]; exact hn) (fun x h => hg x (.tail _ h)) (by rw [List.length_append, List.length_singleton]; lia) fun k' H' t2' t3' hb' M' => ?_
  rw [List.append_assoc] at M'
  exact q k' H' t2' t3' hb' M'
end
theorem prd_mem : ∀ {rs : List Rl} {r : Rl}, (∀ r ∈ rs, r.fine) → r ∈ rs → r.rn ≤ prd rs
 | s :: rs, r, hf, h => by
  have h1 := (hf s List.mem_cons_self).inner.rn.1
  have h2 := prd_pos rs fun r hr => hf r (List.mem_cons_of_mem _ hr)
  rcases List.mem_cons.mp h with e | h
  ·rw [e]; exact Nat.le_mul_of_pos_right _ h2
  ·exact Nat.le_trans (prd_mem (fun r hr => hf r (List.mem_cons_of_mem _ hr)) h) (Nat.le_mul_of_pos_left _ h1)
theorem Gq.fine {p : Prs} (g : Gq 512 p) : p.fine := by
 have ok : ∀ r ∈ p.fr ++ p.bu, r.ok := fun r hr => ⟨(g.W r hr).1, by
  have h := Nat.le_trans (prd_mem (fun r hr => (g.W r hr).1) hr) g.pd
  unfold Rl.rn at h
  cases e : r.inner with
  | month d t s => rw [e] at h; exact absurd (show 35064 ≤ 512 from h) (by decide)
  | _ => rfl⟩
 exact ⟨fun r hr => ok r (List.mem_append_left _ hr), fun r hr => ok r (List.mem_append_right _ hr)⟩
structure W3 (H : Hp) (k : Bk) (al : List Prs) (hs : List Mtg) (n s : Nat) (as : List Ad) (ps : List Prs) (z : Nat) : Prop where
 book : BkAt H k al hs
 P : Ppl H n as ps (ml hs)
 dj : ∀ i ∈ s :: n :: ads as, i ∉ k.foot
 hm : ∀ m ∈ hs, 0 ≤ m.hr ∧ 0 ≤ m.sz ∧ m.sz ≤ 48
 zh : hs.length + z ≤ 10
 zc : k.c + z ≤ 100
theorem W3.le {H : Hp} {k : Bk} {al : List Prs} {hs : List Mtg} {n s : Nat} {as : List Ad} {ps : List Prs} {z : Nat} (W : W3 H k al hs n s as ps (z + 1)) : W3 H k al hs n s as ps z := ⟨W.book, W.P, W.dj, W.hm, by have := W.zh; lia, by have := W.zc; lia⟩
theorem W3.pre {H H' : Hp} {k : Bk} {al : List Prs} {hs : List Mtg} {n s : Nat} {as : List Ad} {ps : List Prs} {z : Nat} (W : W3 H k al hs n s as ps z) (p : H <+: H') : W3 H' k al hs n s as ps z := ⟨W.book.pre p, W.P.pre p, W.dj, W.hm, W.zh, W.zc⟩
theorem ml_no {hs : List Mtg} {p : Prs} {m : Mtg} (h : m.who.contains p.nm = false) : ml (hs ++ [m]) p = ml hs p := by
 unfold ml
 rw [List.filter_append, show [m].filter (fun m => m.who.contains p.nm) = [] by rw [List.filter_cons, h]; rfl, List.append_nil]
theorem W3.met {H H2 : Hp} {k k' : Bk} {al : List Prs} {hs : List Mtg} {n s z : Nat} {as1 as2 : List Ad} {a : Ad} {ps1 ps2 : List Prs} {p : Prs} {g x sz : Int} (W : W3 H k al hs n s (as1 ++ a :: as2) (ps1 ++ p :: ps2) (z + 1)) (hl : as1.length = ps1.length) (nd : ((ps1 ++ p :: ps2).map Prs.nm).Nodup) (f : Fr k.foot H H2) (ft : k'.foot = k.foot) (hc : k'.c = k.c + 1)
  (B : BkAt H2 k' al (hs ++ [⟨g, x, sz, [p.nm]⟩])) (h0 : 0 ≤ x) (hz : sizeOk1 sz) : listAt H2 a.i = some [.str p.nm, .ref a.f, .ref a.u, .ref a.e] ∧ listAt H2 a.e = some ((ml hs p).map metV) ∧ W3 (H2.set a.e (.list ((ml hs p).map metV ++ [metV (x, sz)]))) k' al (hs ++ [⟨g, x, sz, [p.nm]⟩]) n s (as1 ++ a :: as2) (ps1 ++ p :: ps2) z := by
 have h1 := hz.1
 have h2 := hz.2
 have dj2 : ∀ i ∈ n :: ads (as1 ++ a :: as2), i ∉ k.foot := fun i hi => W.dj i (.tail _ hi)
 have P2 := W.P.fr f dj2
 refine e3_4 (P2.at'.mid) fun ps3 p3 ps4 e Q1 A Q2 => ?_
 obtain ⟨rfl, e1⟩ := List.append_inj e (by rw [← Q1.length, hl])
 obtain ⟨rfl, rfl⟩ := List.cons.inj e1
 rw [List.map_append, List.map_cons] at nd
 refine e0_3 (List.nodup_append.mp nd) fun _ n2 n3 => ?_
 have no : ∀ q : Prs, q.nm ≠ p.nm → ml hs q = ml (hs ++ [⟨g, x, sz, [p.nm]⟩]) q := fun q hq => (ml_no (by
  rw [Bool.eq_false_iff]; intro h
  exact hq (List.mem_singleton.mp (List.contains_iff_mem.mp h)))).symm
 have E1 := Q1.to (me' := ml (hs ++ [⟨g, x, sz, [p.nm]⟩])) fun q hq => no q (n3 _ (List.mem_map_of_mem hq) _ (.head _))
 have E2 := Q2.to (me' := ml (hs ++ [⟨g, x, sz, [p.nm]⟩])) fun q hq => no q fun e => (List.nodup_cons.mp n2).1 (e ▸ List.mem_map_of_mem hq)
 obtain ⟨g1, g2, g3, g4, g5, g6⟩ := nd_all.mp (all_nd P2.nd)
 have gf : Fr [a.e] H2 (H2.set a.e (.list ((ml hs p).map metV ++ [metV (x, sz)]))) := Fr.set
 have ae : a.e ∈ s :: n :: ads (as1 ++ a :: as2) := .tail _ (.tail _ (ads_mem (List.mem_append_right _ (.head _)) ad_e))
 refine ⟨A.li, A.le, B.fr gf fun i hi h => W.dj _ ae (by rw [← ft, ← List.mem_singleton.mp h]; exact hi), ?_, fun i hi => by rw [ft]; exact W.dj i hi, fun m hm => ?_, ?_, by have := W.zc; lia⟩
 ·refine Ppl.swap P2.nd P2.ln E1 E2 gf ad_e ⟨gf.list (nin1 g3) A.li, gf.list (nin1 g5) A.lf, gf.list (nin1 g6) A.lu, ?_⟩ rfl (all_nd P2.nd) fun _ h => .inl h
  rw [listAt_set A.le, ml_snoc (m := ⟨g, x, sz, [p.nm]⟩) (List.contains_iff_mem.mpr (.head _)), List.map_append]; rfl
 ·rcases List.mem_append.mp hm with h | h
  ·exact W.hm m h
  ·rw [List.mem_singleton.mp h]
   exact ⟨h0, by show 0 ≤ sz; lia, h2⟩
 ·have := W.zh
  rw [List.length_append]; show hs.length + 1 + z ≤ 10; lia
end Mine
namespace Mine
open PySem
theorem for_cut {Φ : Orc} {i j n : Nat} {k : Int} {b : List IS} {L : Lc} {H : Hp} {xs ys : List V} {QF : QS} {XF : XS} (hL : L[i]? = some (some (.ref n))) (hl : listAt H n = some xs) (hc : cutL .none (.int k) xs = some ys) (h : forGo (whBX Φ b XF) (fun H' => listAt H' H.length = some ys) j ys L (H ++ [.list ys]) QF) :
  wpS Φ (.for j .val (.slice (.loc i) none (some (.lit (.int k)))) b) L H QF XF := by
 rw [Z_for]
 simp_arith only [hL, hl, hc, listAt_new]
 exact h
noncomputable abbrev w3B : List IS := bdy ((thn (f_l_book_of.body.getD 3 .fail)).getD 0 .fail)
theorem w3_loop {n s b : Nat} {al ps : List Prs} {as : List Ad} {l : List V} {v1 : V} {far sz : Int} {t8 t9 t10 : Option V} {XF : XS} {Q : QS} (nd : (ps.map Prs.nm).Nodup) (sub : ∀ p ∈ ps, p ∈ al) (fine : ∀ p ∈ ps, p.fine) (sa : s ∉ ads as) (hf : farOk far) (hz : sizeOk1 sz)
  (q : ∀ H' k' hs' L', k'.b = b → W3 H' k' al hs' n s as ps 0 → Q .next (some (.ref n) :: some v1 :: some (.int far) :: some (.int sz) :: some (.ref b) :: L') H') : ∀ (a2 : List Ad) (H : Hp) (k : Bk) (hs : List Mtg) (t5 t6 t7 : Option V), k.b = b → (∀ a ∈ a2, a ∈ as) → W3 H k al hs n s as ps a2.length → listAt H s = some l →
  forGo (whBX Θo w3B XF) (fun H' => listAt H' s = some l) 5 (refs a2) [some (.ref n), some v1, some (.int far), some (.int sz), some (.ref b), t5, t6, t7, t8, t9, t10] H Q := by
 intro a2
 have f1 := hf.1
 have f2 := hf.2
 have z1 := hz.1
 have z2 := hz.2
 induction a2 with
 | nil => intro H k hs t5 t6 t7 hb _ W _; exact q H k hs _ hb W
 | cons a a2 ih =>
  intro H k hs t5 t6 t7 hb ha W hs0
  refine e2_1 (List.append_of_mem (ha a List.mem_cons_self)) fun as1 as2 ea => ?_
  have ha := fun x hx => ha x (List.mem_cons_of_mem _ hx)
  rw [ea] at W
  refine e3_4 (W.P.at'.mid) fun ps1 p ps2 ep P1 A P2 => ?_
  have hp : p ∈ ps := by rw [ep]; exact List.mem_append_right _ (.head _)
  rw [ep] at W
  have hl := P1.length
  obtain rfl := hb
  have zh := W.zh
  have zc := W.zc
  rw [show refs (a :: a2) = .ref a.i :: refs a2 from rfl, foX_cons]
  refine zs_cons ?_
  generalize hK : sqX Θo (_ :: _) = K
  simp_arith only [W.book.ns, A.li, ↓To_me]
  have W1 := W.pre (pre_new (o := .list [V.str p.nm]))
  have l1 := listAt_new (H := H) (l := [V.str p.nm])
  have s1 := listAt_pre (pre_new (o := .list [V.str p.nm])) hs0
  have nf : H.length ∉ k.foot := fun h => by have := W.book.lt _ h; lia
  generalize H.length = i1 at *
  generalize H ++ [O.list [V.str p.nm]] = H1 at *
  refine ⟨k, i1, al, hs, [p], sz, far, _, ⟨W1.book, l1, fun x hx => by rw [List.mem_singleton.mp hx]; exact sub p hp⟩, fun x hx => by rw [List.mem_singleton.mp hx]; exact fine p hp, (fun h => nomatch h), List.nodup_cons.mpr ⟨List.not_mem_nil, List.nodup_nil⟩, ⟨hz, ⟨f1, by lia⟩, ⟨by show 0 ≤ far + 20 + sz; lia, by lia⟩, by lia, by lia⟩, nf, by lia, by lia, fun H2 hp2 _ => ?_, fun x k' H2 F fr ft eb eg ec B2 => ?_⟩
  ·subst hK
   refine zs_cons ?_
   generalize hK : sqX Θo _ = K
   simp_arith only [isNoneV]
   subst hK
   rw [sqX_next, Zs_nil]
   refine ⟨listAt_pre hp2 s1, ih H2 k hs _ _ _ rfl ha ?_ (listAt_pre hp2 s1)⟩
   have := (W1.pre hp2).le
   rw [← ea, ← ep] at this
   exact this
  ·have x0 : 0 ≤ x := by
    rcases F with ⟨y, e, h, _⟩ | ⟨e, _⟩
    ·cases e; lia
    ·exact nomatch e
   obtain ⟨li, le, W2⟩ := W1.met hl (by rw [← ep]; exact nd) fr ft ec B2 x0 hz
   have s2 := fr.list (W1.dj s (.head _)) s1
   have ne : a.e ≠ s := fun e => sa (by rw [ea, ← e]; exact ads_mem (List.mem_append_right _ (.head _)) ad_e)
   subst hK
   refine zs_cons ?_
   generalize hK : sqX Θo _ = K
   have mz : (ml hs p).length ≤ hs.length := ml_len
   simp_arith only [isNoneV, li, le, List.length_map]
   refine ⟨⟨_, le⟩, by lia, ?_⟩
   subst hK
   rw [sqX_next, Zs_nil]
   rw [← ea, ← ep] at W2
   rw [← listAt_set_ne (o := .list ((ml hs p).map metV ++ [metV (x, sz)])) ne] at s2
   exact ⟨s2, ih _ k' _ _ _ _ eb ha W2 s2⟩
structure Bo (H : Hp) (k : Bk) (al : List Prs) (hs : List Mtg) (n : Nat) (as : List Ad) (ps : List Prs) : Prop where
 S : Sta H k al hs n as ps
 dj : ∀ i ∈ n :: ads as, i ∉ k.foot
 un : Un as
 zc : k.c ≤ 100
 zh : hs.length ≤ 10
 hm : ∀ m ∈ hs, 0 ≤ m.hr ∧ 0 ≤ m.sz ∧ m.sz ≤ 48
 b9 : ∀ p ∈ ps, p.bu.length ≤ 9
theorem un_of {n : Nat} : ∀ {as : List Ad}, (n :: ads as).Nodup → Un as
 | [], _ => trivial
 | a :: r, h => by
  have h2 := (List.nodup_cons.mp h).2
  have h2 : (a.all ++ ads r).Nodup := h2
  refine e0_3 (List.nodup_append.mp h2) fun d1 _ d2 => ?_
  obtain ⟨g1, g2, g3, g4, g5, g6⟩ := nd_all.mp d1
  intro h
  rcases List.mem_cons.mp h with q | h
  ·exact g2 q.symm
  rcases List.mem_cons.mp h with q | h
  ·exact g4 q.symm
  rcases List.mem_cons.mp h with q | h
  ·exact g6 q
  exact d2 _ ad_u _ h rfl
theorem W3.bo {H H0 : Hp} {k : Bk} {al : List Prs} {hs : List Mtg} {n s : Nat} {as : List Ad} {ps : List Prs} {B : Nat} (W : W3 H k al hs n s as ps 0) (C : Cs H0 n as ps B) (sub : ∀ p ∈ ps, p ∈ al) : Bo H k al hs n as ps := by
 have zp := C.zp
 have zh := W.zh
 exact ⟨⟨W.book, W.P.ln, W.P.at', fun p hp => ⟨(C.g p hp).W, by have := (C.g p hp).zf; lia, by have := (C.g p hp).zu; lia⟩, sub, C.nd, C.ne, by lia, by lia, Nat.lt_of_le_of_lt (prd_all C.g) C.pw⟩, fun i hi => W.dj i (.tail _ hi), un_of W.P.nd, W.zc, W.zh, W.hm, fun p hp => by have := (C.g p hp).zu; lia⟩
inductive IC_book_of (H : Hp) (Q : V → Hp → Prop) : List V → Prop where
 | mk (n : Nat) (as : List Ad) (ps : List Prs) (B : Nat) (way far sz : Int) : Cs H n as ps B → (way = 3 → B = 512) → farOk far → sizeOk1 sz → (∀ H' k al hs, Bo H' k al hs n as ps → Q (.ref k.b) H') → IC_book_of H Q [.ref n, .int way, .int far, .int sz]
noncomputable def C_book_of : Ctr := fun vs H Q _ => IC_book_of H Q vs
theorem zz_ok : nameOk (Str.ofString "zz") := ⟨by decide, by decide, fun c hc => by
 rcases List.mem_cons.mp (show c ∈ [122, 122] from hc) with e | e
 ·lia
 ·rw [List.mem_singleton.mp e]; decide⟩
theorem zz_is : Str.ofString "zz" = zN 122 := by decide
theorem w_book_of : ∀ vs H Q X, C_book_of vs H Q X → wpFn Θo f_l_book_of vs H Q X := by
 rintro vs H Q X ⟨n, as, ps, B, way, far, sz, C, hB, hf, hz, q⟩
 refine fn_of rfl ?_
 have f1 := hf.1
 have f2 := hf.2
 have z1 := hz.1
 change wpSs Θo f_l_book_of.body [some (.ref n), some (.int way), some (.int far), some (.int sz), none, none, none, none, none, none, none] H _ _
 refine zs_cons ?_
 generalize hK : sqX Θo (_ :: _) = K
 simp_arith only [↓To_in]
 refine ⟨H, rfl, rfl, fun H1 k hp hb _ hc hft B1 => ⟨rfl, ?_⟩⟩
 subst hK
 rw [← hb, sqX_next]
 have M : Mk H H1 k [] := ⟨Fr.pre hp, hft, B1, hc⟩
 have rs1 : ∀ r ∈ [Rl.pl (.month 1 5 2), .pl (.once (far + 150) 1)], r.fine ∧ r.deep ≤ 7 := fun r hr => by
  rcases List.mem_cons.mp hr with e | hr
  ·rw [e]; exact ⟨⟨⟨by decide, by decide⟩, ⟨by decide, by decide⟩, by decide, by decide, by decide⟩, Nat.zero_le _⟩
  ·rw [List.mem_singleton.mp hr]; exact ⟨⟨⟨by lia, by lia⟩, ⟨by decide, by decide⟩⟩, Nat.zero_le _⟩
 have cu := cut_01 (l := [Rl.pl (.month 1 5 2), .pl (.once (far + 150) 1)].map rv) (Int.emod_nonneg sz (show (3 : Int) ≠ 0 by decide))
 rw [← List.map_take] at cu
 have rs2 := fun r hr => rs1 r (List.mem_of_mem_take (i := min (sz % 3).toNat ([Rl.pl (.month 1 5 2), .pl (.once (far + 150) 1)].map rv).length) hr)
 have rl := List.length_take_le' (min (sz % 3).toNat ([Rl.pl (.month 1 5 2), .pl (.once (far + 150) 1)].map rv).length) [Rl.pl (.month 1 5 2), .pl (.once (far + 150) 1)]
 change cutL .none (.int (sz % 3)) [.tup [.str "month", .int 1, .int 5, .int 2], .tup [.str "once", .int (far + 150), .int 1]] = _ at cu
 change _ ≤ 2 at rl
 generalize [Rl.pl (.month 1 5 2), .pl (.once (far + 150) 1)].take (min (sz % 3).toNat ([Rl.pl (.month 1 5 2), .pl (.once (far + 150) 1)].map rv).length) = rs at *
 refine zs_cons ?_
 generalize hK : sqX Θo (_ :: _) = K
 simp_arith only [B1.ns, listAt_new, cu, ↓To_co]
 have pp : H1 <+: H1 ++ [O.list [.tup [.str "month", .int 1, .int 5, .int 2], .tup [.str "once", .int (far + 150), .int 1]]] ++ [O.list (rs.map rv)] := pre_new.trans pre_new
 have l3 := listAt_new (H := H1 ++ [O.list [.tup [.str "month", .int 1, .int 5, .int 2], .tup [.str "once", .int (far + 150), .int 1]]]) (l := rs.map rv)
 have nf : (H1 ++ [O.list [.tup [.str "month", .int 1, .int 5, .int 2], .tup [.str "once", .int (far + 150), .int 1]]]).length ∉ k.foot := fun h => by have := B1.lt _ h; rw [List.length_append] at this; lia
 generalize (H1 ++ [O.list [.tup [.str "month", .int 1, .int 5, .int 2], .tup [.str "once", .int (far + 150), .int 1]]]).length = i3 at *
 generalize H1 ++ [O.list [.tup [.str "month", .int 1, .int 5, .int 2], .tup [.str "once", .int (far + 150), .int 1]]] ++ [O.list (rs.map rv)] = H3 at *
 refine ⟨k, [], [], _, i3, rs, B1.pre pp, l3, nf, zz_ok, List.not_mem_nil, by lia, rs2, Nat.zero_le _, fun H4 k4 f4 hb4 _ hc4 hk4 B4 => ?_⟩
 subst hK
 have M4 := M.come pp f4 hc4 hk4 B4
 rw [← hb4, sqX_next]
 have hl4 := M4.fr.list (fun h => nomatch h) C.P.ln
 have zp := C.zp
 refine zs_cons ?_
 generalize hK : sqX Θo (_ :: _) = K
 simp_arith only [hl4]
 subst hK
 have ndz : (([] ++ [Prs.mk (Str.ofString "zz") rs []] ++ ps).map Prs.nm).Nodup := List.nodup_cons.mpr ⟨fun h => by
  refine e1_2 (List.mem_map.mp h) fun p hp e => ?_
  exact (C.g p hp).nz (e.trans zz_is), C.nd⟩
 refine bo_loop C.P.ln as ps _ H4 k4 _ _ rfl C.P.at' M4 ndz C.g (by show 1 + _ ≤ _; lia) fun k5 H5 t5 t6 hb5 M5 => ?_
 rw [← hb5, sqX_next]
 have sub : ∀ p ∈ ps, p ∈ [] ++ [Prs.mk (Str.ofString "zz") rs []] ++ ps := fun p hp => List.mem_append_right _ hp
 generalize [] ++ [Prs.mk (Str.ofString "zz") rs []] ++ ps = al at *
 have lt0 := C.P.lt
 have P5 := C.P.fr M5.fr fun _ _ h => nomatch h
 have P5' : Ppl H5 n as ps (ml []) := ⟨P5.ln, P5.at'.to fun _ _ => rfl, P5.nd⟩
 have dj0 : ∀ i ∈ n :: ads as, i ∉ k5.foot := fun i hi h => by have := M5.foot i h; have := lt0 i hi; lia
 have c5 := M5.c
 refine zs_cons (ite_way (fun e => ?_) (fun e => ?_))
 ·obtain rfl := hB e
  have cu := cut_01 (k := 2) (l := refs as) (by decide)
  rw [show (refs as).take (min (2 : Int).toNat (refs as).length) = refs (as.take (min (2 : Int).toNat (refs as).length)) from (List.map_take ..).symm] at cu
  have ha : ∀ a ∈ as.take (min (2 : Int).toNat (refs as).length), a ∈ as := fun a h => List.mem_of_mem_take h
  have ha2 : (as.take (min (2 : Int).toNat (refs as).length)).length ≤ 2 := Nat.le_trans (List.length_take_le _ _) (Nat.min_le_left _ _)
  generalize as.take (min (2 : Int).toNat (refs as).length) = a2 at *
  have ln := P5.ln
  refine zs_cons (for_cut rfl ln cu ?_)
  generalize hK : sqX Θo _ = K
  have l6 := listAt_new (H := H5) (l := refs a2)
  have W6 : W3 (H5 ++ [.list (refs a2)]) k5 al [] n H5.length as ps a2.length := ⟨M5.book.pre pre_new, P5'.pre pre_new, fun i hi => by
   rcases List.mem_cons.mp hi with q | hi
   ·rw [q]; exact fun h => by have := M5.book.lt _ h; lia
   ·exact dj0 i hi, (fun _ h => nomatch h), by show 0 + _ ≤ _; lia, by lia⟩
  have sa : H5.length ∉ ads as := fun h => by have := P5.lt _ (.tail _ h); lia
  generalize H5.length = s at *
  generalize H5 ++ [O.list (refs a2)] = H6 at *
  refine w3_loop (s := s) (b := k5.b) C.nd sub (fun p hp => (C.g p hp).fine) sa hf hz (fun H7 k7 hs7 L7 hb7 W7 => ?_) a2 H6 k5 [] _ _ _ rfl ha W6 l6
  subst hK
  rw [sqX_next, Zs_nil, sqX_next, ← hb7]
  simp_arith only [X_lit]
  exact q H7 k7 al hs7 (W7.bo C sub)
 ·have W6 : W3 H5 k5 al [] n n as ps 0 := ⟨M5.book, P5', fun i hi => dj0 i (by
   rcases List.mem_cons.mp hi with q | hi
   ·rw [q]; exact .head _
   ·exact hi), (fun _ h => nomatch h), by show 0 + 0 ≤ _; decide, by lia⟩
  rw [sqX_next]
  simp_arith only [X_lit]
  exact q H5 k5 al [] (W6.bo C sub)
noncomputable def Θp : Orc := ext "_law_book_of" C_book_of Θo
end Mine
namespace Mine
open PySem
theorem Tp_ca : Θp "_law_cell_at" = C_cell_at := rfl
theorem Tp_fa : Θp "_law_far" = C_far := rfl
theorem Tp_cs : Θp "_law_cast" = C_cast := rfl
theorem Tp_bo : Θp "_law_book_of" = C_book_of := rfl
theorem Tp_wk : Θp "_law_walk" = C_walk := rfl
theorem Tp_ho : Θp "_law_holds" = C_holds := rfl
theorem Tp_de : Θp "_law_deeds" = C_deeds := rfl
theorem Tp_mt : Θp (Str.ofString "Book." ++ Str.ofString "meetings") = C_meetings := rfl
theorem Tp_ev : Θp (Str.ofString "Book." ++ Str.ofString "ever") = C_ever := rfl
theorem de_strs : ∀ xs : List Str, PyData.depthAll (xs.map PyData.str) ≤ 0
 | [] => by rw [List.map_nil, PyData.depthAll]; exact Nat.le_refl _
 | x :: r => by
  have := de_strs r
  rw [List.map_cons, PyData.depthAll, PyData.depth]
  lia
theorem ea_strs : ∀ xs : List Str, PyData.eqvAll (xs.map PyData.str) (xs.map PyData.str) = true
 | [] => by rw [List.map_nil, PyData.eqvAll]
 | x :: r => by rw [List.map_cons, PyData.eqvAll, eqv_str, beq_self_eq_true, ea_strs r]; rfl
theorem eq_names {H : Hp} {i j : Nat} {ps : List Prs} (h1 : listAt H i = some (nmL ps)) (h2 : listAt H j = some (nmL ps)) : eqH H (.ref i) (.ref j) = some true := by
 have t : ∀ {i}, listAt H i = some (nmL ps) → toPyT H (.ref i) = some (.list ((ps.map Prs.nm).map PyData.str)) := fun {i} h => by
  show ((listAt H i).bind toPys).map _ = _
  rw [h, show nmL ps = (ps.map Prs.nm).map V.str from nm_map ps, Option.bind_some, toPys_strs]; rfl
 unfold eqH
 rw [t h1, t h2, Option.bind_some, Option.bind_some, if_pos (by rw [PyData.depth]; have := de_strs (ps.map Prs.nm); lia), PyData.eqv, ea_strs]
section
variable {ns : List Int} {way far c5 hours lo : Int} {k : Bk} {al ps : List Prs} {hs : List Mtg} {n nl : Nat} {as : List Ad} {v : V} {H : Hp} {Q : V → Hp → Prop} {X : XL}
theorem Bo.pre {H' : Hp} (W : Bo H k al hs n as ps) (p : H <+: H') : Bo H' k al hs n as ps := ⟨W.S.pre p, W.dj, W.un, W.zc, W.zh, W.hm, W.b9⟩
theorem lw_14 (zn : ns.length ≤ 1000) (W : Bo H k al hs n as ps) (hh : sizeOk1 hours) (h0 : hourOk lo) (F : Fnd hs ps hours lo v) (wk : ∃ m, Mx (qP ps hs) m ∧ walk ps m lo ≤ 5000) (q : ∀ H', Q (.bool true) H') :
  wpSs Θp (f_law.body.drop 14) [some (.scr ns), some (.int far), some (.int way), some (.ref n), some (.int hours), some (.int c5), some (.int lo), some (.ref k.b), some (.ref nl), some (.bool false), some (.int (hs.length : Int)), some v, none, none, none] H (fun fl _ H1 => Q (retV fl) H1) fun x _ H1 => X x H1 := by
 refine e1_2 wk fun m M hw => ?_
 obtain ⟨e, ok⟩ := wk_same W.S.fine (.inl hw)
 refine zs_cons ?_
 generalize hK : sqX Θp (_ :: _) = K
 simp_arith only [↓Tp_ho]
 refine ⟨ns, n, as, ml hs, ps, v, hours, lo, zn, W.S.lw ok, hh, h0.1, W.S.rb, fun m2 M2 => ?_, F, fun H1 p1 => ?_⟩
 ·rw [M2.same (M.iff qP_lP), e]
  have := per_pos W.S.fine
  refine ⟨?_, hw⟩
  unfold walk; lia
 simp_arith only [X_lit]
 subst hK
 rcases id F with ⟨rfl, no⟩ | ⟨a, rfl, a1, a2, oka, no⟩
 ·refine zs_cons ?_
  generalize hK : sqX Θp (_ :: _) = K
  simp_arith only [isNoneV]
  subst hK
  exact ⟨fun _ => q _, fun _ => q _⟩
 ·refine zs_cons ?_
  generalize hK : sqX Θp (_ :: _) = K
  simp_arith only [isNoneV]
  subst hK
  refine ⟨fun _ => q _, fun _ => ⟨fun _ => q _, fun ha => ?_⟩⟩
  refine zs_cons ?_
  simp_arith only [↓Tp_de]
  have W2 := (W.pre p1).pre (pre_new (o := .list [V.int hours, .int lo]))
  have l2 := listAt_new (H := H1) (l := [V.int hours, .int lo])
  have nj : H1.length ∉ k.foot := fun h => by have := (W.pre p1).S.book.lt _ h; lia
  have zc := W.zc
  have zh := W.zh
  refine ⟨ns, k, al, ps, hs, n, H1.length, as, hours, lo, a, ⟨zn, ⟨W.S.W, W.S.sub, W.S.nd, W.S.ne, W.S.zp, W.S.pr⟩, ok, W.b9, hh, h0, ⟨a1, oka, F⟩, by lia, ⟨m, M, hw⟩, by lia, W.hm⟩, W2.S, fun i hi => ?_, W.un, by lia, l2, q⟩
  rcases List.mem_cons.mp hi with q | hi
  ·rw [q]; exact W.dj n (.head _)
  rcases List.mem_cons.mp hi with q | hi
  ·rw [q]; exact nj
  ·exact W.dj i (.tail _ hi)
theorem lw_13 (zn : ns.length ≤ 1000) (W : Bo H k al hs n as ps) (hl : listAt H nl = some (nmL ps)) (hh : sizeOk1 hours) (h0 : hourOk lo) (F : Fnd hs ps hours lo v) (wk : ∃ m, Mx (qP ps hs) m ∧ walk ps m lo ≤ 5000) (q : ∀ H', Q (.bool true) H') :
  wpSs Θp (f_law.body.drop 13) [some (.scr ns), some (.int far), some (.int way), some (.ref n), some (.int hours), some (.int c5), some (.int lo), some (.ref k.b), some (.ref nl), some (.bool false), some (.int (hs.length : Int)), some v, none, none, none] H (fun fl _ H1 => Q (retV fl) H1) fun x _ H1 => X x H1 := by
 refine zs_cons ?_
 generalize hK : sqX Θp (_ :: _) = K
 simp_arith only [W.S.book.ns, ↓Tp_mt]
 refine ⟨k, al, hs, rfl, W.S.book, ?_⟩
 have W1 := W.pre (pre_new (o := .list (hs.map mtv)))
 have l1 := listAt_pre (pre_new (o := .list (hs.map mtv))) hl
 have lm := listAt_new (H := H) (l := hs.map mtv)
 generalize H.length = i1 at *
 generalize H ++ [O.list (hs.map mtv)] = H1 at *
 have ln := W1.S.l
 simp_arith only [lm, List.length_map, ln]
 refine ⟨fun h => absurd rfl h, fun _ => ?_⟩
 refine nm_comp ?_ ?_ as ps [] W1.S.P ?_
 ·show 12 < 15; decide
 ·exact ln
 refine ⟨nm_len W.S.zp, ?_⟩
 rw [List.nil_append]
 have W2 := W1.pre (pre_new (o := .list (nmL ps)))
 have e := eq_names (listAt_pre (pre_new (o := .list (nmL ps))) l1) (listAt_new (H := H1) (l := nmL ps))
 generalize H1.length = i2 at *
 generalize H1 ++ [O.list (nmL ps)] = H2 at *
 show oK (eqH H2 (.ref nl) (.ref i2)) _
 rw [e]
 subst hK
 show sqX Θp _ _ _ .next _ _
 rw [sqX_next]
 exact lw_14 zn W2 hh h0 F wk q
end
end Mine
namespace Mine
open PySem
theorem ite_w2 {Φ : Orc} {x y : Int} {a : List IS} {l0 l1 : Option V} {Lr : Lc} {H : Hp} {QF : QS} {XF : XS} (h1 : x = y → wpSs Φ a (l0 :: l1 :: some (.int x) :: Lr) H QF XF) (h2 : x ≠ y → QF .next (l0 :: l1 :: some (.int x) :: Lr) H) : wpS Φ (.ite (.cmp (.loc 2) .Eq (.lit (.int y))) a []) (l0 :: l1 :: some (.int x) :: Lr) H QF XF := by
 show ifP (decide (x = y)) _ _
 exact iX_p h1 h2
theorem ho_at {k : Int} (h1 : 0 ≤ k) (h2 : k < 6) : ∃ d : Int, idx [V.int 1, .int 1, .int 1, .int 2, .int 3, .int 9] k = some (.int d) ∧ sizeOk1 d := by
 rcases six h1 h2 with rfl | rfl | rfl | rfl | rfl | rfl <;> exact ⟨_, rfl, by decide, by decide⟩
theorem two_of {x y k : Int} (h1 : 0 ≤ k) (h2 : k < 2) (hx : 0 ≤ x) (hy : 0 ≤ y) : ∃ d : Int, idx [V.int x, .int y] k = some (.int d) ∧ 0 ≤ d := by
 have : k = 0 ∨ k = 1 := by lia
 rcases this with rfl | rfl
 ·exact ⟨_, rfl, hx⟩
 ·exact ⟨_, rfl, hy⟩
section
variable {ns : List Int} {way far c5 hours lo : Int} {k : Bk} {al ps : List Prs} {hs : List Mtg} {n nl : Nat} {as : List Ad} {v : V} {H : Hp} {Q : V → Hp → Prop} {X : XL}
theorem lw_12 {m : Int} (zn : ns.length ≤ 1000) (W : Bo H k al hs n as ps) (hl : listAt H nl = some (nmL ps)) (hh : sizeOk1 hours) (h0 : hourOk lo) (M : Mx (lP (ml hs) ps) m) (q : ∀ H', Q (.bool true) H') :
  wpSs Θp (f_law.body.drop 12) [some (.scr ns), some (.int far), some (.int way), some (.ref n), some (.int hours), some (.int c5), some (.int lo), some (.ref k.b), some (.ref nl), some (.bool (decide (5000 < lwalk ps m lo))), some (.int (hs.length : Int)), none, none, none, none] H (fun fl _ H1 => Q (retV fl) H1) fun x _ H1 => X x H1 := by
 refine zs_cons ?_
 rw [Z_try]
 refine zs_cons ?_
 generalize hK : sqX Θp _ = K
 simp_arith only [W.S.book.ns, ↓Tp_ev]
 refine ⟨k, nl, al, hs, ps, hours, lo, W.S.asks hl hh h0, fun m' H1 p1 M' => ?_⟩
 obtain rfl := (M'.iff qP_lP).same M
 refine ⟨fun hw => ?_, fun hw _ v F => ?_⟩
 ·have : 5000 < lwalk ps m' lo := by
   by_cases h : lwalk ps m' lo ≤ 5000
   ·rw [(wk_same W.S.fine (.inr h)).1] at h; lia
   ·lia
  rw [decide_eq_true this]
  subst hK
  exact q H1
 ·have e := (wk_same W.S.fine (.inl hw)).1
  rw [decide_eq_false (show ¬ 5000 < lwalk ps m' lo by rw [e]; lia)]
  subst hK
  have W1 := W.pre p1
  have fin := lw_13 (c5 := c5) (way := way) (far := far) (Q := Q) (X := X) zn W1 (listAt_pre p1 hl) hh h0 (W.S.fnd h0.1 M' hw F) ⟨m', M', hw⟩ q
  rw [sqX_next, Zs_nil, sqX_next]
  exact fin
theorem lw_9 (zn : ns.length ≤ 1000) (W : Bo H k al hs n as ps) (hh : sizeOk1 hours) (h0 : hourOk lo) (q : ∀ H', Q (.bool true) H') :
  wpSs Θp (f_law.body.drop 9) [some (.scr ns), some (.int far), some (.int way), some (.ref n), some (.int hours), some (.int c5), some (.int lo), some (.ref k.b), none, none, none, none, none, none, none] H (fun fl _ H1 => Q (retV fl) H1) fun x _ H1 => X x H1 := by
 refine zs_cons ?_
 generalize hK : sqX Θp (_ :: _) = K
 have ln := W.S.l
 simp_arith only [ln]
 refine nm_comp ?_ ?_ as ps [] W.S.P ?_
 ·show 12 < 15; decide
 ·exact ln
 refine ⟨nm_len W.S.zp, ?_⟩
 rw [List.nil_append]
 have W1 := W.pre (pre_new (o := .list (nmL ps)))
 have l1 := listAt_new (H := H) (l := nmL ps)
 subst hK
 rw [sqX_next]
 generalize H.length = nl at *
 generalize H ++ [O.list (nmL ps)] = H1 at *
 refine zs_cons ?_
 generalize hK : sqX Θp (_ :: _) = K
 simp_arith only [↓Tp_wk]
 refine ⟨n, as, ps, ml hs, lo, W1.S.l, W1.S.P, W1.S.wb, W1.S.rb, fun m H2 p2 M => ?_⟩
 simp_arith only [X_lit]
 subst hK
 have W2 := W1.pre p2
 have l2 := listAt_pre p2 l1
 refine zs_cons ?_
 generalize hK : sqX Θp (_ :: _) = K
 simp_arith only [W2.S.book.ns, ↓Tp_mt]
 refine ⟨k, al, hs, rfl, W2.S.book, ?_⟩
 simp_arith only [listAt_new, List.length_map]
 subst hK
 rw [sqX_next]
 exact lw_12 zn (W2.pre pre_new) (listAt_pre pre_new l2) hh h0 M q
theorem lw_8 {B : Nat} (zn : ns.length ≤ 1000) (C : Cs H n as ps B) (hB : way = 3 → B = 512) (hf : farOk far) (hh : sizeOk1 hours) (h0 : hourOk lo) (q : ∀ H', Q (.bool true) H') :
  wpSs Θp (f_law.body.drop 8) [some (.scr ns), some (.int far), some (.int way), some (.ref n), some (.int hours), some (.int c5), some (.int lo), none, none, none, none, none, none, none, none] H (fun fl _ H1 => Q (retV fl) H1) fun x _ H1 => X x H1 := by
 refine zs_cons ?_
 generalize hK : sqX Θp (_ :: _) = K
 simp_arith only [↓Tp_ca, ↓cc_cell, ↓Tp_bo]
 refine ⟨zn, n, as, ps, B, way, far, _, C, hB, hf, ⟨by lia, by lia⟩, fun H1 k al hs W => ?_⟩
 subst hK
 rw [sqX_next]
 exact lw_9 zn W hh h0 q
theorem lw_6 {B : Nat} (zn : ns.length ≤ 1000) (C : Cs H n as ps B) (hB : way = 3 → B = 512) (hf : farOk far) (hh : sizeOk1 hours) (h0 : hourOk lo) (q : ∀ H', Q (.bool true) H') :
  wpSs Θp (f_law.body.drop 6) [some (.scr ns), some (.int far), some (.int way), some (.ref n), some (.int hours), some (.int c5), some (.int lo), none, none, none, none, none, none, none, none] H (fun fl _ H1 => Q (retV fl) H1) fun x _ H1 => X x H1 := by
 have f1 := hf.1
 have f2 := hf.2
 have seven : ∀ lo, hourOk lo → wpSs Θp (f_law.body.drop 7) [some (.scr ns), some (.int far), some (.int way), some (.ref n), some (.int hours), some (.int c5), some (.int lo), none, none, none, none, none, none, none, none] H (fun fl _ H1 => Q (retV fl) H1) fun x _ H1 => X x H1 := fun lo h0 => by
  refine zs_cons (ite_w2 (fun e => ?_) (fun e => ?_))
  ·refine zs_cons ?_
   generalize hK : sqX Θp _ = K
   simp_arith only [X_lit]
   subst hK
   refine zs_cons ?_
   generalize hK : sqX Θp _ = K
   simp_arith only [X_lit]
   subst hK
   rw [sqX_next, Zs_nil, sqX_next]
   exact lw_8 zn C hB hf ⟨by decide, by decide⟩ ⟨f1, by lia⟩ q
  ·rw [sqX_next]
   exact lw_8 zn C hB hf hh h0 q
 refine zs_cons (ite_w2 (fun e => ?_) (fun e => ?_))
 ·refine zs_cons ?_
  generalize hK : sqX Θp _ = K
  simp_arith only [X_lit]
  subst hK
  rw [sqX_next, Zs_nil, sqX_next]
  exact seven _ ⟨by lia, by lia⟩
 ·rw [sqX_next]
  exact seven _ h0
end
noncomputable def C_lawT : Ctr := fun vs _ Q _ => ∃ ns : List Int, vs = [.scr ns] ∧ ns.length ≤ 1000 ∧ ∀ H', Q (.bool true) H'
theorem w_lawT : ∀ vs H Q X, C_lawT vs H Q X → wpFn Θp f_law vs H Q X := by
 rintro vs H Q X ⟨ns, rfl, hn, q⟩
 refine fn_of rfl ?_
 change wpSs Θp f_law.body [some (.scr ns), none, none, none, none, none, none, none, none, none, none, none, none, none, none] H _ _
 refine zs_cons ?_
 generalize hK : sqX Θp (_ :: _) = K
 simp_arith only [↓Tp_ca, ↓cc_cell, ↓Tp_fa]
 refine ⟨hn, _, rfl, fun far H1 p1 hf => ?_⟩
 subst hK
 refine zs_cons ?_
 generalize hK : sqX Θp (_ :: _) = K
 simp_arith only [↓Tp_ca, ↓cc_cell]
 refine ⟨hn, ?_⟩
 subst hK
 generalize cell ns 1 % 8 = way
 refine zs_cons ?_
 generalize hK : sqX Θp (_ :: _) = K
 simp_arith only [↓Tp_cs]
 refine ⟨ns, way, far, rfl, hn, hf, fun n as ps H2 B hB C => ?_⟩
 subst hK
 refine e1_2 (ho_at (Int.emod_nonneg (cell ns 2) (show (6 : Int) ≠ 0 by decide)) (Int.emod_lt_of_pos (cell ns 2) (show (0 : Int) < 6 by decide))) fun hours eh hh => ?_
 refine zs_cons ?_
 generalize hK : sqX Θp (_ :: _) = K
 simp_arith only [↓Tp_ca, ↓cc_cell, listAt_new, eh]
 refine ⟨hn, ?_⟩
 subst hK
 have C3 := C.pre (pre_new (o := .list [V.int 1, .int 1, .int 1, .int 2, .int 3, .int 9]))
 rw [sqX_next]
 generalize H2 ++ [O.list [V.int 1, .int 1, .int 1, .int 2, .int 3, .int 9]] = H3 at *
 refine zs_cons ?_
 generalize hK : sqX Θp (_ :: _) = K
 simp_arith only [↓Tp_ca, ↓cc_cell]
 refine ⟨hn, ?_⟩
 subst hK
 generalize cell ns 3 = c5
 have f1 := hf.1
 refine e1_2 (two_of (x := c5 / 2 % 30) (y := c5 / 2 % 10000) (Int.emod_nonneg c5 (show (2 : Int) ≠ 0 by decide)) (Int.emod_lt_of_pos c5 (show (0 : Int) < 2 by decide)) (by lia) (by lia)) fun d ed d0 => ?_
 refine zs_cons ?_
 generalize hK : sqX Θp (_ :: _) = K
 simp_arith only [listAt_new, ed]
 subst hK
 rw [sqX_next]
 exact lw_6 hn (C3.pre pre_new) hB hf hh ⟨by lia, by lia⟩ q
end Mine
namespace Mine
open PySem
noncomputable def G10 : List (Str × V) := ("FOUR_YEARS_dates", .int 1461) :: ("BEFORE_YEAR", .tup [.int 0, .int 366, .int 731, .int 1096]) :: ("MONTHS", .tup [.int 31, .int 28, .int 31, .int 30, .int 31, .int 30, .int 31, .int 31, .int 30, .int 31, .int 30, .int 31]) :: ("TIMES", .int 1000000000000) :: ("DAYS", .int 100000000000) :: ("LONGEST", .int 48) :: ("MOST_STEP", .int 1000000) :: ("DEEPEST", .int 8) :: ("OUTER", .tup [.str "from", .str "until", .str "also", .str "but"]) :: ("WEEK", .int 168) :: ("FOUR_YEARS_rounds", .int 35064) :: ("LETTERS", .str "abcdefghijklmnopqrstuvwxyz") :: ("LONGEST_NAME", .int 12) :: ("MOST_RULES", .int 20) :: ("MOST_STRETCH", .int 10000) :: ("MOST_WALK", .int 5000) :: ("isinstance", .bi .isinstance) :: ("len", .bi .len) :: ("any", .bi .any) :: ("max", .bi .max) :: ("min", .bi .min) :: ("int", .ty .int) :: ("bool", .ty .bool) :: ("str", .ty .str) :: ("tuple", .ty .tuple) :: ("list", .ty .list) :: ("range", .ty .range) :: ("reversed", .ty .reversed) :: ("Book", .bk) :: ("HourError", .cls "HourError" ["HourError", "ValueError"]) :: ("NoRule", .cls "NoRule" ["NoRule", "HourError", "ValueError"]) :: ("NoName", .cls "NoName" ["NoName", "HourError", "ValueError"]) :: ("Taken", .cls "Taken" ["Taken", "HourError", "ValueError"]) :: ("Stranger", .cls "Stranger" ["Stranger", "HourError", "ValueError"]) :: ("Twice", .cls "Twice" ["Twice", "HourError", "ValueError"]) :: ("NoTime", .cls "NoTime" ["NoTime", "HourError", "ValueError"]) :: ("NoMeeting", .cls "NoMeeting" ["NoMeeting", "HourError", "ValueError"]) :: ("Clash", .cls "Clash" ["Clash", "HourError", "ValueError"]) :: ("TooLong", .cls "TooLong" ["TooLong", "HourError", "ValueError"]) :: ("_wall", .fn "_wall") :: ("is_whole", .fn "is_whole") :: ("month_length", .fn "month_length") :: ("date_of", .fn "date_of") :: ("from_end", .fn "from_end") :: ("is_between", .fn "is_between") :: ("is_time", .fn "is_time") :: ("are_rising", .fn "are_rising") :: ("is_plain", .fn "is_plain") :: ("is_rule", .fn "is_rule") :: ("innermost", .fn "innermost") :: ("length_of", .fn "length_of") :: ("begins_plain", .fn "begins_plain") :: ("begins", .fn "begins") :: ("covers", .fn "covers") :: ("round_of", .fn "round_of") :: ("settled_plain", .fn "settled_plain") :: ("settled", .fn "settled") :: ("greatest_common", .fn "greatest_common") :: ("least_common", .fn "least_common") :: ("is_name", .fn "is_name") :: ("some_covers", .fn "some_covers") :: ("need_stretch", .fn "need_stretch") :: ("_law_cell_at", .fn "_law_cell_at") :: ("_law_whole", .fn "_law_whole") :: ("_law_days", .fn "_law_days") :: ("_law_in_month", .fn "_law_in_month") :: ("_law_plain_begins", .fn "_law_plain_begins") :: ("_law_bearing", .fn "_law_bearing") :: ("_law_heads", .fn "_law_heads") :: ("_law_begun", .fn "_law_begun") :: ("_law_size", .fn "_law_size") :: ("_law_weekdays", .fn "_law_weekdays") :: ("_law_plain_by", .fn "_law_plain_by") :: ("_law_head_by", .fn "_law_head_by") :: ("_law_far", .fn "_law_far") :: ("_law_name_by", .fn "_law_name_by") :: ("_law_lasts", .fn "_law_lasts") :: ("_law_open", .fn "_law_open") :: ("_law_small_rule", .fn "_law_small_rule") :: ("_law_some_by", .fn "_law_some_by") :: ("_law_long_rule", .fn "_law_long_rule") :: ("_law_settled", .fn "_law_settled") :: ("_law_common", .fn "_law_common") :: ("_law_walk", .fn "_law_walk") :: ("_law_all_open", .fn "_law_all_open") :: ("_law_holds", .fn "_law_holds") :: ("_law_cast", .fn "_law_cast") :: ("_law_book_of", .fn "_law_book_of") :: ("_law_asked", .fn "_law_asked") :: ("_law_put", .fn "_law_put") :: ("_law_deeds", .fn "_law_deeds") :: []
noncomputable def mts10 : List Str := "need_somebody" :: "meets_at" :: "free_at" :: "need_all" :: "bar" :: "look" :: "first" :: "meetings" :: "meet" :: "come" :: "busy" :: "place_of" :: "drop" :: "move" :: "rules_of" :: "quiet_from" :: "ever" :: []
noncomputable def ΦL10 : Orc := ext "law" C_lawT Θp
end Mine

open PySem PySem.W PyProof.Rows Mine
namespace Mine.Hd
set_option maxRecDepth 100000
def topT (tb : String → Option Builtin) (p : Program) (w : World) (n₀ : Nat) (ann : Option Value) : Nat → SharedT → Thread → Option SharedT
 | 0, _, _ => none
 | n + 1, s, t => match through t with
  | true => some s
  | false => match stepOk n₀ ann t with
   | false => none
   | true => match stepT (denote tb) p w s t with
    | some (s', t') => topT tb p w n₀ ann n s' t'
    | none => none
theorem topT_of {tb : String → Option Builtin} {p : Program} {w : World} {n₀ : Nat} {ann : Option Value} : ∀ {n : Nat} {s s' : SharedT} {t : Thread}, topT tb p w n₀ ann n s t = some s' → topRun tb p w n₀ ann n s.abs t = some s'.abs
 | 0, _, _, _, h => by cases h
 | n + 1, s, s', t, h => by
  unfold topT at h
  unfold topRun
  cases ht : through t with
  | true => rw [ht] at h; cases h; rfl
  | false =>
   rw [ht] at h
   cases hk : stepOk n₀ ann t with
   | false => rw [hk] at h; cases h
   | true =>
    rw [hk] at h
    cases hs : stepT (denote tb) p w s t with
    | none => rw [hs] at h; cases h
    | some r => obtain ⟨s₂, t₂⟩ := r; rw [hs] at h; rw [stepT_spec hs]; exact topT_of h
def growT : List Obj → Nat → BT → BT
 | [], _, t => t
 | o :: os, n, t => growT os (n + 1) (t.ins n o)
noncomputable def bootT (P : Params) : BT := growT (boot_heap P).objs.toList 0 .nil
noncomputable abbrev P10 : Program := RowW.prog (OpenRow.toRowW Challenge.rw_uf010016_13.row)
noncomputable def b10 : List Stmt := behindTheImports P10
noncomputable def stAt (i : Nat) : Stmt := (b10[i]?).getD (.Pass default)
def stArgs : Stmt → Arguments
 | .FunctionDef _ a .. => a
 | _ => default
def stBody : Stmt → List Stmt
 | .FunctionDef _ _ b .. => b
 | .ClassDef _ _ _ b .. => b
 | _ => default
def stScope : Stmt → Scope
 | .FunctionDef _ _ _ _ _ _ s .. => s
 | _ => default
noncomputable def mtAt (i j : Nat) : Stmt := ((stBody (stAt i))[j]?).getD (.Pass default)
noncomputable def env10 : Env := { scope := P10.main.scope, locals := mainNs, globals := mainNs, cells := [], code := .ref 13, frame := some 14 }
noncomputable def c10 : Code := .body b10 env10
def pos0 : Pos := { line := 0, col := 0, endLine := 0, endCol := 0 }
def shT (l : List Obj) (n k : Nat) (os : OsState) : SharedT := ⟨growT l 0 .nil, n, {}, #[], {}, k, os⟩
def vs (s : String) (n : Nat) : Value := .str (Str.ofString s) n
noncomputable def fnO (n q : String) (st : Stmt) : Obj := { cls := .none, data := .func { name := Str.ofString n, qualname := Str.ofString q, params := stArgs st, body := FuncBody.stmts (stBody st), scope := stScope st, globals := 0, closure := [], defaults := .none, kwdefaults := .none } }
def tuO (a : Array Value) : Obj := { cls := .type "tuple", data := .seq a }
def coO (a : Array Value) : Obj := { cls := .type "code", data := .fields a }
abbrev cut : String := "/claim/cut.py"
abbrev sm {α : Type} (a : α) : Option α := some a
abbrev nn {α : Type} : Option α := none
abbrev tt : Bool := true
abbrev ff : Bool := false
noncomputable def de (P : Params) (k : String) (n : Nat) (v : Value) : DictEntry := ⟨PyData.keyHash P (Str.ofString k), .str (Str.ofString k) n, v⟩
theorem o1 : opening P10 = plainProg P10.main.scope.names := by kernel_rfl
theorem o2 : ∀ s, fenceModules? P10 s = some s := by intro s; kernel_rfl
theorem sz10 (w : World) : ((boot_heap w.params).isNs mainGlobals && (Array.mk ([] : List GenState)).size == 0, (boot_heap w.params).objs.size, (boot_heap w.params).nsMap mainGlobals "__annotations__") = (true, 11, some (.ref 6)) := by kernel_rfl
noncomputable def fuO (n q : String) (st : Stmt) (m : Value) (c : Nat) : Obj := { cls := .type "function", data := .func { name := Str.ofString n, qualname := Str.ofString q, params := stArgs st, body := FuncBody.stmts (stBody st), scope := stScope st, globals := 3, closure := [], defaults := .none, kwdefaults := .none, pyModule := m, code := .ref c } }
def nv : Nat → List String → List Value
 | _, [] => []
 | k, x :: r => vs x k :: nv (k + 1) r
noncomputable def gF (n q : String) (st : Stmt) (m : Value) (a b : Nat) (ln np : Int) (vn : List String) (tl : List Obj) : List Obj := tuO #[] :: { cls := .none, data := .fields #[] } :: tuO ⟨nv (a + 3) vn⟩ :: tuO #[] :: fnO n q st :: coO #[vs n a, vs q (a + 1), vs cut (a + 2), .int ln 0, .int np 0, .int 0 0, .int 0 0, .int 3 0, .ref b, .bool tt, .int 181 0, .ref (b + 1), .none, .ref (b + 2), .ref (b + 3), .ref (b + 4), .int (a + 3 + vn.length : Nat) 0, .int ln 0, vs cut (a + 4 + vn.length)] :: fuO n q st m (b + 5) :: tl
noncomputable abbrev gf (n : String) := gF n n
noncomputable abbrev ap (a b : List Obj) := a ++ b
def m0 : Value := vs "__main__" 164
def m1 : Value := vs "freehour.dates" 358
def m2 : Value := vs "freehour.rules" 414
def m3 : Value := vs "freehour.rounds" 519
def m4 : Value := vs "freehour.book" 566
def m5 : Value := vs "law_uf010016_13" 828
noncomputable def SA (P : Params) : List Obj := [boot_o_0 P,boot_o_1 P,boot_o_2 P,boot_o_3 P,boot_o_4 P,boot_o_5 P,boot_o_6 P,boot_o_7 P,boot_o_8 P,boot_o_9 P,boot_o_10 P,tuO #[],{ cls := .none, data := .fields #[] },coO #[vs "<module>" 182, vs "<module>" 183, vs cut 184, .int 1 0, .int 0 0, .int 0 0, .int 0 0, .int 0 0, .ref 11, .bool ff, .int 181 0, .ref 12, .none, .none, .none, .none, .int 185 0, .int 1 0, vs cut 186],{ cls := .type "frame", slots := #[sm (.ref 13), sm (.ref 3), sm (.ref 3), nn, sm (vs "__main__" 164), nn, sm (.ref 0)] }]
noncomputable def M9 (P : Params) : List Obj := gf "_wall" (stAt 0) m0 187 15 1 1 ["k"] <| [tuO #[.type "ValueError"],{ cls := .type "builtin_function_or_method", data := .fields #[.builtin "type.__prepare__", .type "type"] },{ cls := .type "dict", data := .dict #[de P "__module__" 203 (vs "freehour.errors" 194), de P "__qualname__" 205 (vs "HourError" 204), de P "__firstlineno__" 207 (.int 5 206), de P "__static_attributes__" 208 (.ref 29)] 4 },tuO #[],{ cls := .none, data := .fields #[] },coO #[vs "HourError" 198, vs "HourError" 199, vs cut 200, .int 5 0, .int 0 0, .int 0 0, .int 0 0, .int 0 0, .ref 25, .bool ff, .int 181 0, .ref 26, .none, .none, .none, .none, .int 201 0, .int 5 0, vs cut 202],{ cls := .type "frame", slots := #[sm (.ref 27), sm (.ref 3), sm (.ref 24), nn, sm (vs "freehour.errors" 194), nn, sm (.ref 0)] },tuO #[],{ cls := .type "dict", data := .dict #[de P "__module__" 203 (vs "freehour.errors" 194), de P "__firstlineno__" 207 (.int 5 206), de P "__static_attributes__" 208 (.ref 29), de P "__weakref__" 210 (.ref 32), de P "__doc__" 211 (.none)] 3 },{ cls := .type "type", data := .cls { name := Str.ofString "HourError", bases := [.type "ValueError"], mro := [.ref 31, .type "ValueError", .type "Exception", .type "BaseException", .type "object"], ns := 30, qualname := Str.ofString "HourError", subclasses := [.ref 44, .ref 56, .ref 68, .ref 80, .ref 92, .ref 104, .ref 116, .ref 128, .ref 140] }, slots := #[sm (.ref 22), nn, sm (vs "HourError" 196), sm (vs "HourError" 204), sm (.builtin "ValueError.__new__"), sm (.bool tt)] },{ cls := .type "getset_descriptor", data := .fields #[vs "__weakref__" 209, .ref 31, .builtin "ExceptionGroup.__weakref__", .none] },{ cls := .type "super", data := .fields #[.ref 31, .ref 31, .ref 31] },{ cls := .type "builtin_function_or_method", data := .fields #[.builtin "object.__init_subclass__", .ref 31] },tuO #[.ref 31],{ cls := .type "builtin_function_or_method", data := .fields #[.builtin "type.__prepare__", .type "type"] },{ cls := .type "dict", data := .dict #[de P "__module__" 221 (vs "freehour.errors" 194), de P "__qualname__" 223 (vs "NoRule" 222), de P "__firstlineno__" 225 (.int 7 224), de P "__static_attributes__" 226 (.ref 42)] 4 },tuO #[],{ cls := .none, data := .fields #[] },coO #[vs "NoRule" 216, vs "NoRule" 217, vs cut 218, .int 7 0, .int 0 0, .int 0 0, .int 0 0, .int 0 0, .ref 38, .bool ff, .int 181 0, .ref 39, .none, .none, .none, .none, .int 219 0, .int 7 0, vs cut 220],{ cls := .type "frame", slots := #[sm (.ref 40), sm (.ref 3), sm (.ref 37), nn, sm (vs "freehour.errors" 194), nn, sm (.ref 0)] },tuO #[],{ cls := .type "dict", data := .dict #[de P "__module__" 221 (vs "freehour.errors" 194), de P "__firstlineno__" 225 (.int 7 224), de P "__static_attributes__" 226 (.ref 42), de P "__doc__" 227 (.none)] 2 },{ cls := .type "type", data := .cls { name := Str.ofString "NoRule", bases := [.ref 31], mro := [.ref 44, .ref 31, .type "ValueError", .type "Exception", .type "BaseException", .type "object"], ns := 43, qualname := Str.ofString "NoRule" }, slots := #[sm (.ref 35), nn, sm (vs "NoRule" 214), sm (vs "NoRule" 222), sm (.builtin "ValueError.__new__"), sm (.bool tt)] },{ cls := .type "super", data := .fields #[.ref 44, .ref 44, .ref 44] },{ cls := .type "builtin_function_or_method", data := .fields #[.builtin "object.__init_subclass__", .ref 44] },tuO #[.ref 31],{ cls := .type "builtin_function_or_method", data := .fields #[.builtin "type.__prepare__", .type "type"] },{ cls := .type "dict", data := .dict #[de P "__module__" 237 (vs "freehour.errors" 194), de P "__qualname__" 239 (vs "NoName" 238), de P "__firstlineno__" 241 (.int 9 240), de P "__static_attributes__" 242 (.ref 54)] 4 },tuO #[],{ cls := .none, data := .fields #[] },coO #[vs "NoName" 232, vs "NoName" 233, vs cut 234, .int 9 0, .int 0 0, .int 0 0, .int 0 0, .int 0 0, .ref 50, .bool ff, .int 181 0, .ref 51, .none, .none, .none, .none, .int 235 0, .int 9 0, vs cut 236],{ cls := .type "frame", slots := #[sm (.ref 52), sm (.ref 3), sm (.ref 49), nn, sm (vs "freehour.errors" 194), nn, sm (.ref 0)] },tuO #[],{ cls := .type "dict", data := .dict #[de P "__module__" 237 (vs "freehour.errors" 194), de P "__firstlineno__" 241 (.int 9 240), de P "__static_attributes__" 242 (.ref 54), de P "__doc__" 243 (.none)] 2 },{ cls := .type "type", data := .cls { name := Str.ofString "NoName", bases := [.ref 31], mro := [.ref 56, .ref 31, .type "ValueError", .type "Exception", .type "BaseException", .type "object"], ns := 55, qualname := Str.ofString "NoName" }, slots := #[sm (.ref 47), nn, sm (vs "NoName" 230), sm (vs "NoName" 238), sm (.builtin "ValueError.__new__"), sm (.bool tt)] },{ cls := .type "super", data := .fields #[.ref 56, .ref 56, .ref 56] },{ cls := .type "builtin_function_or_method", data := .fields #[.builtin "object.__init_subclass__", .ref 56] },tuO #[.ref 31],{ cls := .type "builtin_function_or_method", data := .fields #[.builtin "type.__prepare__", .type "type"] },{ cls := .type "dict", data := .dict #[de P "__module__" 253 (vs "freehour.errors" 194), de P "__qualname__" 255 (vs "Taken" 254), de P "__firstlineno__" 257 (.int 11 256), de P "__static_attributes__" 258 (.ref 66)] 4 },tuO #[],{ cls := .none, data := .fields #[] },coO #[vs "Taken" 248, vs "Taken" 249, vs cut 250, .int 11 0, .int 0 0, .int 0 0, .int 0 0, .int 0 0, .ref 62, .bool ff, .int 181 0, .ref 63, .none, .none, .none, .none, .int 251 0, .int 11 0, vs cut 252],{ cls := .type "frame", slots := #[sm (.ref 64), sm (.ref 3), sm (.ref 61), nn, sm (vs "freehour.errors" 194), nn, sm (.ref 0)] },tuO #[],{ cls := .type "dict", data := .dict #[de P "__module__" 253 (vs "freehour.errors" 194), de P "__firstlineno__" 257 (.int 11 256), de P "__static_attributes__" 258 (.ref 66), de P "__doc__" 259 (.none)] 2 },{ cls := .type "type", data := .cls { name := Str.ofString "Taken", bases := [.ref 31], mro := [.ref 68, .ref 31, .type "ValueError", .type "Exception", .type "BaseException", .type "object"], ns := 67, qualname := Str.ofString "Taken" }, slots := #[sm (.ref 59), nn, sm (vs "Taken" 246), sm (vs "Taken" 254), sm (.builtin "ValueError.__new__"), sm (.bool tt)] },{ cls := .type "super", data := .fields #[.ref 68, .ref 68, .ref 68] },{ cls := .type "builtin_function_or_method", data := .fields #[.builtin "object.__init_subclass__", .ref 68] },tuO #[.ref 31],{ cls := .type "builtin_function_or_method", data := .fields #[.builtin "type.__prepare__", .type "type"] },{ cls := .type "dict", data := .dict #[de P "__module__" 269 (vs "freehour.errors" 194), de P "__qualname__" 271 (vs "Stranger" 270), de P "__firstlineno__" 273 (.int 13 272), de P "__static_attributes__" 274 (.ref 78)] 4 },tuO #[],{ cls := .none, data := .fields #[] },coO #[vs "Stranger" 264, vs "Stranger" 265, vs cut 266, .int 13 0, .int 0 0, .int 0 0, .int 0 0, .int 0 0, .ref 74, .bool ff, .int 181 0, .ref 75, .none, .none, .none, .none, .int 267 0, .int 13 0, vs cut 268],{ cls := .type "frame", slots := #[sm (.ref 76), sm (.ref 3), sm (.ref 73), nn, sm (vs "freehour.errors" 194), nn, sm (.ref 0)] },tuO #[],{ cls := .type "dict", data := .dict #[de P "__module__" 269 (vs "freehour.errors" 194), de P "__firstlineno__" 273 (.int 13 272), de P "__static_attributes__" 274 (.ref 78), de P "__doc__" 275 (.none)] 2 },{ cls := .type "type", data := .cls { name := Str.ofString "Stranger", bases := [.ref 31], mro := [.ref 80, .ref 31, .type "ValueError", .type "Exception", .type "BaseException", .type "object"], ns := 79, qualname := Str.ofString "Stranger" }, slots := #[sm (.ref 71), nn, sm (vs "Stranger" 262), sm (vs "Stranger" 270), sm (.builtin "ValueError.__new__"), sm (.bool tt)] },{ cls := .type "super", data := .fields #[.ref 80, .ref 80, .ref 80] },{ cls := .type "builtin_function_or_method", data := .fields #[.builtin "object.__init_subclass__", .ref 80] },tuO #[.ref 31],{ cls := .type "builtin_function_or_method", data := .fields #[.builtin "type.__prepare__", .type "type"] },{ cls := .type "dict", data := .dict #[de P "__module__" 285 (vs "freehour.errors" 194), de P "__qualname__" 287 (vs "Twice" 286), de P "__firstlineno__" 289 (.int 15 288), de P "__static_attributes__" 290 (.ref 90)] 4 },tuO #[],{ cls := .none, data := .fields #[] },coO #[vs "Twice" 280, vs "Twice" 281, vs cut 282, .int 15 0, .int 0 0, .int 0 0, .int 0 0, .int 0 0, .ref 86, .bool ff, .int 181 0, .ref 87, .none, .none, .none, .none, .int 283 0, .int 15 0, vs cut 284],{ cls := .type "frame", slots := #[sm (.ref 88), sm (.ref 3), sm (.ref 85), nn, sm (vs "freehour.errors" 194), nn, sm (.ref 0)] },tuO #[],{ cls := .type "dict", data := .dict #[de P "__module__" 285 (vs "freehour.errors" 194), de P "__firstlineno__" 289 (.int 15 288), de P "__static_attributes__" 290 (.ref 90), de P "__doc__" 291 (.none)] 2 },{ cls := .type "type", data := .cls { name := Str.ofString "Twice", bases := [.ref 31], mro := [.ref 92, .ref 31, .type "ValueError", .type "Exception", .type "BaseException", .type "object"], ns := 91, qualname := Str.ofString "Twice" }, slots := #[sm (.ref 83), nn, sm (vs "Twice" 278), sm (vs "Twice" 286), sm (.builtin "ValueError.__new__"), sm (.bool tt)] },{ cls := .type "super", data := .fields #[.ref 92, .ref 92, .ref 92] },{ cls := .type "builtin_function_or_method", data := .fields #[.builtin "object.__init_subclass__", .ref 92] },tuO #[.ref 31],{ cls := .type "builtin_function_or_method", data := .fields #[.builtin "type.__prepare__", .type "type"] },{ cls := .type "dict", data := .dict #[de P "__module__" 301 (vs "freehour.errors" 194), de P "__qualname__" 303 (vs "NoTime" 302), de P "__firstlineno__" 305 (.int 17 304), de P "__static_attributes__" 306 (.ref 102)] 4 },tuO #[],{ cls := .none, data := .fields #[] },coO #[vs "NoTime" 296, vs "NoTime" 297, vs cut 298, .int 17 0, .int 0 0, .int 0 0, .int 0 0, .int 0 0, .ref 98, .bool ff, .int 181 0, .ref 99, .none, .none, .none, .none, .int 299 0, .int 17 0, vs cut 300],{ cls := .type "frame", slots := #[sm (.ref 100), sm (.ref 3), sm (.ref 97), nn, sm (vs "freehour.errors" 194), nn, sm (.ref 0)] },tuO #[],{ cls := .type "dict", data := .dict #[de P "__module__" 301 (vs "freehour.errors" 194), de P "__firstlineno__" 305 (.int 17 304), de P "__static_attributes__" 306 (.ref 102), de P "__doc__" 307 (.none)] 2 },{ cls := .type "type", data := .cls { name := Str.ofString "NoTime", bases := [.ref 31], mro := [.ref 104, .ref 31, .type "ValueError", .type "Exception", .type "BaseException", .type "object"], ns := 103, qualname := Str.ofString "NoTime" }, slots := #[sm (.ref 95), nn, sm (vs "NoTime" 294), sm (vs "NoTime" 302), sm (.builtin "ValueError.__new__"), sm (.bool tt)] },{ cls := .type "super", data := .fields #[.ref 104, .ref 104, .ref 104] },{ cls := .type "builtin_function_or_method", data := .fields #[.builtin "object.__init_subclass__", .ref 104] },tuO #[.ref 31],{ cls := .type "builtin_function_or_method", data := .fields #[.builtin "type.__prepare__", .type "type"] },{ cls := .type "dict", data := .dict #[de P "__module__" 317 (vs "freehour.errors" 194), de P "__qualname__" 319 (vs "NoMeeting" 318), de P "__firstlineno__" 321 (.int 19 320), de P "__static_attributes__" 322 (.ref 114)] 4 },tuO #[],{ cls := .none, data := .fields #[] },coO #[vs "NoMeeting" 312, vs "NoMeeting" 313, vs cut 314, .int 19 0, .int 0 0, .int 0 0, .int 0 0, .int 0 0, .ref 110, .bool ff, .int 181 0, .ref 111, .none, .none, .none, .none, .int 315 0, .int 19 0, vs cut 316],{ cls := .type "frame", slots := #[sm (.ref 112), sm (.ref 3), sm (.ref 109), nn, sm (vs "freehour.errors" 194), nn, sm (.ref 0)] },tuO #[],{ cls := .type "dict", data := .dict #[de P "__module__" 317 (vs "freehour.errors" 194), de P "__firstlineno__" 321 (.int 19 320), de P "__static_attributes__" 322 (.ref 114), de P "__doc__" 323 (.none)] 2 },{ cls := .type "type", data := .cls { name := Str.ofString "NoMeeting", bases := [.ref 31], mro := [.ref 116, .ref 31, .type "ValueError", .type "Exception", .type "BaseException", .type "object"], ns := 115, qualname := Str.ofString "NoMeeting" }, slots := #[sm (.ref 107), nn, sm (vs "NoMeeting" 310), sm (vs "NoMeeting" 318), sm (.builtin "ValueError.__new__"), sm (.bool tt)] },{ cls := .type "super", data := .fields #[.ref 116, .ref 116, .ref 116] },{ cls := .type "builtin_function_or_method", data := .fields #[.builtin "object.__init_subclass__", .ref 116] },tuO #[.ref 31],{ cls := .type "builtin_function_or_method", data := .fields #[.builtin "type.__prepare__", .type "type"] },{ cls := .type "dict", data := .dict #[de P "__module__" 333 (vs "freehour.errors" 194), de P "__qualname__" 335 (vs "Clash" 334), de P "__firstlineno__" 337 (.int 21 336), de P "__static_attributes__" 338 (.ref 126)] 4 },tuO #[],{ cls := .none, data := .fields #[] },coO #[vs "Clash" 328, vs "Clash" 329, vs cut 330, .int 21 0, .int 0 0, .int 0 0, .int 0 0, .int 0 0, .ref 122, .bool ff, .int 181 0, .ref 123, .none, .none, .none, .none, .int 331 0, .int 21 0, vs cut 332],{ cls := .type "frame", slots := #[sm (.ref 124), sm (.ref 3), sm (.ref 121), nn, sm (vs "freehour.errors" 194), nn, sm (.ref 0)] },tuO #[],{ cls := .type "dict", data := .dict #[de P "__module__" 333 (vs "freehour.errors" 194), de P "__firstlineno__" 337 (.int 21 336), de P "__static_attributes__" 338 (.ref 126), de P "__doc__" 339 (.none)] 2 },{ cls := .type "type", data := .cls { name := Str.ofString "Clash", bases := [.ref 31], mro := [.ref 128, .ref 31, .type "ValueError", .type "Exception", .type "BaseException", .type "object"], ns := 127, qualname := Str.ofString "Clash" }, slots := #[sm (.ref 119), nn, sm (vs "Clash" 326), sm (vs "Clash" 334), sm (.builtin "ValueError.__new__"), sm (.bool tt)] },{ cls := .type "super", data := .fields #[.ref 128, .ref 128, .ref 128] },{ cls := .type "builtin_function_or_method", data := .fields #[.builtin "object.__init_subclass__", .ref 128] },tuO #[.ref 31],{ cls := .type "builtin_function_or_method", data := .fields #[.builtin "type.__prepare__", .type "type"] },{ cls := .type "dict", data := .dict #[de P "__module__" 349 (vs "freehour.errors" 194), de P "__qualname__" 351 (vs "TooLong" 350), de P "__firstlineno__" 353 (.int 23 352), de P "__static_attributes__" 354 (.ref 138)] 4 },tuO #[],{ cls := .none, data := .fields #[] },coO #[vs "TooLong" 344, vs "TooLong" 345, vs cut 346, .int 23 0, .int 0 0, .int 0 0, .int 0 0, .int 0 0, .ref 134, .bool ff, .int 181 0, .ref 135, .none, .none, .none, .none, .int 347 0, .int 23 0, vs cut 348],{ cls := .type "frame", slots := #[sm (.ref 136), sm (.ref 3), sm (.ref 133), nn, sm (vs "freehour.errors" 194), nn, sm (.ref 0)] },tuO #[],{ cls := .type "dict", data := .dict #[de P "__module__" 349 (vs "freehour.errors" 194), de P "__firstlineno__" 353 (.int 23 352), de P "__static_attributes__" 354 (.ref 138), de P "__doc__" 355 (.none)] 2 },{ cls := .type "type", data := .cls { name := Str.ofString "TooLong", bases := [.ref 31], mro := [.ref 140, .ref 31, .type "ValueError", .type "Exception", .type "BaseException", .type "object"], ns := 139, qualname := Str.ofString "TooLong" }, slots := #[sm (.ref 131), nn, sm (vs "TooLong" 342), sm (vs "TooLong" 350), sm (.builtin "ValueError.__new__"), sm (.bool tt)] },{ cls := .type "super", data := .fields #[.ref 140, .ref 140, .ref 140] },{ cls := .type "builtin_function_or_method", data := .fields #[.builtin "object.__init_subclass__", .ref 140] }]
noncomputable def M42 (P : Params) : List Obj := ap [tuO #[.int 0 362, .int 366 363, .int 731 364, .int 1096 365],tuO #[.int 31 367, .int 28 368, .int 31 369, .int 30 370, .int 31 371, .int 30 372, .int 31 373, .int 31 374, .int 30 375, .int 31 376, .int 30 377, .int 31 378]] <| gf "is_whole" (stAt 16) m1 380 145 29 1 ["thing"] <| gf "month_length" (stAt 17) m1 387 152 31 2 ["year", "month"] <| gf "date_of" (stAt 18) m1 395 159 35 1 ["day", "rest", "place", "year", "month"] <| gf "from_end" (stAt 19) m1 406 166 47 1 ["day", "date"] <| ap [tuO #[vs "from" 430, vs "until" 431, vs "also" 432, vs "but" 433]] <| gf "is_between" (stAt 27) m2 435 174 57 3 ["thing", "least", "most"] <| gf "is_time" (stAt 28) m2 444 181 59 1 ["thing"] <| gf "are_rising" (stAt 29) m2 451 188 61 3 ["thing", "many", "most", "ahead", "number"] <| gf "is_plain" (stAt 30) m2 462 195 70 1 ["thing", "word"] <| gf "is_rule" (stAt 31) m2 470 202 83 1 ["thing", "deep"] <| gf "innermost" (stAt 32) m2 478 209 97 1 ["rule"] <| gf "length_of" (stAt 33) m2 485 216 101 1 ["rule", "inner"] <| gf "begins_plain" (stAt 34) m2 493 223 106 2 ["rule", "hour", "day"] <| gf "begins" (stAt 35) m2 502 230 119 2 ["rule", "hour"] <| gf "covers" (stAt 36) m2 510 237 133 2 ["rule", "hour", "back"] <| gf "round_of" (stAt 40) m3 525 244 143 1 ["rule", "inner"] <| gf "settled_plain" (stAt 41) m3 533 251 152 1 ["rule"] <| gf "settled" (stAt 42) m3 540 258 158 1 ["rule", "found"] <| gf "greatest_common" (stAt 43) m3 548 265 169 2 ["one", "other", "rest"] <| gf "least_common" (stAt 44) m3 557 272 175 1 ["numbers", "found", "number"] <| gf "is_name" (stAt 51) m4 578 279 186 1 ["thing", "sign"] <| gf "some_covers" (stAt 52) m4 586 286 193 2 ["rules", "hour", "rule"] <| gf "need_stretch" (stAt 53) m4 595 293 198 3 ["hours", "start", "end"] <| []
noncomputable def M67 (P : Params) : List Obj := ap [tuO #[],{ cls := .type "builtin_function_or_method", data := .fields #[.builtin "type.__prepare__", .type "type"] },{ cls := .type "dict", data := .dict #[de P "__module__" 611 (vs "freehour.book" 566), de P "__qualname__" 613 (vs "Book" 612), de P "__firstlineno__" 615 (.int 203 614), de P "__init__" 622 (.ref 313), de P "come" 632 (.ref 320), de P "need_somebody" 640 (.ref 327), de P "busy" 651 (.ref 334), de P "people" 658 (.ref 341), de P "meets_at" 669 (.ref 348), de P "free_at" 679 (.ref 355), de P "is_free" 688 (.ref 362), de P "need_all" 697 (.ref 369), de P "bar" 711 (.ref 376), de P "look" 725 (.ref 383), de P "first" 736 (.ref 390), de P "meet" 748 (.ref 397), de P "meetings" 755 (.ref 404), de P "place_of" 764 (.ref 411), de P "drop" 773 (.ref 418), de P "move" 786 (.ref 425), de P "rules_of" 796 (.ref 432), de P "quiet_from" 808 (.ref 439), de P "ever" 814 (.ref 444), de P "__static_attributes__" 820 (.ref 445)] 24 },tuO #[],{ cls := .none, data := .fields #[.int 205 0, .int 4 0, .ref 312, .int 212 0, .int 4 0, .ref 319, .int 226 0, .int 4 0, .ref 326, .int 230 0, .int 4 0, .ref 333, .int 241 0, .int 4 0, .ref 340, .int 244 0, .int 4 0, .ref 347, .int 250 0, .int 4 0, .ref 354, .int 255 0, .int 4 0, .ref 361, .int 258 0, .int 4 0, .ref 368, .int 267 0, .int 4 0, .ref 375, .int 275 0, .int 4 0, .ref 382, .int 285 0, .int 4 0, .ref 389, .int 290 0, .int 4 0, .ref 396, .int 298 0, .int 4 0, .ref 403, .int 301 0, .int 4 0, .ref 410, .int 308 0, .int 4 0, .ref 417, .int 312 0, .int 4 0, .ref 424, .int 321 0, .int 4 0, .ref 431, .int 327 0, .int 4 0, .ref 438, .int 337 0, .int 4 0, .ref 443] },coO #[vs "Book" 606, vs "Book" 607, vs cut 608, .int 203 0, .int 0 0, .int 0 0, .int 0 0, .int 0 0, .ref 303, .bool ff, .int 181 0, .ref 304, .none, .none, .none, .none, .int 609 0, .int 203 0, vs cut 610],{ cls := .type "frame", slots := #[sm (.ref 305), sm (.ref 3), sm (.ref 302), nn, sm (vs "freehour.book" 566), nn, sm (.ref 0)] }] <| gF "__init__" "Book.__init__" (mtAt 54 0) m4 616 307 205 1 ["self"] <| gF "come" "Book.come" (mtAt 54 1) m4 623 314 212 3 ["self", "name", "free", "rule"] <| gF "need_somebody" "Book.need_somebody" (mtAt 54 2) m4 633 321 226 2 ["self", "name"] <| gF "busy" "Book.busy" (mtAt 54 3) m4 641 328 230 3 ["self", "name", "rule", "meeting", "back"] <| gF "people" "Book.people" (mtAt 54 4) m4 652 335 241 1 ["self"] <| gF "meets_at" "Book.meets_at" (mtAt 54 5) m4 659 342 244 4 ["self", "name", "hour", "but", "meeting"] <| gF "free_at" "Book.free_at" (mtAt 54 6) m4 670 349 250 4 ["self", "name", "hour", "but"] <| gF "is_free" "Book.is_free" (mtAt 54 7) m4 680 356 255 3 ["self", "name", "hour"] <| gF "need_all" "Book.need_all" (mtAt 54 8) m4 689 363 258 2 ["self", "names", "name"] <| gF "bar" "Book.bar" (mtAt 54 9) m4 698 370 267 5 ["self", "names", "hours", "at", "but", "back", "hour", "name"] <| gF "look" "Book.look" (mtAt 54 10) m4 712 377 275 6 ["self", "names", "hours", "at", "last", "but", "rows", "found"] <| gF "first" "Book.first" (mtAt 54 11) m4 726 384 285 5 ["self", "names", "hours", "start", "end"] <| gF "meet" "Book.meet" (mtAt 54 12) m4 737 391 290 5 ["self", "names", "hours", "start", "end", "hour"] <| gF "meetings" "Book.meetings" (mtAt 54 13) m4 749 398 298 1 ["self"] <| gF "place_of" "Book.place_of" (mtAt 54 14) m4 756 405 301 2 ["self", "number", "place"] <| gF "drop" "Book.drop" (mtAt 54 15) m4 765 412 308 2 ["self", "number", "place"] <| gF "move" "Book.move" (mtAt 54 16) m4 774 419 312 4 ["self", "number", "start", "end", "place", "meeting", "hour"] <| gF "rules_of" "Book.rules_of" (mtAt 54 17) m4 787 426 321 2 ["self", "names", "found", "name"] <| gF "quiet_from" "Book.quiet_from" (mtAt 54 18) m4 797 433 327 2 ["self", "names", "found", "rule", "meeting", "name"] <| ap [tuO #[],{ cls := .none, data := .fields #[] },fnO "ever" "Book.ever" (mtAt 54 19),coO #[vs "ever" 809, vs "Book.ever" 810, vs cut 811, .int 337 0, .int 4 0, .int 0 0, .int 0 0, .int 3 0, .ref 440, .bool tt, .int 181 0, .ref 441, .none, .none, .none, .ref 442, .int 812 0, .int 337 0, vs cut 813],fuO "ever" "Book.ever" (mtAt 54 19) (vs "freehour.book" 566) 443,tuO #[vs "busy_rules" 815, vs "free_rules" 816, vs "given" 817, vs "held" 818, vs "names" 819],{ cls := .type "dict", data := .dict #[de P "__module__" 611 (vs "freehour.book" 566), de P "__firstlineno__" 615 (.int 203 614), de P "__init__" 622 (.ref 313), de P "come" 632 (.ref 320), de P "need_somebody" 640 (.ref 327), de P "busy" 651 (.ref 334), de P "people" 658 (.ref 341), de P "meets_at" 669 (.ref 348), de P "free_at" 679 (.ref 355), de P "is_free" 688 (.ref 362), de P "need_all" 697 (.ref 369), de P "bar" 711 (.ref 376), de P "look" 725 (.ref 383), de P "first" 736 (.ref 390), de P "meet" 748 (.ref 397), de P "meetings" 755 (.ref 404), de P "place_of" 764 (.ref 411), de P "drop" 773 (.ref 418), de P "move" 786 (.ref 425), de P "rules_of" 796 (.ref 432), de P "quiet_from" 808 (.ref 439), de P "ever" 814 (.ref 444), de P "__static_attributes__" 820 (.ref 445), de P "__dict__" 822 (.ref 448), de P "__weakref__" 824 (.ref 449), de P "__doc__" 825 (.none)] 4 },{ cls := .type "type", data := .cls { name := Str.ofString "Book", bases := [.type "object"], mro := [.ref 447, .type "object"], ns := 446, qualname := Str.ofString "Book" }, slots := #[nn, nn, sm (vs "Book" 604), sm (vs "Book" 612), sm (.builtin "object.__new__"), sm (.bool tt)] },{ cls := .type "getset_descriptor", data := .fields #[vs "__dict__" 821, .ref 447, .builtin "function.__dict__", .builtin "function.__dict__#set"] },{ cls := .type "getset_descriptor", data := .fields #[vs "__weakref__" 823, .ref 447, .builtin "ExceptionGroup.__weakref__", .none] },{ cls := .type "super", data := .fields #[.ref 447, .ref 447, .ref 447] },{ cls := .type "builtin_function_or_method", data := .fields #[.builtin "object.__init_subclass__", .ref 447] }] <| gf "_law_cell_at" (stAt 56) m5 830 452 347 2 ["_law_script", "_law_k"] <| gf "_law_whole" (stAt 57) m5 838 459 351 1 ["_law_found"] <| gf "_law_days" (stAt 58) m5 845 466 353 2 ["_law_year", "_law_month", "_law_sizes"] <| gf "_law_in_month" (stAt 59) m5 854 473 356 1 ["_law_day", "_law_rest", "_law_year", "_law_month"] <| gf "_law_plain_begins" (stAt 60) m5 864 480 365 2 ["_law_rule", "_law_hour"] <| gf "_law_bearing" (stAt 61) m5 872 487 375 0 [] <| gf "_law_heads" (stAt 62) m5 878 494 377 1 ["_law_rule", "_law_heads_here"] <| gf "_law_begun" (stAt 63) m5 886 501 383 2 ["_law_rule", "_law_hour", "_law_heads_here", "_law_due", "_law_head"] <| gf "_law_size" (stAt 64) m5 897 508 396 1 ["_law_rule", "_law_plain"] <| gf "_law_weekdays" (stAt 65) m5 905 515 401 1 ["_law_bits", "_law_days_here", "_law_k"] <| gf "_law_plain_by" (stAt 66) m5 914 522 408 3 ["_law_cells", "_law_far_here", "_law_most", "_law_kind", "_law_size_here", "_law_hour", "_law_day"] <| ap [tuO #[],{ cls := .none, data := .fields #[] },fnO "_law_head_by" "_law_head_by" (stAt 67),coO #[vs "_law_head_by" 927, vs "_law_head_by" 928, vs cut 929, .int 420 0, .int 3 0, .int 0 0, .int 0 0, .int 3 0, .ref 529, .bool tt, .int 181 0, .ref 530, .none, .none, .none, .ref 531, .int 930 0, .int 420 0, vs cut 931],fuO "_law_head_by" "_law_head_by" (stAt 67) (vs "law_uf010016_13" 828) 532] <| gf "_law_far" (stAt 68) m5 933 534 427 1 ["_law_cell"] <| gf "_law_name_by" (stAt 69) m5 940 541 429 3 ["_law_shape", "_law_cell", "_law_k", "_law_letters", "_law_place", "_law_name", "_law_turn"] <| gf "_law_lasts" (stAt 70) m5 953 548 445 2 ["_law_rule", "_law_hour", "_law_back"] <| ap [tuO #[],{ cls := .none, data := .fields #[] },fnO "_law_open" "_law_open" (stAt 71),coO #[vs "_law_open" 962, vs "_law_open" 963, vs cut 964, .int 450 0, .int 2 0, .int 0 0, .int 0 0, .int 3 0, .ref 555, .bool tt, .int 181 0, .ref 556, .none, .none, .none, .ref 557, .int 965 0, .int 450 0, vs cut 966],fuO "_law_open" "_law_open" (stAt 71) (vs "law_uf010016_13" 828) 558] <| gf "_law_small_rule" (stAt 72) m5 968 560 456 2 ["_law_cells", "_law_far_here", "_law_rule", "_law_word"] <| ap [tuO #[],{ cls := .none, data := .fields #[] },fnO "_law_some_by" "_law_some_by" (stAt 73),coO #[vs "_law_some_by" 978, vs "_law_some_by" 979, vs cut 980, .int 466 0, .int 4 0, .int 0 0, .int 0 0, .int 3 0, .ref 567, .bool tt, .int 181 0, .ref 568, .none, .none, .none, .ref 569, .int 981 0, .int 466 0, vs cut 982],fuO "_law_some_by" "_law_some_by" (stAt 73) (vs "law_uf010016_13" 828) 570] <| gf "_law_long_rule" (stAt 74) m5 984 572 479 2 ["_law_cell", "_law_far_here", "_law_some"] <| gf "_law_settled" (stAt 75) m5 993 579 485 1 ["_law_rule", "_law_found", "_law_head"] <| gf "_law_common" (stAt 76) m5 1002 586 495 2 ["_law_one", "_law_other", "_law_found"] <| gf "_law_walk" (stAt 77) m5 1011 593 500 2 ["_law_people", "_law_start", "_law_rounds", "_law_behind", "_law_one", "_law_rule", "_law_plain", "_law_met"] <| gf "_law_all_open" (stAt 78) m5 1025 600 516 3 ["_law_people", "_law_at", "_law_hours", "_law_one", "_law_k"] <| ap [tuO #[],{ cls := .none, data := .fields #[] },fnO "_law_holds" "_law_holds" (stAt 79),coO #[vs "_law_holds" 1036, vs "_law_holds" 1037, vs cut 1038, .int 522 0, .int 5 0, .int 0 0, .int 0 0, .int 3 0, .ref 607, .bool tt, .int 181 0, .ref 608, .none, .none, .none, .ref 609, .int 1039 0, .int 522 0, vs cut 1040],fuO "_law_holds" "_law_holds" (stAt 79) (vs "law_uf010016_13" 828) 610] <| gf "_law_cast" (stAt 80) m5 1042 612 536 3 ["_law_script", "_law_way", "_law_far_here", "_law_people", "_law_cell", "_law_one", "_law_days_here"] <| gf "_law_book_of" (stAt 81) m5 1055 619 557 4 ["_law_people", "_law_way", "_law_far_here", "_law_size_here", "_law_book", "_law_one", "_law_rule", "_law_met"] <| ap [tuO #[],{ cls := .none, data := .fields #[] },fnO "_law_asked" "_law_asked" (stAt 82),coO #[vs "_law_asked" 1069, vs "_law_asked" 1070, vs cut 1071, .int 570 0, .int 4 0, .int 0 0, .int 0 0, .int 3 0, .ref 626, .bool tt, .int 181 0, .ref 627, .none, .none, .none, .ref 628, .int 1072 0, .int 570 0, vs cut 1073],fuO "_law_asked" "_law_asked" (stAt 82) (vs "law_uf010016_13" 828) 629] <| gf "_law_put" (stAt 83) m5 1075 631 575 3 ["_law_people", "_law_rows", "_law_more", "_law_k"] <| [tuO #[],{ cls := .none, data := .fields #[] },fnO "_law_deeds" "_law_deeds" (stAt 84),coO #[vs "_law_deeds" 1085, vs "_law_deeds" 1086, vs cut 1087, .int 578 0, .int 5 0, .int 0 0, .int 0 0, .int 3 0, .ref 638, .bool tt, .int 181 0, .ref 639, .none, .none, .none, .ref 640, .int 1088 0, .int 578 0, vs cut 1089],fuO "_law_deeds" "_law_deeds" (stAt 84) (vs "law_uf010016_13" 828) 641,tuO #[],{ cls := .none, data := .fields #[] },fnO "law" "law" (stAt 85),coO #[vs "law" 1091, vs "law" 1092, vs cut 1093, .int 600 0, .int 1 0, .int 0 0, .int 0 0, .int 3 0, .ref 643, .bool tt, .int 181 0, .ref 644, .none, .none, .none, .ref 645, .int 1094 0, .int 600 0, vs cut 1095],fuO "law" "law" (stAt 85) (vs "law_uf010016_13" 828) 646]
noncomputable def A9 (P : Params) : List Obj := [boot_o_0 P,boot_o_1 P,boot_o_2 P,{ cls := .type "dict", data := .dict #[de P "__name__" 165 (vs "freehour.errors" 194), de P "__doc__" 166 (.none), de P "__package__" 167 (.none), de P "__loader__" 168 (.builtin "__main__.__loader__#opaque"), de P "__spec__" 169 (.none), de P "__annotations__" 170 (.ref 6), de P "__builtins__" 171 (.ref 4), de P "__file__" 173 (vs cut 172), de P "__cached__" 174 (.none), de P "_wall" 193 (.ref 21), de P "HourError" 213 (.ref 31), de P "NoRule" 229 (.ref 44), de P "NoName" 245 (.ref 56), de P "Taken" 261 (.ref 68), de P "Stranger" 277 (.ref 80), de P "Twice" 293 (.ref 92), de P "NoTime" 309 (.ref 104), de P "NoMeeting" 325 (.ref 116), de P "Clash" 341 (.ref 128), de P "TooLong" 357 (.ref 140)] 20 },boot_o_4 P,boot_o_5 P,boot_o_6 P,boot_o_7 P,boot_o_8 P,boot_o_9 P,boot_o_10 P,tuO #[],{ cls := .none, data := .fields #[.int 1 0, .int 0 0, .ref 20, .int 5 0, .int 0 0, .ref 27, .int 7 0, .int 0 0, .ref 40, .int 9 0, .int 0 0, .ref 52, .int 11 0, .int 0 0, .ref 64, .int 13 0, .int 0 0, .ref 76, .int 15 0, .int 0 0, .ref 88, .int 17 0, .int 0 0, .ref 100, .int 19 0, .int 0 0, .ref 112, .int 21 0, .int 0 0, .ref 124, .int 23 0, .int 0 0, .ref 136] },coO #[vs "<module>" 182, vs "<module>" 183, vs cut 184, .int 1 0, .int 0 0, .int 0 0, .int 0 0, .int 0 0, .ref 11, .bool ff, .int 181 0, .ref 12, .none, .none, .none, .none, .int 185 0, .int 1 0, vs cut 186],{ cls := .type "frame", slots := #[sm (.ref 13), sm (.ref 3), sm (.ref 3), nn, sm (vs "__main__" 164), nn, sm (.ref 0)] }]
noncomputable def A42 (P : Params) : List Obj := [boot_o_0 P,boot_o_1 P,boot_o_2 P,{ cls := .type "dict", data := .dict #[de P "__name__" 165 (vs "freehour.book" 566), de P "__doc__" 166 (.none), de P "__package__" 167 (.none), de P "__loader__" 168 (.builtin "__main__.__loader__#opaque"), de P "__spec__" 169 (.none), de P "__annotations__" 170 (.ref 6), de P "__builtins__" 171 (.ref 4), de P "__file__" 173 (vs cut 172), de P "__cached__" 174 (.none), de P "_wall" 193 (.ref 21), de P "HourError" 213 (.ref 31), de P "NoRule" 229 (.ref 44), de P "NoName" 245 (.ref 56), de P "Taken" 261 (.ref 68), de P "Stranger" 277 (.ref 80), de P "Twice" 293 (.ref 92), de P "NoTime" 309 (.ref 104), de P "NoMeeting" 325 (.ref 116), de P "Clash" 341 (.ref 128), de P "TooLong" 357 (.ref 140), de P "FOUR_YEARS_dates" 361 (.int 1461 360), de P "BEFORE_YEAR" 366 (.ref 143), de P "MONTHS" 379 (.ref 144), de P "is_whole" 386 (.ref 151), de P "month_length" 394 (.ref 158), de P "date_of" 405 (.ref 165), de P "from_end" 413 (.ref 172), de P "TIMES" 419 (.int 1000000000000 418), de P "DAYS" 423 (.int 100000000000 422), de P "LONGEST" 425 (.int 48 424), de P "MOST_STEP" 427 (.int 1000000 426), de P "DEEPEST" 429 (.int 8 428), de P "OUTER" 434 (.ref 173), de P "is_between" 443 (.ref 180), de P "is_time" 450 (.ref 187), de P "are_rising" 461 (.ref 194), de P "is_plain" 469 (.ref 201), de P "is_rule" 477 (.ref 208), de P "innermost" 484 (.ref 215), de P "length_of" 492 (.ref 222), de P "begins_plain" 501 (.ref 229), de P "begins" 509 (.ref 236), de P "covers" 518 (.ref 243), de P "WEEK" 522 (.int 168 521), de P "FOUR_YEARS_rounds" 524 (.int 35064 523), de P "round_of" 532 (.ref 250), de P "settled_plain" 539 (.ref 257), de P "settled" 547 (.ref 264), de P "greatest_common" 556 (.ref 271), de P "least_common" 565 (.ref 278), de P "LETTERS" 569 (vs "abcdefghijklmnopqrstuvwxyz" 568), de P "LONGEST_NAME" 571 (.int 12 570), de P "MOST_RULES" 573 (.int 20 572), de P "MOST_STRETCH" 575 (.int 10000 574), de P "MOST_WALK" 577 (.int 5000 576), de P "is_name" 585 (.ref 285), de P "some_covers" 594 (.ref 292), de P "need_stretch" 603 (.ref 299)] 58 },boot_o_4 P,boot_o_5 P,boot_o_6 P,boot_o_7 P,boot_o_8 P,boot_o_9 P,boot_o_10 P,tuO #[],{ cls := .none, data := .fields #[.int 1 0, .int 0 0, .ref 20, .int 5 0, .int 0 0, .ref 27, .int 7 0, .int 0 0, .ref 40, .int 9 0, .int 0 0, .ref 52, .int 11 0, .int 0 0, .ref 64, .int 13 0, .int 0 0, .ref 76, .int 15 0, .int 0 0, .ref 88, .int 17 0, .int 0 0, .ref 100, .int 19 0, .int 0 0, .ref 112, .int 21 0, .int 0 0, .ref 124, .int 23 0, .int 0 0, .ref 136, .int 29 0, .int 0 0, .ref 150, .int 31 0, .int 0 0, .ref 157, .int 35 0, .int 0 0, .ref 164, .int 47 0, .int 0 0, .ref 171, .int 57 0, .int 0 0, .ref 179, .int 59 0, .int 0 0, .ref 186, .int 61 0, .int 0 0, .ref 193, .int 70 0, .int 0 0, .ref 200, .int 83 0, .int 0 0, .ref 207, .int 97 0, .int 0 0, .ref 214, .int 101 0, .int 0 0, .ref 221, .int 106 0, .int 0 0, .ref 228, .int 119 0, .int 0 0, .ref 235, .int 133 0, .int 0 0, .ref 242, .int 143 0, .int 0 0, .ref 249, .int 152 0, .int 0 0, .ref 256, .int 158 0, .int 0 0, .ref 263, .int 169 0, .int 0 0, .ref 270, .int 175 0, .int 0 0, .ref 277, .int 186 0, .int 0 0, .ref 284, .int 193 0, .int 0 0, .ref 291, .int 198 0, .int 0 0, .ref 298] },coO #[vs "<module>" 182, vs "<module>" 183, vs cut 184, .int 1 0, .int 0 0, .int 0 0, .int 0 0, .int 0 0, .ref 11, .bool ff, .int 181 0, .ref 12, .none, .none, .none, .none, .int 185 0, .int 1 0, vs cut 186],{ cls := .type "frame", slots := #[sm (.ref 13), sm (.ref 3), sm (.ref 3), nn, sm (vs "__main__" 164), nn, sm (.ref 0)] }]
noncomputable def A67 (P : Params) : List Obj := [boot_o_0 P,boot_o_1 P,boot_o_2 P,{ cls := .type "dict", data := .dict #[de P "__name__" 165 (vs "law_uf010016_13" 828), de P "__doc__" 166 (.none), de P "__package__" 167 (.none), de P "__loader__" 168 (.builtin "__main__.__loader__#opaque"), de P "__spec__" 169 (.none), de P "__annotations__" 170 (.ref 6), de P "__builtins__" 171 (.ref 4), de P "__file__" 173 (vs cut 172), de P "__cached__" 174 (.none), de P "_wall" 193 (.ref 21), de P "HourError" 213 (.ref 31), de P "NoRule" 229 (.ref 44), de P "NoName" 245 (.ref 56), de P "Taken" 261 (.ref 68), de P "Stranger" 277 (.ref 80), de P "Twice" 293 (.ref 92), de P "NoTime" 309 (.ref 104), de P "NoMeeting" 325 (.ref 116), de P "Clash" 341 (.ref 128), de P "TooLong" 357 (.ref 140), de P "FOUR_YEARS_dates" 361 (.int 1461 360), de P "BEFORE_YEAR" 366 (.ref 143), de P "MONTHS" 379 (.ref 144), de P "is_whole" 386 (.ref 151), de P "month_length" 394 (.ref 158), de P "date_of" 405 (.ref 165), de P "from_end" 413 (.ref 172), de P "TIMES" 419 (.int 1000000000000 418), de P "DAYS" 423 (.int 100000000000 422), de P "LONGEST" 425 (.int 48 424), de P "MOST_STEP" 427 (.int 1000000 426), de P "DEEPEST" 429 (.int 8 428), de P "OUTER" 434 (.ref 173), de P "is_between" 443 (.ref 180), de P "is_time" 450 (.ref 187), de P "are_rising" 461 (.ref 194), de P "is_plain" 469 (.ref 201), de P "is_rule" 477 (.ref 208), de P "innermost" 484 (.ref 215), de P "length_of" 492 (.ref 222), de P "begins_plain" 501 (.ref 229), de P "begins" 509 (.ref 236), de P "covers" 518 (.ref 243), de P "WEEK" 522 (.int 168 521), de P "FOUR_YEARS_rounds" 524 (.int 35064 523), de P "round_of" 532 (.ref 250), de P "settled_plain" 539 (.ref 257), de P "settled" 547 (.ref 264), de P "greatest_common" 556 (.ref 271), de P "least_common" 565 (.ref 278), de P "LETTERS" 569 (vs "abcdefghijklmnopqrstuvwxyz" 568), de P "LONGEST_NAME" 571 (.int 12 570), de P "MOST_RULES" 573 (.int 20 572), de P "MOST_STRETCH" 575 (.int 10000 574), de P "MOST_WALK" 577 (.int 5000 576), de P "is_name" 585 (.ref 285), de P "some_covers" 594 (.ref 292), de P "need_stretch" 603 (.ref 299), de P "Book" 827 (.ref 447), de P "_law_cell_at" 837 (.ref 458), de P "_law_whole" 844 (.ref 465), de P "_law_days" 853 (.ref 472), de P "_law_in_month" 863 (.ref 479), de P "_law_plain_begins" 871 (.ref 486), de P "_law_bearing" 877 (.ref 493), de P "_law_heads" 885 (.ref 500), de P "_law_begun" 896 (.ref 507), de P "_law_size" 904 (.ref 514), de P "_law_weekdays" 913 (.ref 521), de P "_law_plain_by" 926 (.ref 528), de P "_law_head_by" 932 (.ref 533), de P "_law_far" 939 (.ref 540), de P "_law_name_by" 952 (.ref 547), de P "_law_lasts" 961 (.ref 554), de P "_law_open" 967 (.ref 559), de P "_law_small_rule" 977 (.ref 566), de P "_law_some_by" 983 (.ref 571), de P "_law_long_rule" 992 (.ref 578), de P "_law_settled" 1001 (.ref 585), de P "_law_common" 1010 (.ref 592), de P "_law_walk" 1024 (.ref 599), de P "_law_all_open" 1035 (.ref 606), de P "_law_holds" 1041 (.ref 611), de P "_law_cast" 1054 (.ref 618), de P "_law_book_of" 1068 (.ref 625), de P "_law_asked" 1074 (.ref 630), de P "_law_put" 1084 (.ref 637), de P "_law_deeds" 1090 (.ref 642), de P "law" 1096 (.ref 647)] 89 },boot_o_4 P,boot_o_5 P,boot_o_6 P,boot_o_7 P,boot_o_8 P,boot_o_9 P,boot_o_10 P,tuO #[],{ cls := .none, data := .fields #[.int 1 0, .int 0 0, .ref 20, .int 5 0, .int 0 0, .ref 27, .int 7 0, .int 0 0, .ref 40, .int 9 0, .int 0 0, .ref 52, .int 11 0, .int 0 0, .ref 64, .int 13 0, .int 0 0, .ref 76, .int 15 0, .int 0 0, .ref 88, .int 17 0, .int 0 0, .ref 100, .int 19 0, .int 0 0, .ref 112, .int 21 0, .int 0 0, .ref 124, .int 23 0, .int 0 0, .ref 136, .int 29 0, .int 0 0, .ref 150, .int 31 0, .int 0 0, .ref 157, .int 35 0, .int 0 0, .ref 164, .int 47 0, .int 0 0, .ref 171, .int 57 0, .int 0 0, .ref 179, .int 59 0, .int 0 0, .ref 186, .int 61 0, .int 0 0, .ref 193, .int 70 0, .int 0 0, .ref 200, .int 83 0, .int 0 0, .ref 207, .int 97 0, .int 0 0, .ref 214, .int 101 0, .int 0 0, .ref 221, .int 106 0, .int 0 0, .ref 228, .int 119 0, .int 0 0, .ref 235, .int 133 0, .int 0 0, .ref 242, .int 143 0, .int 0 0, .ref 249, .int 152 0, .int 0 0, .ref 256, .int 158 0, .int 0 0, .ref 263, .int 169 0, .int 0 0, .ref 270, .int 175 0, .int 0 0, .ref 277, .int 186 0, .int 0 0, .ref 284, .int 193 0, .int 0 0, .ref 291, .int 198 0, .int 0 0, .ref 298, .int 203 0, .int 0 0, .ref 305, .int 347 0, .int 0 0, .ref 457, .int 351 0, .int 0 0, .ref 464, .int 353 0, .int 0 0, .ref 471, .int 356 0, .int 0 0, .ref 478, .int 365 0, .int 0 0, .ref 485, .int 375 0, .int 0 0, .ref 492, .int 377 0, .int 0 0, .ref 499, .int 383 0, .int 0 0, .ref 506, .int 396 0, .int 0 0, .ref 513, .int 401 0, .int 0 0, .ref 520, .int 408 0, .int 0 0, .ref 527, .int 420 0, .int 0 0, .ref 532, .int 427 0, .int 0 0, .ref 539, .int 429 0, .int 0 0, .ref 546, .int 445 0, .int 0 0, .ref 553, .int 450 0, .int 0 0, .ref 558, .int 456 0, .int 0 0, .ref 565, .int 466 0, .int 0 0, .ref 570, .int 479 0, .int 0 0, .ref 577, .int 485 0, .int 0 0, .ref 584, .int 495 0, .int 0 0, .ref 591, .int 500 0, .int 0 0, .ref 598, .int 516 0, .int 0 0, .ref 605, .int 522 0, .int 0 0, .ref 610, .int 536 0, .int 0 0, .ref 617, .int 557 0, .int 0 0, .ref 624, .int 570 0, .int 0 0, .ref 629, .int 575 0, .int 0 0, .ref 636, .int 578 0, .int 0 0, .ref 641, .int 600 0, .int 0 0, .ref 646] },coO #[vs "<module>" 182, vs "<module>" 183, vs cut 184, .int 1 0, .int 0 0, .int 0 0, .int 0 0, .int 0 0, .ref 11, .bool ff, .int 181 0, .ref 12, .none, .none, .none, .none, .int 185 0, .int 1 0, vs cut 186],{ cls := .type "frame", slots := #[sm (.ref 13), sm (.ref 3), sm (.ref 3), nn, sm (vs "__main__" 164), nn, sm (.ref 0)] }]
noncomputable def S9 (P : Params) : List Obj := A9 P ++ M9 P
noncomputable def S42 (P : Params) : List Obj := A42 P ++ (M9 P ++ M42 P)
noncomputable def S67 (P : Params) : List Obj := A67 P ++ (M9 P ++ (M42 P ++ M67 P))
def pos9 : Pos := { line := 23, col := 0, endLine := 24, endCol := 8 }
def pos42 : Pos := { line := 198, col := 0, endLine := 202, endCol := 34 }
def pos67 : Pos := { line := 600, col := 0, endLine := 626, endCol := 96 }
noncomputable def Hf (P : Params) : Heap := ⟨(S67 P).toArray, {}⟩
end Mine.Hd
namespace Mine
noncomputable def pO (P : Params) (i : Nat) : Nat × Obj := (i, (Hd.S67 P).getD i (boot_o_0 P))
noncomputable def K10 (P : Params) : Frag := [pO P 3, pO P 31, pO P 30, pO P 44, pO P 43, pO P 56, pO P 55, pO P 68, pO P 67, pO P 80, pO P 79, pO P 92, pO P 91, pO P 104, pO P 103, pO P 116, pO P 115, pO P 128, pO P 127, pO P 140, pO P 139, pO P 143, pO P 144, pO P 173]
noncomputable def X10 : List (Str × List Str × Addr) := [("HourError", ["HourError", "ValueError"], 31), ("NoRule", ["NoRule", "HourError", "ValueError"], 44), ("NoName", ["NoName", "HourError", "ValueError"], 56), ("Taken", ["Taken", "HourError", "ValueError"], 68), ("Stranger", ["Stranger", "HourError", "ValueError"], 80), ("Twice", ["Twice", "HourError", "ValueError"], 92), ("NoTime", ["NoTime", "HourError", "ValueError"], 104), ("NoMeeting", ["NoMeeting", "HourError", "ValueError"], 116), ("Clash", ["Clash", "HourError", "ValueError"], 128), ("TooLong", ["TooLong", "HourError", "ValueError"], 140)]
noncomputable def H10 : Hook := kHook K10 [3, 31, 30, 44, 43, 56, 55, 68, 67, 80, 79, 92, 91, 104, 103, 116, 115, 128, 127, 140, 139, 143, 144, 173] (fun _ => rfl)
noncomputable def V10 : Program := viewOf Challenge.pw_uf010016_13
noncomputable def B10 : ClsRec := match (plainsOf V10 (looseW V10 [Str.ofString "TIMES", Str.ofString "DAYS"])).find? (fun c => c.name == Str.ofString "Book") with
 | some c => c
 | none => ⟨Str.ofString "", none, [], [], 0, []⟩
end Mine
namespace Mine.Hd
set_option maxRecDepth 100000
theorem pre10 (w : World) (os : OsState) : topGo treeTable P10 w 11 (some (.ref 6)) 12 ⟨boot_heap w.params, Array.mk [], boot_drawn, boot_toks, os⟩ (topStub P10) = some ((shT (SA w.params) 15 187 os).abs, ⟨denote treeTable c10, c10, pos0, [topFrame pos0]⟩) := by kernel_rfl
theorem blk10 (w : World) (os : OsState) : segRun treeTable P10 w 11 (some (.ref 6)) 1 1 (shT (SA w.params) 15 187 os).abs (blockOf b10 env10 c10 pos0 [topFrame pos0]) = some (.next, (shT (SA w.params) 15 187 os).abs, c10, pos0) := by kernel_rfl
theorem pc1 (w : World) (os : OsState) : segRunT treeTable P10 w 11 (some (.ref 6)) 1 2142 (shT (SA w.params) 15 187 os) (piecesOf (b10.take 12) env10 c10 pos0 [topFrame pos0]) = some (.next, shT (S9 w.params) 143 358 os, c10, pos9) := by kernel_rfl
theorem pc2 (w : World) (os : OsState) : segRunT treeTable P10 w 11 (some (.ref 6)) 1 885 (shT (S9 w.params) 143 358 os) (piecesOf ((b10.drop 12).take 42) env10 c10 pos9 [topFrame pos0]) = some (.next, shT (S42 w.params) 300 604 os, c10, pos42) := by kernel_rfl
theorem pc3 (w : World) (os : OsState) : segRunT treeTable P10 w 11 (some (.ref 6)) 1 1794 (shT (S42 w.params) 300 604 os) (piecesOf ((b10.drop 12).drop 42) env10 c10 pos42 [topFrame pos0]) = some (.next, shT (S67 w.params) 648 1097 os, c10, pos67) := by kernel_rfl
theorem tl10 (w : World) (os : OsState) : topRun treeTable P10 w 11 (some (.ref 6)) 2 (shT (S67 w.params) 648 1097 os).abs ⟨doneF .next, c10, pos67, [topFrame pos0]⟩ = some ⟨Hf w.params, Array.mk [], {}, 1097, os⟩ := by kernel_rfl
theorem lk10 (w : World) : (fun os => ((staticsOk (importedModules P10.main.body) (boot_heap w.params) (Hf w.params) && namesBound P10 (Hf w.params) && gensDone ⟨Hf w.params, Array.mk [], {}, 1097, os⟩ && laidKept (boot_heap w.params) (Hf w.params)), openSeen V10 [Str.ofString "TIMES", Str.ofString "DAYS"] (importedModules P10.main.body) (fun s => xlAt V10 [(Str.ofString "TIMES", .int 1000000000000), (Str.ofString "DAYS", .int 100000000000)] s && recOk (RowW.records (OpenRow.toRowW Challenge.rw_uf010016_13.row)) s) true ⟨Hf w.params, Array.mk [], {}, 1097, os⟩, Hook.obs H10 ⟨Hf w.params, Array.mk [], {}, 1097, os⟩)) = fun _ => (true, openGood V10 [Str.ofString "TIMES", Str.ofString "DAYS"], Hook.val H10 w) := by kernel_rfl
theorem run10 (w : World) (os : OsState) : topRun treeTable P10 w 11 (some (.ref 6)) (12 + (1 + (2142 + (885 + (1794 + 2))))) ⟨boot_heap w.params, Array.mk [], boot_drawn, boot_toks, os⟩ (topStub P10) = some ⟨Hf w.params, Array.mk [], {}, 1097, os⟩ := by
 have h3 := piece_app (rest := []) (segRun_of (pc3 w os)) (piece_nil (tl10 w os))
 rw [List.append_nil] at h3
 have h2 := piece_app (segRun_of (pc2 w os)) h3
 rw [List.take_append_drop] at h2
 have h1 := piece_app (segRun_of (pc1 w os)) h2
 rw [List.take_append_drop] at h1
 exact go_top (pre10 w os) (piece_block (blk10 w os) h1)
theorem hl10 : LeftO P10 V10 [Str.ofString "TIMES", Str.ofString "DAYS"] (fun s => xlAt V10 [(Str.ofString "TIMES", .int 1000000000000), (Str.ofString "DAYS", .int 100000000000)] s && recOk (RowW.records (OpenRow.toRowW Challenge.rw_uf010016_13.row)) s) (Hook.obs H10) (Hook.val H10) 8080 := LeftO.of_pieces (boot_open o1 rfl o2) sz10 run10 rfl lk10
end Mine.Hd
namespace Mine
set_option maxRecDepth 100000
theorem hb10 : (plainsOf V10 (looseW V10 [Str.ofString "TIMES", Str.ofString "DAYS"])).find? (fun c => c.name == Str.ofString "Book") = some B10 := by kernel_rfl
theorem bn10 : B10.name = Str.ofString "Book" := by kernel_rfl
theorem xk10 (P : Params) : exOk (K10 P) X10 = true := by kernel_rfl
theorem xg10 : clsG G10 (exOf X10) = true := by kernel_rfl
theorem bc10 : bkChk B10 mts10 = true := by kernel_rfl
theorem ini10 : Str.ofString "Book." ++ Str.ofString "__init__" = Str.ofString "Book.__init__" := by decide +kernel
set_option maxHeartbeats 4000000 in
theorem ws10 : Challenge.rw_uf010016_13.wellSaid = true := by
 unfold OpenLaw.wellSaid
 refine look_both (look_both (look_both (look_both (look_both (look_both (look_both (look_both (look_both (look_both (look_both (look_both (look_both (look_both (look_both (look_both (look_both (look_both ?_ ?_) ?_) ?_) ?_) ?_) ?_) ?_) ?_) ?_) ?_) ?_) ?_) ?_) ?_) ?_) ?_) ?_) ?_
 all_goals decide +kernel
noncomputable abbrev nG (P : Params) (x : String) := nsIn (K10 P) mainGlobals (Str.ofString x)
theorem nA_FOUR_YEARS_dates (P : Params) : nG P "FOUR_YEARS_dates" = some (some (.int 1461 360)) := by kernel_rfl
theorem nA_BEFORE_YEAR (P : Params) : nG P "BEFORE_YEAR" = some (some (.ref 143)) := by kernel_rfl
theorem nO_BEFORE_YEAR (P : Params) : (K10 P).lookup 143 = some { cls := Value.type "tuple", data := Data.seq #[Value.int 0 362, Value.int 366 363, Value.int 731 364, Value.int 1096 365] } := by kernel_rfl
theorem nA_MONTHS (P : Params) : nG P "MONTHS" = some (some (.ref 144)) := by kernel_rfl
theorem nO_MONTHS (P : Params) : (K10 P).lookup 144 = some { cls := Value.type "tuple", data := Data.seq #[Value.int 31 367, Value.int 28 368, Value.int 31 369, Value.int 30 370, Value.int 31 371, Value.int 30 372, Value.int 31 373, Value.int 31 374, Value.int 30 375, Value.int 31 376, Value.int 30 377, Value.int 31 378] } := by kernel_rfl
theorem nA_TIMES (P : Params) : nG P "TIMES" = some (some (.int 1000000000000 418)) := by kernel_rfl
theorem nA_DAYS (P : Params) : nG P "DAYS" = some (some (.int 100000000000 422)) := by kernel_rfl
theorem nA_LONGEST (P : Params) : nG P "LONGEST" = some (some (.int 48 424)) := by kernel_rfl
theorem nA_MOST_STEP (P : Params) : nG P "MOST_STEP" = some (some (.int 1000000 426)) := by kernel_rfl
theorem nA_DEEPEST (P : Params) : nG P "DEEPEST" = some (some (.int 8 428)) := by kernel_rfl
theorem nA_OUTER (P : Params) : nG P "OUTER" = some (some (.ref 173)) := by kernel_rfl
theorem nO_OUTER (P : Params) : (K10 P).lookup 173 = some { cls := Value.type "tuple", data := Data.seq #[Value.str (Str.ofString "from") 430, Value.str (Str.ofString "until") 431, Value.str (Str.ofString "also") 432, Value.str (Str.ofString "but") 433] } := by kernel_rfl
theorem nA_WEEK (P : Params) : nG P "WEEK" = some (some (.int 168 521)) := by kernel_rfl
theorem nA_FOUR_YEARS_rounds (P : Params) : nG P "FOUR_YEARS_rounds" = some (some (.int 35064 523)) := by kernel_rfl
theorem nA_LETTERS (P : Params) : nG P "LETTERS" = some (some (.str (Str.ofString "abcdefghijklmnopqrstuvwxyz") 568)) := by kernel_rfl
theorem nA_LONGEST_NAME (P : Params) : nG P "LONGEST_NAME" = some (some (.int 12 570)) := by kernel_rfl
theorem nA_MOST_RULES (P : Params) : nG P "MOST_RULES" = some (some (.int 20 572)) := by kernel_rfl
theorem nA_MOST_STRETCH (P : Params) : nG P "MOST_STRETCH" = some (some (.int 10000 574)) := by kernel_rfl
theorem nA_MOST_WALK (P : Params) : nG P "MOST_WALK" = some (some (.int 5000 576)) := by kernel_rfl
theorem nZ_isinstance (P : Params) : nG P "isinstance" = some none := by kernel_rfl
theorem nZ_len (P : Params) : nG P "len" = some none := by kernel_rfl
theorem nZ_any (P : Params) : nG P "any" = some none := by kernel_rfl
theorem nZ_max (P : Params) : nG P "max" = some none := by kernel_rfl
theorem nZ_min (P : Params) : nG P "min" = some none := by kernel_rfl
theorem nZ_int (P : Params) : nG P "int" = some none := by kernel_rfl
theorem nZ_bool (P : Params) : nG P "bool" = some none := by kernel_rfl
theorem nZ_str (P : Params) : nG P "str" = some none := by kernel_rfl
theorem nZ_tuple (P : Params) : nG P "tuple" = some none := by kernel_rfl
theorem nZ_list (P : Params) : nG P "list" = some none := by kernel_rfl
theorem nZ_range (P : Params) : nG P "range" = some none := by kernel_rfl
theorem nZ_reversed (P : Params) : nG P "reversed" = some none := by kernel_rfl
theorem nA_HourError (P : Params) : nG P "HourError" = some (some (.ref 31)) := by kernel_rfl
theorem nA_NoRule (P : Params) : nG P "NoRule" = some (some (.ref 44)) := by kernel_rfl
theorem nA_NoName (P : Params) : nG P "NoName" = some (some (.ref 56)) := by kernel_rfl
theorem nA_Taken (P : Params) : nG P "Taken" = some (some (.ref 68)) := by kernel_rfl
theorem nA_Stranger (P : Params) : nG P "Stranger" = some (some (.ref 80)) := by kernel_rfl
theorem nA_Twice (P : Params) : nG P "Twice" = some (some (.ref 92)) := by kernel_rfl
theorem nA_NoTime (P : Params) : nG P "NoTime" = some (some (.ref 104)) := by kernel_rfl
theorem nA_NoMeeting (P : Params) : nG P "NoMeeting" = some (some (.ref 116)) := by kernel_rfl
theorem nA_Clash (P : Params) : nG P "Clash" = some (some (.ref 128)) := by kernel_rfl
theorem nA_TooLong (P : Params) : nG P "TooLong" = some (some (.ref 140)) := by kernel_rfl
theorem nA_wall (P : Params) : nG P "_wall" = some (some (.ref 21)) := by kernel_rfl
theorem nA_is_whole (P : Params) : nG P "is_whole" = some (some (.ref 151)) := by kernel_rfl
theorem nA_month_length (P : Params) : nG P "month_length" = some (some (.ref 158)) := by kernel_rfl
theorem nA_date_of (P : Params) : nG P "date_of" = some (some (.ref 165)) := by kernel_rfl
theorem nA_from_end (P : Params) : nG P "from_end" = some (some (.ref 172)) := by kernel_rfl
theorem nA_is_between (P : Params) : nG P "is_between" = some (some (.ref 180)) := by kernel_rfl
theorem nA_is_time (P : Params) : nG P "is_time" = some (some (.ref 187)) := by kernel_rfl
theorem nA_are_rising (P : Params) : nG P "are_rising" = some (some (.ref 194)) := by kernel_rfl
theorem nA_is_plain (P : Params) : nG P "is_plain" = some (some (.ref 201)) := by kernel_rfl
theorem nA_is_rule (P : Params) : nG P "is_rule" = some (some (.ref 208)) := by kernel_rfl
theorem nA_innermost (P : Params) : nG P "innermost" = some (some (.ref 215)) := by kernel_rfl
theorem nA_length_of (P : Params) : nG P "length_of" = some (some (.ref 222)) := by kernel_rfl
theorem nA_begins_plain (P : Params) : nG P "begins_plain" = some (some (.ref 229)) := by kernel_rfl
theorem nA_begins (P : Params) : nG P "begins" = some (some (.ref 236)) := by kernel_rfl
theorem nA_covers (P : Params) : nG P "covers" = some (some (.ref 243)) := by kernel_rfl
theorem nA_round_of (P : Params) : nG P "round_of" = some (some (.ref 250)) := by kernel_rfl
theorem nA_settled_plain (P : Params) : nG P "settled_plain" = some (some (.ref 257)) := by kernel_rfl
theorem nA_settled (P : Params) : nG P "settled" = some (some (.ref 264)) := by kernel_rfl
theorem nA_greatest_common (P : Params) : nG P "greatest_common" = some (some (.ref 271)) := by kernel_rfl
theorem nA_least_common (P : Params) : nG P "least_common" = some (some (.ref 278)) := by kernel_rfl
theorem nA_is_name (P : Params) : nG P "is_name" = some (some (.ref 285)) := by kernel_rfl
theorem nA_some_covers (P : Params) : nG P "some_covers" = some (some (.ref 292)) := by kernel_rfl
theorem nA_need_stretch (P : Params) : nG P "need_stretch" = some (some (.ref 299)) := by kernel_rfl
theorem nA_law_cell_at (P : Params) : nG P "_law_cell_at" = some (some (.ref 458)) := by kernel_rfl
theorem nA_law_whole (P : Params) : nG P "_law_whole" = some (some (.ref 465)) := by kernel_rfl
theorem nA_law_days (P : Params) : nG P "_law_days" = some (some (.ref 472)) := by kernel_rfl
theorem nA_law_in_month (P : Params) : nG P "_law_in_month" = some (some (.ref 479)) := by kernel_rfl
theorem nA_law_plain_begins (P : Params) : nG P "_law_plain_begins" = some (some (.ref 486)) := by kernel_rfl
theorem nA_law_bearing (P : Params) : nG P "_law_bearing" = some (some (.ref 493)) := by kernel_rfl
theorem nA_law_heads (P : Params) : nG P "_law_heads" = some (some (.ref 500)) := by kernel_rfl
theorem nA_law_begun (P : Params) : nG P "_law_begun" = some (some (.ref 507)) := by kernel_rfl
theorem nA_law_size (P : Params) : nG P "_law_size" = some (some (.ref 514)) := by kernel_rfl
theorem nA_law_weekdays (P : Params) : nG P "_law_weekdays" = some (some (.ref 521)) := by kernel_rfl
theorem nA_law_plain_by (P : Params) : nG P "_law_plain_by" = some (some (.ref 528)) := by kernel_rfl
theorem nA_law_head_by (P : Params) : nG P "_law_head_by" = some (some (.ref 533)) := by kernel_rfl
theorem nA_law_far (P : Params) : nG P "_law_far" = some (some (.ref 540)) := by kernel_rfl
theorem nA_law_name_by (P : Params) : nG P "_law_name_by" = some (some (.ref 547)) := by kernel_rfl
theorem nA_law_lasts (P : Params) : nG P "_law_lasts" = some (some (.ref 554)) := by kernel_rfl
theorem nA_law_open (P : Params) : nG P "_law_open" = some (some (.ref 559)) := by kernel_rfl
theorem nA_law_small_rule (P : Params) : nG P "_law_small_rule" = some (some (.ref 566)) := by kernel_rfl
theorem nA_law_some_by (P : Params) : nG P "_law_some_by" = some (some (.ref 571)) := by kernel_rfl
theorem nA_law_long_rule (P : Params) : nG P "_law_long_rule" = some (some (.ref 578)) := by kernel_rfl
theorem nA_law_settled (P : Params) : nG P "_law_settled" = some (some (.ref 585)) := by kernel_rfl
theorem nA_law_common (P : Params) : nG P "_law_common" = some (some (.ref 592)) := by kernel_rfl
theorem nA_law_walk (P : Params) : nG P "_law_walk" = some (some (.ref 599)) := by kernel_rfl
theorem nA_law_all_open (P : Params) : nG P "_law_all_open" = some (some (.ref 606)) := by kernel_rfl
theorem nA_law_holds (P : Params) : nG P "_law_holds" = some (some (.ref 611)) := by kernel_rfl
theorem nA_law_cast (P : Params) : nG P "_law_cast" = some (some (.ref 618)) := by kernel_rfl
theorem nA_law_book_of (P : Params) : nG P "_law_book_of" = some (some (.ref 625)) := by kernel_rfl
theorem nA_law_asked (P : Params) : nG P "_law_asked" = some (some (.ref 630)) := by kernel_rfl
theorem nA_law_put (P : Params) : nG P "_law_put" = some (some (.ref 637)) := by kernel_rfl
theorem nA_law_deeds (P : Params) : nG P "_law_deeds" = some (some (.ref 642)) := by kernel_rfl
theorem ck10_is_whole : checkFn G10 mts10 V10 "is_whole" = some f_is_whole := by kernel_rfl
theorem ck10_is_between : checkFn G10 mts10 V10 "is_between" = some f_is_between := by kernel_rfl
theorem ck10_is_time : checkFn G10 mts10 V10 "is_time" = some f_is_time := by kernel_rfl
theorem ck10_are_rising : checkFn G10 mts10 V10 "are_rising" = some f_are_rising := by kernel_rfl
theorem ck10_is_plain : checkFn G10 mts10 V10 "is_plain" = some f_is_plain := by kernel_rfl
theorem ck10_is_rule : checkFn G10 mts10 V10 "is_rule" = some f_is_rule := by kernel_rfl
theorem ck10_innermost : checkFn G10 mts10 V10 "innermost" = some f_innermost := by kernel_rfl
theorem ck10_length_of : checkFn G10 mts10 V10 "length_of" = some f_length_of := by kernel_rfl
theorem ck10_begins_plain : checkFn G10 mts10 V10 "begins_plain" = some f_begins_plain := by kernel_rfl
theorem ck10_begins : checkFn G10 mts10 V10 "begins" = some f_begins := by kernel_rfl
theorem ck10_covers : checkFn G10 mts10 V10 "covers" = some f_covers := by kernel_rfl
theorem ck10_some_covers : checkFn G10 mts10 V10 "some_covers" = some f_some_covers := by kernel_rfl
theorem ck10_need_stretch : checkFn G10 mts10 V10 "need_stretch" = some f_need_stretch := by kernel_rfl
theorem ck10_is_name : checkFn G10 mts10 V10 "is_name" = some f_is_name := by kernel_rfl
theorem l_hd {α : Type} {a b : α} {l m : List α} (h : a :: l = b :: m) : a = b := (List.cons.inj h).1
theorem l_tl {α : Type} {a b : α} {l m : List α} (h : a :: l = b :: m) : l = m := (List.cons.inj h).2
theorem ckM : [checkMt G10 mts10 B10 "need_somebody", checkMt G10 mts10 B10 "meets_at", checkMt G10 mts10 B10 "free_at", checkMt G10 mts10 B10 "need_all", checkMt G10 mts10 B10 "bar", checkMt G10 mts10 B10 "look", checkMt G10 mts10 B10 "first", checkMt G10 mts10 B10 "meetings", checkMt G10 mts10 B10 "meet", checkMt G10 mts10 B10 "__init__", checkMt G10 mts10 B10 "come", checkMt G10 mts10 B10 "busy", checkMt G10 mts10 B10 "place_of", checkMt G10 mts10 B10 "drop", checkMt G10 mts10 B10 "move", checkMt G10 mts10 B10 "rules_of", checkMt G10 mts10 B10 "quiet_from", checkMt G10 mts10 B10 "ever"] = [some f_B_need_somebody, some f_B_meets_at, some f_B_free_at, some f_B_need_all, some f_B_bar, some f_B_look, some f_B_first, some f_B_meetings, some f_B_meet, some f_B___init__, some f_B_come, some f_B_busy, some f_B_place_of, some f_B_drop, some f_B_move, some f_B_rules_of, some f_B_quiet_from, some f_B_ever] := by kernel_rfl
theorem ck10_Bneed_somebody : checkMt G10 mts10 B10 "need_somebody" = some f_B_need_somebody := l_hd ckM
theorem ck10_Bmeets_at : checkMt G10 mts10 B10 "meets_at" = some f_B_meets_at := l_hd (l_tl ckM)
theorem ck10_Bfree_at : checkMt G10 mts10 B10 "free_at" = some f_B_free_at := l_hd (l_tl (l_tl ckM))
theorem ck10_Bneed_all : checkMt G10 mts10 B10 "need_all" = some f_B_need_all := l_hd (l_tl (l_tl (l_tl ckM)))
theorem ck10_Bbar : checkMt G10 mts10 B10 "bar" = some f_B_bar := l_hd (l_tl (l_tl (l_tl (l_tl ckM))))
theorem ck10_Blook : checkMt G10 mts10 B10 "look" = some f_B_look := l_hd (l_tl (l_tl (l_tl (l_tl (l_tl ckM)))))
theorem ck10_Bfirst : checkMt G10 mts10 B10 "first" = some f_B_first := l_hd (l_tl (l_tl (l_tl (l_tl (l_tl (l_tl ckM))))))
theorem ck10_Bmeetings : checkMt G10 mts10 B10 "meetings" = some f_B_meetings := l_hd (l_tl (l_tl (l_tl (l_tl (l_tl (l_tl (l_tl ckM)))))))
theorem ck10_Bmeet : checkMt G10 mts10 B10 "meet" = some f_B_meet := l_hd (l_tl (l_tl (l_tl (l_tl (l_tl (l_tl (l_tl (l_tl ckM))))))))
theorem ck10_Binit : checkMt G10 mts10 B10 "__init__" = some f_B___init__ := l_hd (l_tl (l_tl (l_tl (l_tl (l_tl (l_tl (l_tl (l_tl (l_tl ckM)))))))))
theorem ck10_Bcome : checkMt G10 mts10 B10 "come" = some f_B_come := l_hd (l_tl (l_tl (l_tl (l_tl (l_tl (l_tl (l_tl (l_tl (l_tl (l_tl ckM))))))))))
theorem ck10_Bbusy : checkMt G10 mts10 B10 "busy" = some f_B_busy := l_hd (l_tl (l_tl (l_tl (l_tl (l_tl (l_tl (l_tl (l_tl (l_tl (l_tl (l_tl ckM)))))))))))
theorem ck10_Bplace_of : checkMt G10 mts10 B10 "place_of" = some f_B_place_of := l_hd (l_tl (l_tl (l_tl (l_tl (l_tl (l_tl (l_tl (l_tl (l_tl (l_tl (l_tl (l_tl ckM))))))))))))
theorem ck10_Bdrop : checkMt G10 mts10 B10 "drop" = some f_B_drop := l_hd (l_tl (l_tl (l_tl (l_tl (l_tl (l_tl (l_tl (l_tl (l_tl (l_tl (l_tl (l_tl (l_tl ckM)))))))))))))
theorem ck10_Bmove : checkMt G10 mts10 B10 "move" = some f_B_move := l_hd (l_tl (l_tl (l_tl (l_tl (l_tl (l_tl (l_tl (l_tl (l_tl (l_tl (l_tl (l_tl (l_tl (l_tl ckM))))))))))))))
theorem ck10_Brules_of : checkMt G10 mts10 B10 "rules_of" = some f_B_rules_of := l_hd (l_tl (l_tl (l_tl (l_tl (l_tl (l_tl (l_tl (l_tl (l_tl (l_tl (l_tl (l_tl (l_tl (l_tl (l_tl ckM)))))))))))))))
theorem ck10_Bquiet_from : checkMt G10 mts10 B10 "quiet_from" = some f_B_quiet_from := l_hd (l_tl (l_tl (l_tl (l_tl (l_tl (l_tl (l_tl (l_tl (l_tl (l_tl (l_tl (l_tl (l_tl (l_tl (l_tl (l_tl ckM))))))))))))))))
theorem ck10_Bever : checkMt G10 mts10 B10 "ever" = some f_B_ever := l_hd (l_tl (l_tl (l_tl (l_tl (l_tl (l_tl (l_tl (l_tl (l_tl (l_tl (l_tl (l_tl (l_tl (l_tl (l_tl (l_tl (l_tl ckM)))))))))))))))))
theorem ck10_round_of : checkFn G10 mts10 V10 "round_of" = some f_round_of := by kernel_rfl
theorem ck10_settled_plain : checkFn G10 mts10 V10 "settled_plain" = some f_settled_plain := by kernel_rfl
theorem ck10_settled : checkFn G10 mts10 V10 "settled" = some f_settled := by kernel_rfl
theorem ck10_greatest_common : checkFn G10 mts10 V10 "greatest_common" = some f_greatest_common := by kernel_rfl
theorem ck10_least_common : checkFn G10 mts10 V10 "least_common" = some f_least_common := by kernel_rfl
theorem ck10_law_cell_at : checkFn G10 mts10 V10 "_law_cell_at" = some f_l_cell_at := by kernel_rfl
theorem ck10_law_whole : checkFn G10 mts10 V10 "_law_whole" = some f_l_whole := by kernel_rfl
theorem ck10_law_plain_begins : checkFn G10 mts10 V10 "_law_plain_begins" = some f_l_plain_begins := by kernel_rfl
theorem ck10_law_bearing : checkFn G10 mts10 V10 "_law_bearing" = some f_l_bearing := by kernel_rfl
theorem ck10_law_heads : checkFn G10 mts10 V10 "_law_heads" = some f_l_heads := by kernel_rfl
theorem ck10_law_begun : checkFn G10 mts10 V10 "_law_begun" = some f_l_begun := by kernel_rfl
theorem ck10_law_size : checkFn G10 mts10 V10 "_law_size" = some f_l_size := by kernel_rfl
theorem ck10_law_lasts : checkFn G10 mts10 V10 "_law_lasts" = some f_l_lasts := by kernel_rfl
theorem ck10_law_open : checkFn G10 mts10 V10 "_law_open" = some f_l_open := by kernel_rfl
theorem ck10_law_all_open : checkFn G10 mts10 V10 "_law_all_open" = some f_l_all_open := by kernel_rfl
theorem ck10_law_settled : checkFn G10 mts10 V10 "_law_settled" = some f_l_settled := by kernel_rfl
theorem ck10_law_common : checkFn G10 mts10 V10 "_law_common" = some f_l_common := by kernel_rfl
theorem ck10_law_walk : checkFn G10 mts10 V10 "_law_walk" = some f_l_walk := by kernel_rfl
theorem ck10_law_holds : checkFn G10 mts10 V10 "_law_holds" = some f_l_holds := by kernel_rfl
theorem ck10_law_asked : checkFn G10 mts10 V10 "_law_asked" = some f_l_asked := by kernel_rfl
theorem ck10_law_put : checkFn G10 mts10 V10 "_law_put" = some f_l_put := by kernel_rfl
theorem ck10_law_deeds : checkFn G10 mts10 V10 "_law_deeds" = some f_l_deeds := by kernel_rfl
theorem ck10_law_weekdays : checkFn G10 mts10 V10 "_law_weekdays" = some f_l_weekdays := by kernel_rfl
theorem ck10_law_far : checkFn G10 mts10 V10 "_law_far" = some f_l_far := by kernel_rfl
theorem ck10_law_name_by : checkFn G10 mts10 V10 "_law_name_by" = some f_l_name_by := by kernel_rfl
theorem ck10_law_small_rule : checkFn G10 mts10 V10 "_law_small_rule" = some f_l_small_rule := by kernel_rfl
theorem ck10_law_long_rule : checkFn G10 mts10 V10 "_law_long_rule" = some f_l_long_rule := by kernel_rfl
theorem ck10_law_some_by : checkFn G10 mts10 V10 "_law_some_by" = some f_l_some_by := by kernel_rfl
theorem ck10_law_cast : checkFn G10 mts10 V10 "_law_cast" = some f_l_cast := by kernel_rfl
theorem ck10_law_book_of : checkFn G10 mts10 V10 "_law_book_of" = some f_l_book_of := by kernel_rfl
theorem ck10_law : checkFn G10 mts10 V10 "law" = some f_law := by kernel_rfl
end Mine
set_option maxRecDepth 100000 in
set_option maxHeartbeats 8000000 in
theorem PySem.Challenge.cw_uf010016_13_holds : PySem.Challenge.rw_uf010016_13.Holds := by
 w_on
 refine holds_law ws10 fun said => ?_
 refine holds_open (q := V10) (loose := [Str.ofString "TIMES", Str.ofString "DAYS"]) (Xt := fun s => xlAt V10 [(Str.ofString "TIMES", .int 1000000000000), (Str.ofString "DAYS", .int 100000000000)] s && recOk (RowW.records (OpenRow.toRowW Challenge.rw_uf010016_13.row)) s) (XP := XL V10 [(Str.ofString "TIMES", .int 1000000000000), (Str.ofString "DAYS", .int 100000000000)]) (Yf := Hook.obs H10) (Ya := Hook.val H10) (YP := Hook.says H10) (N := 8080) ?hl (Hook.of H10) (Hook.keeps H10) (fun s e => xl_of s (Bool.and_eq_true_iff.mp e).1) XL.keeps (by rfl) (by rfl) (by rfl) (fun s e => recFacts_of (Bool.and_eq_true_iff.mp e).2) (by rfl) (by first | assumption | decide +kernel) (by decide +kernel) ⟨rfl, rfl, rfl, rfl, rfl, by decide +kernel⟩ ?hw ?hc
 case hl => exact Hd.hl10
 case hw => w_witness2
 intro w s₀ s₁ mg mb G Y fa o pm cd doc dV kV ho hd hcd hD hmg hg args vals as hpre hlay hrd hwl hlo
 have KX := kIn_of Y
 refine Ground.open G ?_
 intro T B D TE TW
 wrow_args hpre hlay hrd hwl hlo
 obtain ⟨C, N, mN, hC, P0⟩ := TE B10 (List.mem_of_find?_eq_some hb10)
 have P := P0.ofCmp
 rw [bn10] at hC
 have GA : GAll ⟨Challenge.rw_uf010016_13.row.prog, w, s₁.heap, mg, mb, C, mN, exOf X10, []⟩ G10 := by
  refine ⟨gv_int (mg_of KX T.g (nA_FOUR_YEARS_dates _)), ?_⟩
  refine ⟨gv_tup (vs := [Value.int 0 362, Value.int 366 363, Value.int 731 364, Value.int 1096 365]) (n := 0) (mg_of KX T.g (nA_BEFORE_YEAR _)) (KX _ _ (nO_BEFORE_YEAR _)) (by decide) (fun _ => (reps_int (reps_int (reps_int (reps_int reps_nil))))), ?_⟩
  refine ⟨gv_tup (vs := [Value.int 31 367, Value.int 28 368, Value.int 31 369, Value.int 30 370, Value.int 31 371, Value.int 30 372, Value.int 31 373, Value.int 31 374, Value.int 30 375, Value.int 31 376, Value.int 30 377, Value.int 31 378]) (n := 0) (mg_of KX T.g (nA_MONTHS _)) (KX _ _ (nO_MONTHS _)) (by decide) (fun _ => (reps_int (reps_int (reps_int (reps_int (reps_int (reps_int (reps_int (reps_int (reps_int (reps_int (reps_int (reps_int reps_nil))))))))))))), ?_⟩
  refine ⟨gv_int (mg_of KX T.g (nA_TIMES _)), ?_⟩
  refine ⟨gv_int (mg_of KX T.g (nA_DAYS _)), ?_⟩
  refine ⟨gv_int (mg_of KX T.g (nA_LONGEST _)), ?_⟩
  refine ⟨gv_int (mg_of KX T.g (nA_MOST_STEP _)), ?_⟩
  refine ⟨gv_int (mg_of KX T.g (nA_DEEPEST _)), ?_⟩
  refine ⟨gv_tup (vs := [Value.str (Str.ofString "from") 430, Value.str (Str.ofString "until") 431, Value.str (Str.ofString "also") 432, Value.str (Str.ofString "but") 433]) (n := 0) (mg_of KX T.g (nA_OUTER _)) (KX _ _ (nO_OUTER _)) (by decide) (fun _ => (reps_str ⟨by decide +kernel, by decide +kernel⟩ (reps_str ⟨by decide +kernel, by decide +kernel⟩ (reps_str ⟨by decide +kernel, by decide +kernel⟩ (reps_str ⟨by decide +kernel, by decide +kernel⟩ reps_nil))))), ?_⟩
  refine ⟨gv_int (mg_of KX T.g (nA_WEEK _)), ?_⟩
  refine ⟨gv_int (mg_of KX T.g (nA_FOUR_YEARS_rounds _)), ?_⟩
  refine ⟨gv_str (mg_of KX T.g (nA_LETTERS _)) ⟨by decide +kernel, by decide +kernel⟩, ?_⟩
  refine ⟨gv_int (mg_of KX T.g (nA_LONGEST_NAME _)), ?_⟩
  refine ⟨gv_int (mg_of KX T.g (nA_MOST_RULES _)), ?_⟩
  refine ⟨gv_int (mg_of KX T.g (nA_MOST_STRETCH _)), ?_⟩
  refine ⟨gv_int (mg_of KX T.g (nA_MOST_WALK _)), ?_⟩
  refine ⟨gv_bi (ns_none_of KX T.g (nZ_isinstance _)) ((T.builtins _ (by decide)).trans rfl), ?_⟩
  refine ⟨gv_bi (ns_none_of KX T.g (nZ_len _)) ((T.builtins _ (by decide)).trans rfl), ?_⟩
  refine ⟨gv_bi (ns_none_of KX T.g (nZ_any _)) ((T.builtins _ (by decide)).trans rfl), ?_⟩
  refine ⟨gv_bi (ns_none_of KX T.g (nZ_max _)) ((T.builtins _ (by decide)).trans rfl), ?_⟩
  refine ⟨gv_bi (ns_none_of KX T.g (nZ_min _)) ((T.builtins _ (by decide)).trans rfl), ?_⟩
  refine ⟨gv_ty (ns_none_of KX T.g (nZ_int _)) ((T.builtins _ (by decide)).trans rfl), ?_⟩
  refine ⟨gv_ty (ns_none_of KX T.g (nZ_bool _)) ((T.builtins _ (by decide)).trans rfl), ?_⟩
  refine ⟨gv_ty (ns_none_of KX T.g (nZ_str _)) ((T.builtins _ (by decide)).trans rfl), ?_⟩
  refine ⟨gv_ty (ns_none_of KX T.g (nZ_tuple _)) ((T.builtins _ (by decide)).trans rfl), ?_⟩
  refine ⟨gv_ty (ns_none_of KX T.g (nZ_list _)) ((T.builtins _ (by decide)).trans rfl), ?_⟩
  refine ⟨gv_ty (ns_none_of KX T.g (nZ_range _)) ((T.builtins _ (by decide)).trans rfl), ?_⟩
  refine ⟨gv_ty (ns_none_of KX T.g (nZ_reversed _)) ((T.builtins _ (by decide)).trans rfl), ?_⟩
  refine ⟨gv_bk hC, ?_⟩
  refine ⟨gv_cls (mg_of KX T.g (nA_HourError _)), ?_⟩
  refine ⟨gv_cls (mg_of KX T.g (nA_NoRule _)), ?_⟩
  refine ⟨gv_cls (mg_of KX T.g (nA_NoName _)), ?_⟩
  refine ⟨gv_cls (mg_of KX T.g (nA_Taken _)), ?_⟩
  refine ⟨gv_cls (mg_of KX T.g (nA_Stranger _)), ?_⟩
  refine ⟨gv_cls (mg_of KX T.g (nA_Twice _)), ?_⟩
  refine ⟨gv_cls (mg_of KX T.g (nA_NoTime _)), ?_⟩
  refine ⟨gv_cls (mg_of KX T.g (nA_NoMeeting _)), ?_⟩
  refine ⟨gv_cls (mg_of KX T.g (nA_Clash _)), ?_⟩
  refine ⟨gv_cls (mg_of KX T.g (nA_TooLong _)), ?_⟩
  refine ⟨gv_fn (by decide +kernel) (mg_of KX T.g (nA_wall _)), ?_⟩
  refine ⟨gv_fn (by decide +kernel) (mg_of KX T.g (nA_is_whole _)), ?_⟩
  refine ⟨gv_fn (by decide +kernel) (mg_of KX T.g (nA_month_length _)), ?_⟩
  refine ⟨gv_fn (by decide +kernel) (mg_of KX T.g (nA_date_of _)), ?_⟩
  refine ⟨gv_fn (by decide +kernel) (mg_of KX T.g (nA_from_end _)), ?_⟩
  refine ⟨gv_fn (by decide +kernel) (mg_of KX T.g (nA_is_between _)), ?_⟩
  refine ⟨gv_fn (by decide +kernel) (mg_of KX T.g (nA_is_time _)), ?_⟩
  refine ⟨gv_fn (by decide +kernel) (mg_of KX T.g (nA_are_rising _)), ?_⟩
  refine ⟨gv_fn (by decide +kernel) (mg_of KX T.g (nA_is_plain _)), ?_⟩
  refine ⟨gv_fn (by decide +kernel) (mg_of KX T.g (nA_is_rule _)), ?_⟩
  refine ⟨gv_fn (by decide +kernel) (mg_of KX T.g (nA_innermost _)), ?_⟩
  refine ⟨gv_fn (by decide +kernel) (mg_of KX T.g (nA_length_of _)), ?_⟩
  refine ⟨gv_fn (by decide +kernel) (mg_of KX T.g (nA_begins_plain _)), ?_⟩
  refine ⟨gv_fn (by decide +kernel) (mg_of KX T.g (nA_begins _)), ?_⟩
  refine ⟨gv_fn (by decide +kernel) (mg_of KX T.g (nA_covers _)), ?_⟩
  refine ⟨gv_fn (by decide +kernel) (mg_of KX T.g (nA_round_of _)), ?_⟩
  refine ⟨gv_fn (by decide +kernel) (mg_of KX T.g (nA_settled_plain _)), ?_⟩
  refine ⟨gv_fn (by decide +kernel) (mg_of KX T.g (nA_settled _)), ?_⟩
  refine ⟨gv_fn (by decide +kernel) (mg_of KX T.g (nA_greatest_common _)), ?_⟩
  refine ⟨gv_fn (by decide +kernel) (mg_of KX T.g (nA_least_common _)), ?_⟩
  refine ⟨gv_fn (by decide +kernel) (mg_of KX T.g (nA_is_name _)), ?_⟩
  refine ⟨gv_fn (by decide +kernel) (mg_of KX T.g (nA_some_covers _)), ?_⟩
  refine ⟨gv_fn (by decide +kernel) (mg_of KX T.g (nA_need_stretch _)), ?_⟩
  refine ⟨gv_fn (by decide +kernel) (mg_of KX T.g (nA_law_cell_at _)), ?_⟩
  refine ⟨gv_fn (by decide +kernel) (mg_of KX T.g (nA_law_whole _)), ?_⟩
  refine ⟨gv_fn (by decide +kernel) (mg_of KX T.g (nA_law_days _)), ?_⟩
  refine ⟨gv_fn (by decide +kernel) (mg_of KX T.g (nA_law_in_month _)), ?_⟩
  refine ⟨gv_fn (by decide +kernel) (mg_of KX T.g (nA_law_plain_begins _)), ?_⟩
  refine ⟨gv_fn (by decide +kernel) (mg_of KX T.g (nA_law_bearing _)), ?_⟩
  refine ⟨gv_fn (by decide +kernel) (mg_of KX T.g (nA_law_heads _)), ?_⟩
  refine ⟨gv_fn (by decide +kernel) (mg_of KX T.g (nA_law_begun _)), ?_⟩
  refine ⟨gv_fn (by decide +kernel) (mg_of KX T.g (nA_law_size _)), ?_⟩
  refine ⟨gv_fn (by decide +kernel) (mg_of KX T.g (nA_law_weekdays _)), ?_⟩
  refine ⟨gv_fn (by decide +kernel) (mg_of KX T.g (nA_law_plain_by _)), ?_⟩
  refine ⟨gv_fn (by decide +kernel) (mg_of KX T.g (nA_law_head_by _)), ?_⟩
  refine ⟨gv_fn (by decide +kernel) (mg_of KX T.g (nA_law_far _)), ?_⟩
  refine ⟨gv_fn (by decide +kernel) (mg_of KX T.g (nA_law_name_by _)), ?_⟩
  refine ⟨gv_fn (by decide +kernel) (mg_of KX T.g (nA_law_lasts _)), ?_⟩
  refine ⟨gv_fn (by decide +kernel) (mg_of KX T.g (nA_law_open _)), ?_⟩
  refine ⟨gv_fn (by decide +kernel) (mg_of KX T.g (nA_law_small_rule _)), ?_⟩
  refine ⟨gv_fn (by decide +kernel) (mg_of KX T.g (nA_law_some_by _)), ?_⟩
  refine ⟨gv_fn (by decide +kernel) (mg_of KX T.g (nA_law_long_rule _)), ?_⟩
  refine ⟨gv_fn (by decide +kernel) (mg_of KX T.g (nA_law_settled _)), ?_⟩
  refine ⟨gv_fn (by decide +kernel) (mg_of KX T.g (nA_law_common _)), ?_⟩
  refine ⟨gv_fn (by decide +kernel) (mg_of KX T.g (nA_law_walk _)), ?_⟩
  refine ⟨gv_fn (by decide +kernel) (mg_of KX T.g (nA_law_all_open _)), ?_⟩
  refine ⟨gv_fn (by decide +kernel) (mg_of KX T.g (nA_law_holds _)), ?_⟩
  refine ⟨gv_fn (by decide +kernel) (mg_of KX T.g (nA_law_cast _)), ?_⟩
  refine ⟨gv_fn (by decide +kernel) (mg_of KX T.g (nA_law_book_of _)), ?_⟩
  refine ⟨gv_fn (by decide +kernel) (mg_of KX T.g (nA_law_asked _)), ?_⟩
  refine ⟨gv_fn (by decide +kernel) (mg_of KX T.g (nA_law_put _)), ?_⟩
  refine ⟨gv_fn (by decide +kernel) (mg_of KX T.g (nA_law_deeds _)), ?_⟩
  exact trivial
 have g : GOk ⟨Challenge.rw_uf010016_13.row.prog, w, s₁.heap, mg, mb, C, mN, exOf X10, []⟩ G10 mts10 := gok (tab := X10) T GA P bc10 KX rfl (xk10 _) xg10
 have o1 : OrcOk _ 1 Φ4 := ext_ok g noΦ_ok (fnOk_of_top T (x := "is_whole") (f := f_is_whole) (by decide +kernel) ck10_is_whole) w_is_whole
 have o2 : OrcOk _ 2 Φ5 := ext_ok g o1 (fnOk_of_top T (x := "is_between") (f := f_is_between) (by decide +kernel) ck10_is_between) w_is_between
 have o3 : OrcOk _ 3 Φ6 := ext_ok g o2 (fnOk_of_top T (x := "is_time") (f := f_is_time) (by decide +kernel) ck10_is_time) w_is_time
 have o4 : OrcOk _ 4 Φ7 := ext_ok g o3 (fnOk_of_top T (x := "are_rising") (f := f_are_rising) (by decide +kernel) ck10_are_rising) w_are_rising
 have o5 : OrcOk _ 5 Φ8 := ext_ok g o4 (fnOk_of_top T (x := "is_plain") (f := f_is_plain) (by decide +kernel) ck10_is_plain) w_is_plain
 have o6 : OrcOk _ 6 Φ9 := ext_ok g o5 (fnOk_of_top T (x := "is_rule") (f := f_is_rule) (by decide +kernel) ck10_is_rule) w_is_rule
 have o7 : OrcOk _ 7 Φa := ext_ok g o6 (fnOk_of_top T (x := "innermost") (f := f_innermost) (by decide +kernel) ck10_innermost) w_innermost
 have o8 : OrcOk _ 8 Φb := ext_ok g o7 (fnOk_of_top T (x := "length_of") (f := f_length_of) (by decide +kernel) ck10_length_of) w_length_of
 have o9 : OrcOk _ 9 Φc := ext_ok g o8 (fnOk_of_top T (x := "begins_plain") (f := f_begins_plain) (by decide +kernel) ck10_begins_plain) w_begins_plain
 have o10 : OrcOk _ 10 Φd := ext_ok g o9 (fnOk_of_top T (x := "begins") (f := f_begins) (by decide +kernel) ck10_begins) w_begins
 have o11 : OrcOk _ 11 Φe := ext_ok g o10 (fnOk_of_top T (x := "covers") (f := f_covers) (by decide +kernel) ck10_covers) w_covers
 have o12 : OrcOk _ 12 Φf := ext_ok g o11 (fnOk_of_top T (x := "some_covers") (f := f_some_covers) (by decide +kernel) ck10_some_covers) w_some_covers
 have o13 : OrcOk _ 13 Φg := ext_ok g o12 (fnOk_of_top T (x := "need_stretch") (f := f_need_stretch) (by decide +kernel) ck10_need_stretch) w_need_stretch
 have o14 : OrcOk _ 14 Φh := ext_ok g o13 (fnOk_of_top T (x := "is_name") (f := f_is_name) (by decide +kernel) ck10_is_name) w_is_name
 have o15 : OrcOk _ 15 Ψ1 := ext_ok g o14 (fnOk_of_cls P ck10_Bneed_somebody) w_need_somebody
 have o16 : OrcOk _ 16 Ψ2 := ext_ok g o15 (fnOk_of_cls P ck10_Bmeets_at) w_meets_at
 have o17 : OrcOk _ 17 Ψ3 := ext_ok g o16 (fnOk_of_cls P ck10_Bfree_at) w_free_at
 have o18 : OrcOk _ 18 Ψ4 := ext_ok g o17 (fnOk_of_cls P ck10_Bneed_all) w_need_all
 have o19 : OrcOk _ 19 Ψ5 := ext_ok g o18 (fnOk_of_cls P ck10_Bbar) w_bar
 have o20 : OrcOk _ 20 Ψ6 := ext_ok g o19 (fnOk_of_cls P ck10_Blook) w_look
 have o21 : OrcOk _ 21 Ψ7 := ext_ok g o20 (fnOk_of_cls P ck10_Bfirst) w_first
 have o22 : OrcOk _ 22 Ψ8 := ext_ok g o21 (fnOk_of_cls P ck10_Bmeetings) w_meetings
 have o23 : OrcOk _ 23 Ψm := ext_ok g o22 (fnOk_of_cls P ck10_Bmeet) w_meet
 have o24 : OrcOk _ 24 Ψ9 := ext_ok g o23 (ini10 ▸ fnOk_of_cls P ck10_Binit) w_init
 have o25 : OrcOk _ 25 Ψa := ext_ok g o24 (fnOk_of_cls P ck10_Bcome) w_come
 have o26 : OrcOk _ 26 Ψb := ext_ok g o25 (fnOk_of_cls P ck10_Bbusy) w_busy
 have o27 : OrcOk _ 27 Ψc := ext_ok g o26 (fnOk_of_cls P ck10_Bplace_of) w_place_of
 have o28 : OrcOk _ 28 Ψd := ext_ok g o27 (fnOk_of_cls P ck10_Bdrop) w_drop
 have o29 : OrcOk _ 29 Ψe := ext_ok g o28 (fnOk_of_cls P ck10_Bmove) w_move
 have o30 : OrcOk _ 30 Ω1 := ext_ok g o29 (fnOk_of_top T (x := "round_of") (f := f_round_of) (by decide +kernel) ck10_round_of) w_round_of
 have o31 : OrcOk _ 31 Ω2 := ext_ok g o30 (fnOk_of_top T (x := "settled_plain") (f := f_settled_plain) (by decide +kernel) ck10_settled_plain) w_settled_plain
 have o32 : OrcOk _ 32 Ω3 := ext_ok g o31 (fnOk_of_top T (x := "settled") (f := f_settled) (by decide +kernel) ck10_settled) w_settled
 have o33 : OrcOk _ 33 Ω4 := ext_ok g o32 (fnOk_of_top T (x := "greatest_common") (f := f_greatest_common) (by decide +kernel) ck10_greatest_common) w_greatest_common
 have o34 : OrcOk _ 34 Ω5 := ext_ok g o33 (fnOk_of_top T (x := "least_common") (f := f_least_common) (by decide +kernel) ck10_least_common) w_least_common
 have o35 : OrcOk _ 35 Ω6 := ext_ok g o34 (fnOk_of_cls P ck10_Brules_of) w_rules_of
 have o36 : OrcOk _ 36 Ω7 := ext_ok g o35 (fnOk_of_cls P ck10_Bquiet_from) w_quiet_from
 have o37 : OrcOk _ 37 Ω8 := ext_ok g o36 (fnOk_of_cls P ck10_Bever) w_ever
 have o38 : OrcOk _ 38 Θ1 := ext_ok g o37 (fnOk_of_top T (x := "_law_cell_at") (f := f_l_cell_at) (by decide +kernel) ck10_law_cell_at) w_cell_at
 have o39 : OrcOk _ 39 Θ2 := ext_ok g o38 (fnOk_of_top T (x := "_law_whole") (f := f_l_whole) (by decide +kernel) ck10_law_whole) w_whole
 have o40 : OrcOk _ 40 Θ3 := ext_ok g o39 (fnOk_of_top T (x := "_law_plain_begins") (f := f_l_plain_begins) (by decide +kernel) ck10_law_plain_begins) w_plain_begins
 have o41 : OrcOk _ 41 Θ4 := ext_ok g o40 (fnOk_of_top T (x := "_law_bearing") (f := f_l_bearing) (by decide +kernel) ck10_law_bearing) w_bearing
 have o42 : OrcOk _ 42 Θ5 := ext_ok g o41 (fnOk_of_top T (x := "_law_heads") (f := f_l_heads) (by decide +kernel) ck10_law_heads) w_heads
 have o43 : OrcOk _ 43 Θ6 := ext_ok g o42 (fnOk_of_top T (x := "_law_begun") (f := f_l_begun) (by decide +kernel) ck10_law_begun) w_begun
 have o44 : OrcOk _ 44 Θ7 := ext_ok g o43 (fnOk_of_top T (x := "_law_size") (f := f_l_size) (by decide +kernel) ck10_law_size) w_size
 have o45 : OrcOk _ 45 Θ8 := ext_ok g o44 (fnOk_of_top T (x := "_law_lasts") (f := f_l_lasts) (by decide +kernel) ck10_law_lasts) w_lasts
 have o46 : OrcOk _ 46 Θ9 := ext_ok g o45 (fnOk_of_top T (x := "_law_open") (f := f_l_open) (by decide +kernel) ck10_law_open) w_open
 have o47 : OrcOk _ 47 Θa := ext_ok g o46 (fnOk_of_top T (x := "_law_all_open") (f := f_l_all_open) (by decide +kernel) ck10_law_all_open) w_all_open
 have o48 : OrcOk _ 48 Θb := ext_ok g o47 (fnOk_of_top T (x := "_law_settled") (f := f_l_settled) (by decide +kernel) ck10_law_settled) w_lsettled
 have o49 : OrcOk _ 49 Θc := ext_ok g o48 (fnOk_of_top T (x := "_law_common") (f := f_l_common) (by decide +kernel) ck10_law_common) w_common
 have o50 : OrcOk _ 50 Θd := ext_ok g o49 (fnOk_of_top T (x := "_law_walk") (f := f_l_walk) (by decide +kernel) ck10_law_walk) w_walk
 have o51 : OrcOk _ 51 Θe := ext_ok g o50 (fnOk_of_top T (x := "_law_holds") (f := f_l_holds) (by decide +kernel) ck10_law_holds) w_holds
 have o52 : OrcOk _ 52 Θf := ext_ok g o51 (fnOk_of_top T (x := "_law_asked") (f := f_l_asked) (by decide +kernel) ck10_law_asked) w_asked
 have o53 : OrcOk _ 53 Θg := ext_ok g o52 (fnOk_of_top T (x := "_law_put") (f := f_l_put) (by decide +kernel) ck10_law_put) w_put
 have o54 : OrcOk _ 54 Θh := ext_ok g o53 (fnOk_of_top T (x := "_law_deeds") (f := f_l_deeds) (by decide +kernel) ck10_law_deeds) w_deeds
 have o55 : OrcOk _ 55 Θi := ext_ok g o54 (fnOk_of_top T (x := "_law_weekdays") (f := f_l_weekdays) (by decide +kernel) ck10_law_weekdays) w_weekdays
 have o56 : OrcOk _ 56 Θj := ext_ok g o55 (fnOk_of_top T (x := "_law_far") (f := f_l_far) (by decide +kernel) ck10_law_far) w_far
 have o57 : OrcOk _ 57 Θk := ext_ok g o56 (fnOk_of_top T (x := "_law_name_by") (f := f_l_name_by) (by decide +kernel) ck10_law_name_by) w_name_by
 have o58 : OrcOk _ 58 Θl := ext_ok g o57 (fnOk_of_top T (x := "_law_small_rule") (f := f_l_small_rule) (by decide +kernel) ck10_law_small_rule) w_small_rule
 have o59 : OrcOk _ 59 Θm := ext_ok g o58 (fnOk_of_top T (x := "_law_long_rule") (f := f_l_long_rule) (by decide +kernel) ck10_law_long_rule) w_long_rule
 have o60 : OrcOk _ 60 Θn := ext_ok g o59 (fnOk_of_top T (x := "_law_some_by") (f := f_l_some_by) (by decide +kernel) ck10_law_some_by) w_some_by
 have o61 : OrcOk _ 61 Θo := ext_ok g o60 (fnOk_of_top T (x := "_law_cast") (f := f_l_cast) (by decide +kernel) ck10_law_cast) w_cast
 have o62 : OrcOk _ 62 Θp := ext_ok g o61 (fnOk_of_top T (x := "_law_book_of") (f := f_l_book_of) (by decide +kernel) ck10_law_book_of) w_book_of
 have o63 : OrcOk _ 63 ΦL10 := ext_ok g o62 (fnOk_of_top T (x := "law") (f := f_law) (by decide +kernel) ck10_law) w_lawT
 exact law_top o63 (caller_ok (by decide) rfl) (by decide +kernel) hmg (by assumption) (by assumption) ⟨_, rfl, by omega, fun _ => rfl⟩ (by omega) hg (fun _ => rfl) (by first | rfl | wrow_post)
