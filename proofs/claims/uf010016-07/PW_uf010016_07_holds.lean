import PyProof.Rows.All
import Wide.All
import OpenK.AllK
import Wide.FinOn
import PySem.Eval
import PyProof.P3Statements
import PyProof.ReprReads
import PyProof.StrBlockL
import PyProof.StrBlock2
import KE.IntText
import PyProof.Cells
import PyProof.Seq
import PyProof.Rows.Nodes
import PyProof.Rows.Chain
import PyProof.Rows.TupSub
import PyProof.Rows.StrTemp
import PyProof.Rows.Exc
import PyProof.CallRoads
import PyProof.SliceSyntax
import PyProof.Rows.Own
import PyProof.RaisesMany
import PyProof.ExcBaseAll.ValueError
import PyProof.StrCalls2
import PyProof.CallStr
import PyProof.StrOps
import PyProof.StrWalks
import PyProof.EnumMake
import PyProof.SliceStr2
import PyProof.StrLawsChain
import PyProof.StrLawsJoin
import PyProof.Rows.StrSplitAre
import PyProof.Rows.StrItems
import KE.KIntText
import PyProof.Rows.RuleB_small
import PyProof.Rows.RuleB_floordiv
import PyProof.Rows.RuleB_mod
import PyProof.Rows.RuleB_mul
import PyProof.Rows.RuleU_int
import PyProof.Rows.RuleN_isinstance
import PyProof.Rows.IntRules
import PyProof.Rows.StrRules
import PyProof.Rows.TupMore
import PyProof.Rows.Lst
import PyProof.ListOps
import PyProof.TupleOps
import PyProof.TupleIter
import PyProof.ListIndexNeg
import PyProof.ListTruth
import PyProof.Truth
import PyProof.Rows.FactsC_int_ge
import PyProof.Rows.FactsC_int_le
import PyProof.NeData
import PyProof.EqAt
import PyProof.ConsumeWalk
import PyProof.TupleOfSeq
import PyProof.WalkInts
import PyProof.ListCopy
import PyProof.Conv_int_bool
import PyProof.PlainList
import PyProof.Rows.RuleC_int
import PyProof.IsRules
import PyProof.P3In
import PyProof.ReprRoads
import PyProof.CallFns
import PyProof.IsiPairs
import PyProof.IsiHeapPairs
import PyProof.IsiNone
import PyProof.ForAppend
import PyProof.IsInstance
import PyProof.ExcArgsOwn
import PyProof.ExcFactsAll.ValueError
import PyProof.SliceList
import KE.KSliceW
import KE.KRevSl
import PyProof.RangeFor
import PyProof.CompFree
import KE.KRevIter
import PyProof.StationsW
import PyProof.Rows.Catch
import OpenK.KCall
import PyProof.ZipIter
import KE.KPairComp
import KE.KItem
import PyProof.RulesAs
import PyProof.NsDelKeeps
import OpenK.KLine
import PyProof.Rows.Top
import PyProof.Rows.TupIn
import Wide.BridgeG
import OpenK.KOwn
import PyProof.StrLawsTight
import PyProof.Rows.StrBin
import PyProof.ReprLen
import KE.IntTextText
import PyProof.StrLawsIdx
import PySem.Challenge.RW_uf010016_07
set_option Elab.async false
set_option linter.unusedVariables false
set_option linter.unusedSimpArgs false
set_option autoImplicit false
namespace Mine
theorem e0_3  {P0 P1 P2 : Prop} {R : Prop} (h : P0 ∧ P1 ∧ P2) (k : P0 → P1 → P2 → R) : R := by obtain ⟨h0, h1, h2⟩ := h; exact k h0 h1 h2
theorem e0_4  {P0 P1 P2 P3 : Prop} {R : Prop} (h : P0 ∧ P1 ∧ P2 ∧ P3) (k : P0 → P1 → P2 → P3 → R) : R := by obtain ⟨h0, h1, h2, h3⟩ := h; exact k h0 h1 h2 h3
theorem e1_2.{u0} {α0 : Sort u0} {P0 P1 : α0 → Prop} {R : Prop} (h : ∃ x0, P0 x0 ∧ P1 x0) (k : ∀ x0, P0 x0 → P1 x0 → R) : R := by obtain ⟨x0, h0, h1⟩ := h; exact k x0 h0 h1
theorem e1_3.{u0} {α0 : Sort u0} {P0 P1 P2 : α0 → Prop} {R : Prop} (h : ∃ x0, P0 x0 ∧ P1 x0 ∧ P2 x0) (k : ∀ x0, P0 x0 → P1 x0 → P2 x0 → R) : R := by obtain ⟨x0, h0, h1, h2⟩ := h; exact k x0 h0 h1 h2
theorem e1_4.{u0} {α0 : Sort u0} {P0 P1 P2 P3 : α0 → Prop} {R : Prop} (h : ∃ x0, P0 x0 ∧ P1 x0 ∧ P2 x0 ∧ P3 x0) (k : ∀ x0, P0 x0 → P1 x0 → P2 x0 → P3 x0 → R) : R := by obtain ⟨x0, h0, h1, h2, h3⟩ := h; exact k x0 h0 h1 h2 h3
theorem e2_1.{u0, u1} {α0 : Sort u0} {α1 : Sort u1} {P0 : α0 → α1 → Prop} {R : Prop} (h : ∃ x0 x1, P0 x0 x1) (k : ∀ x0 x1, P0 x0 x1 → R) : R := by obtain ⟨x0, x1, h0⟩ := h; exact k x0 x1 h0
theorem e2_2.{u0, u1} {α0 : Sort u0} {α1 : Sort u1} {P0 P1 : α0 → α1 → Prop} {R : Prop} (h : ∃ x0 x1, P0 x0 x1 ∧ P1 x0 x1) (k : ∀ x0 x1, P0 x0 x1 → P1 x0 x1 → R) : R := by obtain ⟨x0, x1, h0, h1⟩ := h; exact k x0 x1 h0 h1
theorem e2_3.{u0, u1} {α0 : Sort u0} {α1 : Sort u1} {P0 P1 P2 : α0 → α1 → Prop} {R : Prop} (h : ∃ x0 x1, P0 x0 x1 ∧ P1 x0 x1 ∧ P2 x0 x1) (k : ∀ x0 x1, P0 x0 x1 → P1 x0 x1 → P2 x0 x1 → R) : R := by obtain ⟨x0, x1, h0, h1, h2⟩ := h; exact k x0 x1 h0 h1 h2
theorem e2_4.{u0, u1} {α0 : Sort u0} {α1 : Sort u1} {P0 P1 P2 P3 : α0 → α1 → Prop} {R : Prop} (h : ∃ x0 x1, P0 x0 x1 ∧ P1 x0 x1 ∧ P2 x0 x1 ∧ P3 x0 x1) (k : ∀ x0 x1, P0 x0 x1 → P1 x0 x1 → P2 x0 x1 → P3 x0 x1 → R) : R := by obtain ⟨x0, x1, h0, h1, h2, h3⟩ := h; exact k x0 x1 h0 h1 h2 h3
theorem e3_1.{u0, u1, u2} {α0 : Sort u0} {α1 : Sort u1} {α2 : Sort u2} {P0 : α0 → α1 → α2 → Prop} {R : Prop} (h : ∃ x0 x1 x2, P0 x0 x1 x2) (k : ∀ x0 x1 x2, P0 x0 x1 x2 → R) : R := by obtain ⟨x0, x1, x2, h0⟩ := h; exact k x0 x1 x2 h0
theorem e3_2.{u0, u1, u2} {α0 : Sort u0} {α1 : Sort u1} {α2 : Sort u2} {P0 P1 : α0 → α1 → α2 → Prop} {R : Prop} (h : ∃ x0 x1 x2, P0 x0 x1 x2 ∧ P1 x0 x1 x2) (k : ∀ x0 x1 x2, P0 x0 x1 x2 → P1 x0 x1 x2 → R) : R := by obtain ⟨x0, x1, x2, h0, h1⟩ := h; exact k x0 x1 x2 h0 h1
theorem e3_3.{u0, u1, u2} {α0 : Sort u0} {α1 : Sort u1} {α2 : Sort u2} {P0 P1 P2 : α0 → α1 → α2 → Prop} {R : Prop} (h : ∃ x0 x1 x2, P0 x0 x1 x2 ∧ P1 x0 x1 x2 ∧ P2 x0 x1 x2) (k : ∀ x0 x1 x2, P0 x0 x1 x2 → P1 x0 x1 x2 → P2 x0 x1 x2 → R) : R := by obtain ⟨x0, x1, x2, h0, h1, h2⟩ := h; exact k x0 x1 x2 h0 h1 h2
theorem e3_4.{u0, u1, u2} {α0 : Sort u0} {α1 : Sort u1} {α2 : Sort u2} {P0 P1 P2 P3 : α0 → α1 → α2 → Prop} {R : Prop} (h : ∃ x0 x1 x2, P0 x0 x1 x2 ∧ P1 x0 x1 x2 ∧ P2 x0 x1 x2 ∧ P3 x0 x1 x2) (k : ∀ x0 x1 x2, P0 x0 x1 x2 → P1 x0 x1 x2 → P2 x0 x1 x2 → P3 x0 x1 x2 → R) : R := by obtain ⟨x0, x1, x2, h0, h1, h2, h3⟩ := h; exact k x0 x1 x2 h0 h1 h2 h3
theorem e4_5.{u0, u1, u2, u3} {α0 : Sort u0} {α1 : Sort u1} {α2 : Sort u2} {α3 : Sort u3} {P0 P1 P2 P3 P4 : α0 → α1 → α2 → α3 → Prop} {R : Prop} (h : ∃ x0 x1 x2 x3, P0 x0 x1 x2 x3 ∧ P1 x0 x1 x2 x3 ∧ P2 x0 x1 x2 x3 ∧ P3 x0 x1 x2 x3 ∧ P4 x0 x1 x2 x3) (k : ∀ x0 x1 x2 x3, P0 x0 x1 x2 x3 → P1 x0 x1 x2 x3 → P2 x0 x1 x2 x3 → P3 x0 x1 x2 x3 → P4 x0 x1 x2 x3 → R) : R := by obtain ⟨x0, x1, x2, x3, h0, h1, h2, h3, h4⟩ := h; exact k x0 x1 x2 x3 h0 h1 h2 h3 h4
theorem e5_9.{u0, u1, u2, u3, u4} {α0 : Sort u0} {α1 : Sort u1} {α2 : Sort u2} {α3 : Sort u3} {α4 : Sort u4} {P0 P1 P2 P3 P4 P5 P6 P7 P8 : α0 → α1 → α2 → α3 → α4 → Prop} {R : Prop} (h : ∃ x0 x1 x2 x3 x4, P0 x0 x1 x2 x3 x4 ∧ P1 x0 x1 x2 x3 x4 ∧ P2 x0 x1 x2 x3 x4 ∧ P3 x0 x1 x2 x3 x4 ∧ P4 x0 x1 x2 x3 x4 ∧ P5 x0 x1 x2 x3 x4 ∧ P6 x0 x1 x2 x3 x4 ∧ P7 x0 x1 x2 x3 x4 ∧ P8 x0 x1 x2 x3 x4) (k : ∀ x0 x1 x2 x3 x4, P0 x0 x1 x2 x3 x4 → P1 x0 x1 x2 x3 x4 → P2 x0 x1 x2 x3 x4 → P3 x0 x1 x2 x3 x4 → P4 x0 x1 x2 x3 x4 → P5 x0 x1 x2 x3 x4 → P6 x0 x1 x2 x3 x4 → P7 x0 x1 x2 x3 x4 → P8 x0 x1 x2 x3 x4 → R) : R := by obtain ⟨x0, x1, x2, x3, x4, h0, h1, h2, h3, h4, h5, h6, h7, h8⟩ := h; exact k x0 x1 x2 x3 x4 h0 h1 h2 h3 h4 h5 h6 h7 h8
theorem e7_10.{u0, u1, u2, u3, u4, u5, u6} {α0 : Sort u0} {α1 : Sort u1} {α2 : Sort u2} {α3 : Sort u3} {α4 : Sort u4} {α5 : Sort u5} {α6 : Sort u6} {P0 P1 P2 P3 P4 P5 P6 P7 P8 P9 : α0 → α1 → α2 → α3 → α4 → α5 → α6 → Prop} {R : Prop} (h : ∃ x0 x1 x2 x3 x4 x5 x6, P0 x0 x1 x2 x3 x4 x5 x6 ∧ P1 x0 x1 x2 x3 x4 x5 x6 ∧ P2 x0 x1 x2 x3 x4 x5 x6 ∧ P3 x0 x1 x2 x3 x4 x5 x6 ∧ P4 x0 x1 x2 x3 x4 x5 x6 ∧ P5 x0 x1 x2 x3 x4 x5 x6 ∧ P6 x0 x1 x2 x3 x4 x5 x6 ∧ P7 x0 x1 x2 x3 x4 x5 x6 ∧ P8 x0 x1 x2 x3 x4 x5 x6 ∧ P9 x0 x1 x2 x3 x4 x5 x6) (k : ∀ x0 x1 x2 x3 x4 x5 x6, P0 x0 x1 x2 x3 x4 x5 x6 → P1 x0 x1 x2 x3 x4 x5 x6 → P2 x0 x1 x2 x3 x4 x5 x6 → P3 x0 x1 x2 x3 x4 x5 x6 → P4 x0 x1 x2 x3 x4 x5 x6 → P5 x0 x1 x2 x3 x4 x5 x6 → P6 x0 x1 x2 x3 x4 x5 x6 → P7 x0 x1 x2 x3 x4 x5 x6 → P8 x0 x1 x2 x3 x4 x5 x6 → P9 x0 x1 x2 x3 x4 x5 x6 → R) : R := by obtain ⟨x0, x1, x2, x3, x4, x5, x6, h0, h1, h2, h3, h4, h5, h6, h7, h8, h9⟩ := h; exact k x0 x1 x2 x3 x4 x5 x6 h0 h1 h2 h3 h4 h5 h6 h7 h8 h9
end Mine

set_option genSizeOf false
set_option genSizeOfSpec false
set_option genInjectivity false
set_option bootstrap.genMatcherCode false
/- The abstract layer: values, heaps, a small tree language, its weakest preconditions. -/
namespace Mine
open PySem

inductive Ty where
  | int | bool | str | tuple | list | range | reversed | zip | valueError

noncomputable def Ty.name : Ty → String
  | .int => "int" | .bool => "bool" | .str => "str" | .tuple => "tuple" | .list => "list" | .range => "range" | .reversed => "reversed" | .zip => "zip" | .valueError => "ValueError"
inductive Bi where
  | len | isinstance | all | repr

noncomputable def Bi.name : Bi → String
  | .len => "len" | .isinstance => "isinstance" | .all => "all" | .repr => "repr"
inductive Mt where
  | append

noncomputable def Mt.name : Mt → Str
  | .append => "append"

inductive V where
  | none
  | bool (b : Bool)
  | int (i : Int)
  | str (s : Str)
  | opq (s : Str)
  | tup (l : List V)
  | ref (i : Nat)
  | fn (x : Str)
  | ty (n : Ty)
  | bi (n : Bi)
  | scr (ns : List Int)
  | cls (x : Str) (ups : List Str)


inductive O where
  | list (xs : List V)

noncomputable abbrev Hp := List O
noncomputable abbrev Lc := List (Option V)
structure Exc where
  cls : Str
  ups : List Str

inductive SrcK where
  | val | range | rev

inductive IE where
  | lit (v : V)
  | loc (i : Nat)
  | bin (op : Operator) (a b : IE)
  | neg (a : IE)
  | not (a : IE)
  | and (a b : IE)
  | or (a b : IE)
  | cmp (a : IE) (op : CmpOp) (b : IE)
  | cmp2 (a : IE) (op : CmpOp) (b : IE) (op' : CmpOp) (c : IE)
  | ite (t a b : IE)
  | tup (es : List IE)
  | lst (es : List IE)
  | call (f : V) (args : List IE)
  | meth (o : IE) (name : Mt) (args : List IE)
  | sub (o i : IE)
  | slice (o : IE) (lo hi : Option IE)
  | comp (elt : IE) (var : Nat) (k : SrcK) (src : IE)
  | zlt (es : List IE)
  | excIs (y : Str)
  | strm (o : IE) (j : Bool) (a : IE)

inductive IS where
  | expr (e : IE)
  | assign (i : Nat) (e : IE)
  | setItem (o k v : IE)
  | ret (e : IE)
  | ite (t : IE) (a b : List IS)
  | while (t : IE) (b : List IS)
  | for (var : Nat) (k : SrcK) (src : IE) (b : List IS)
  | raise (x : Str) (ups : List Str)
  | tryR (b : List IS) (y : Str) (nm : Option Nat) (e : IE)

inductive Fl where
  | next
  | ret (v : V)

theorem bnot : ∀ {b : Bool}, (!b) = true → b = false
  | false, _ => rfl
theorem no_some {α : Type} {b : α} {P : Prop} (h : none = some b) : P := nomatch h
/- pure helpers -/
noncomputable def idx {α : Type} (l : List α) (k : Int) : Option α :=
  if 0 ≤ k then l[k.toNat]? else if 0 ≤ k + (l.length : Int) then l[(k + (l.length : Int)).toNat]? else none

noncomputable def idxP {α : Type} (l : List α) (k : Int) : Option α := if 0 ≤ k then l[k.toNat]? else none
theorem idxP_some {α : Type} {l : List α} {k : Int} {v : α} (h : idxP l k = some v) : 0 ≤ k ∧ l[k.toNat]? = some v := by
  unfold idxP at h
  by_cases hk : 0 ≤ k
  · rw [if_pos hk] at h; exact ⟨hk, h⟩
  · rw [if_neg hk] at h; exact no_some h
noncomputable def dropS : Nat → List V → Option (List V)
  | 0, l => some l
  | n + 1, l => match l with
    | [] => none
    | _ :: r => dropS n r
/- the list behind a slice [k:] with k > 0 that it reaches -/
noncomputable def cutN (lo hi : V) : Nat := match hi with
  | .none => (match lo with
    | .int k => k.toNat
    | _ => 0)
  | _ => 0
noncomputable def cutL (lo hi : V) (l : List V) : Option (List V) := match cutN lo hi with
  | 0 => none
  | n + 1 => dropS (n + 1) l

mutual
noncomputable def toPy : V → Option PyData
  | .none => some .none
  | .bool b => some (.bool b)
  | .int i => some (.int i)
  | .str x => some (.str x)
  | .tup l => (toPys l).map .tuple
  | _ => none
noncomputable def toPys : List V → Option (List PyData)
  | [] => some []
  | v :: r => (toPy v).bind fun d => (toPys r).map (d :: ·)
end

noncomputable def listAt (H : Hp) (i : Nat) : Option (List V) := match H[i]? with
  | some (.list xs) => some xs
  | _ => none

noncomputable def toPyH (H : Hp) : V → Option PyData
  | .ref i => ((listAt H i).bind toPys).map .list
  | v => toPy v

mutual
noncomputable def toPyT (H : Hp) : V → Option PyData
  | .none => some .none
  | .bool b => some (.bool b)
  | .int i => some (.int i)
  | .str x => some (.str x)
  | .ref i => ((listAt H i).bind toPys).map .list
  | .tup l => (toPysT H l).map .tuple
  | _ => none
noncomputable def toPysT (H : Hp) : List V → Option (List PyData)
  | [] => some []
  | v :: r => (toPyT H v).bind fun d => (toPysT H r).map (d :: ·)
end

noncomputable def eqH (H : Hp) (a b : V) : Option Bool :=
  (toPyH H a).bind fun d => (toPyH H b).bind fun e => if d.depth ≤ 60 then some (PyData.eqv d e) else none

noncomputable def memV (x : V) (l : List V) : Option Bool :=
  (toPy x).bind fun d => (toPys l).bind fun ds => if d.depth ≤ 60 then some (ds.any fun e => PyData.eqv e d) else none

/- what is worked out by unfolding -/
noncomputable def oK {α : Type} (t : Option α) (P : α → Prop) : Prop := match t with | some v => P v | none => False
theorem oK_elim {α : Type} {t : Option α} {P : α → Prop} (h : oK t P) : ∃ v, t = some v ∧ P v := by cases t with | some v => exact ⟨v, rfl, h⟩ | none => exact h.elim
noncomputable def oKK {α : Type} (t : Option (Option α)) (P : α → Prop) : Prop := match t with | some (some v) => P v | _ => False
theorem oKK_elim {α : Type} {t : Option (Option α)} {P : α → Prop} (h : oKK t P) : ∃ v, t = some (some v) ∧ P v := by
  cases t with
  | none => exact h.elim
  | some u => cases u with | some v => exact ⟨v, rfl, h⟩ | none => exact h.elim
noncomputable def tX (v : V) (P : Bool → Prop) : Prop := match v with | .bool b => P b | _ => False
theorem tX_elim {v : V} {P : Bool → Prop} (h : tX v P) : ∃ c, v = .bool c ∧ P c := by
  cases v with
  | bool b => exact ⟨b, rfl, h⟩
  | _ => exact h.elim

/- primitive operations as transformers -/
noncomputable def intV : V → Option Int
  | .int i => some i
  | _ => none
theorem intV_some {v : V} {i : Int} (h : intV v = some i) : v = .int i := by
  cases v with
  | int _ => exact congrArg V.int (Option.some.inj h)
  | _ => exact no_some h
noncomputable def refV : V → Option Nat
  | .ref i => some i
  | _ => none
theorem refV_some {v : V} {i : Nat} (h : refV v = some i) : v = .ref i := by
  cases v with
  | ref _ => exact congrArg V.ref (Option.some.inj h)
  | _ => exact no_some h
noncomputable def tupV : V → Option (List V)
  | .tup l => some l
  | _ => none
theorem tupV_some {v : V} {l : List V} (h : tupV v = some l) : v = .tup l := by
  cases v with
  | tup _ => exact congrArg V.tup (Option.some.inj h)
  | _ => exact no_some h
noncomputable def strV : V → Option Str
  | .str x => some x
  | _ => none
theorem strV_some {v : V} {x : Str} (h : strV v = some x) : v = .str x := by
  cases v with
  | str _ => exact congrArg V.str (Option.some.inj h)
  | _ => exact no_some h
noncomputable def pAdd (a b : V) (H : Hp) (Q : V → Hp → Prop) : Prop := match a with
  | .int i => oK (intV b) fun j => Q (.int (i + j)) H
  | .str x => oK (strV b) fun y => x.length + y.length ≤ 1000000 ∧ Q (.str (x ++ y)) H
  | .ref i => oK (refV b) fun j => oK (listAt H i) fun xs => oK (listAt H j) fun ys => xs.length + ys.length ≤ 1000000 ∧ Q (.ref H.length) (H ++ [.list (xs ++ ys)])
  | _ => False
noncomputable def pInt (a b : V) (P : Int → Int → Prop) : Prop := oK (intV a) fun i => oK (intV b) fun j => P i j
theorem pInt_elim {a b : V} {P : Int → Int → Prop} (h : pInt a b P) : ∃ i j, a = .int i ∧ b = .int j ∧ P i j := by
  first | refine e2_1 (oK_elim h) fun i h1 h => ?_ | refine e1_2 (oK_elim h) fun i h1 h => ?_ | refine e0_3 (oK_elim h) fun i h1 h => ?_ | obtain ⟨i, h1, h⟩ := oK_elim h
  first | refine e2_1 (oK_elim h) fun j h2 h => ?_ | refine e1_2 (oK_elim h) fun j h2 h => ?_ | refine e0_3 (oK_elim h) fun j h2 h => ?_ | obtain ⟨j, h2, h⟩ := oK_elim h
  exact ⟨i, j, intV_some h1, intV_some h2, h⟩
noncomputable def pBin (op : Operator) (a b : V) (H : Hp) (Q : V → Hp → Prop) : Prop :=
  match op with
  | .Add => pAdd a b H Q
  | .Sub => pInt a b fun i j => Q (.int (i - j)) H
  | .Mult => pInt a b fun i j => ((-(2 ^ 64) < i ∧ i < 2 ^ 64) ∨ (-(2 ^ 64) < j ∧ j < 2 ^ 64)) ∧ Q (.int (i * j)) H
  | .FloorDiv => pInt a b fun i j => (0 < j ∧ j < 2 ^ 128) ∧ Q (.int (i / j)) H
  | .Mod => pInt a b fun i j => (0 < j ∧ j < 2 ^ 128) ∧ Q (.int (i % j)) H
  | .Pow => pInt a b fun i j => (0 ≤ j ∧ j ≤ 1000000 ∧ i.natAbs < 2 ^ 64) ∧ Q (.int (i ^ j.toNat)) H
  | _ => False

noncomputable def strsOf : List V → Option (List Str)
  | [] => some []
  | v :: r => (strV v).bind fun y => (strsOf r).map (y :: ·)
/- equality of what is looked at by its kind, of the rest by what it is as data -/
noncomputable def eqK (H : Hp) (a b : V) : Option Bool := match a with
  | .opq x => (match b with
    | .opq y => some (x == y)
    | _ => none)
  | a => eqH H a b
theorem eqK_some {H : Hp} {a b : V} {c : Bool} (h : eqK H a b = some c) : (∃ x y, a = .opq x ∧ b = .opq y ∧ c = (x == y)) ∨ eqH H a b = some c := by
  cases a with
  | opq x => cases b with
    | opq y => exact .inl ⟨x, y, rfl, rfl, (Option.some.inj h).symm⟩
    | _ => exact no_some h
  | _ => exact .inr h
noncomputable def pIn (a b : V) (H : Hp) (P : Bool → Prop) : Prop := match b with
  | .str x => oK (strV a) fun y => P (Txt.contains x y)
  | .tup l => oK (memV a l) P
  | .ref i => oK (listAt H i) fun l => oK (memV a l) P
  | _ => False
noncomputable def pCmp (op : CmpOp) (a b : V) (H : Hp) (Q : V → Hp → Prop) : Prop :=
  match op with
  | .Eq => oK (eqK H a b) fun c => Q (.bool c) H
  | .NotEq => oK (eqH H a b) fun c => Q (.bool (!c)) H
  | .Lt => pInt a b fun i j => Q (.bool (decide (i < j))) H
  | .LtE => pInt a b fun i j => Q (.bool (decide (i ≤ j))) H
  | .Gt => pInt a b fun i j => Q (.bool (decide (j < i))) H
  | .GtE => pInt a b fun i j => Q (.bool (decide (j ≤ i))) H
  | .In => pIn a b H fun c => Q (.bool c) H
  | .NotIn => pIn a b H fun c => Q (.bool (!c)) H
  | _ => False

noncomputable def pSub (o i : V) (H : Hp) (Q : V → Hp → Prop) : Prop :=
  match i with
  | .int k => (match o with
    | .tup l => oK (idx l k) fun v => Q v H
    | .ref j => oK (listAt H j) fun l => oK (idxP l k) fun v => Q v H
    | .scr ns => oK (idxP ns k) fun v => Q (.int v) H
    | .str x => oK (idxP x.cps.toList k) fun c => Q (.str ⟨#[c]⟩) H
    | _ => False)
  | _ => False

noncomputable def optInt : V → Option (Option Int)
  | .none => some .none
  | .int i => some (.some i)
  | _ => .none

noncomputable def pSlice (o lo hi : V) (H : Hp) (Q : V → Hp → Prop) : Prop :=
  match o with
  | .ref i => oK (listAt H i) fun xs => oK (cutL lo hi xs) fun ys => Q (.ref H.length) (H ++ [.list ys])
  | .tup xs => oK (cutL lo hi xs) fun ys => Q (.tup ys) H
  | .str x => oK (optInt lo) fun l => oK (optInt hi) fun h => Q (.str (Txt.slice x l h)) H
  | _ => False

noncomputable def pSet (o k v : V) (H : Hp) (Q : Hp → Prop) : Prop :=
  match o with
  | .ref i => (match k with
    | .int j => oK (listAt H i) fun l => (0 ≤ j ∧ j < (l.length : Int)) ∧ Q (H.set i (.list (l.set j.toNat v)))
    | _ => False)
  | _ => False

noncomputable def tyOf (H : Hp) : V → Option Ty
  | .bool _ => some .bool
  | .int _ => some .int
  | .str _ => some .str
  | .tup _ => some .tuple
  | .ref i => (listAt H i).map fun _ => .list
  | _ => none

noncomputable def subTy (a b : Ty) : Bool := match b with
  | .int => (match a with
    | .int => true
    | .bool => true
    | _ => false)
  | .bool => (match a with
    | .bool => true
    | _ => false)
  | .str => (match a with
    | .str => true
    | _ => false)
  | .tuple => (match a with
    | .tuple => true
    | _ => false)
  | _ => false
noncomputable def isiTy : Ty → Bool
  | .int => true
  | .bool => true
  | .str => true
  | .tuple => true
  | _ => false
noncomputable def isInstH (H : Hp) (v : V) (n : Ty) : Option Bool := match isiTy n with
  | true => (match v with
    | .none => some false
    | v => (tyOf H v).map fun t => subTy t n)
  | false => none

noncomputable def boolV : V → Option Bool
  | .bool b => some b
  | _ => none
noncomputable def allBools : List V → Option (List Bool)
  | [] => some []
  | v :: r => (boolV v).bind fun b => (allBools r).map (b :: ·)

noncomputable abbrev Orc := Str → List V → Hp → (V → Hp → Prop) → (Exc → Hp → Prop) → Prop

noncomputable def on1P {α : Type} (l : List α) (P : α → Prop) : Prop := match l with
  | [] => False
  | a :: r => (match r with
    | [] => P a
    | _ :: _ => False)
theorem on1P_elim {α : Type} {l : List α} {P : α → Prop} (h : on1P l P) : ∃ a, l = [a] ∧ P a := by
  cases l with
  | nil => exact h.elim
  | cons a r => cases r with
    | nil => exact ⟨a, rfl, h⟩
    | cons _ _ => exact h.elim
noncomputable def on2P {α : Type} (l : List α) (P : α → α → Prop) : Prop := match l with
  | [] => False
  | a :: r => on1P r (P a)
theorem on2P_elim {α : Type} {l : List α} {P : α → α → Prop} (h : on2P l P) : ∃ a b, l = [a, b] ∧ P a b := by
  cases l with
  | nil => exact h.elim
  | cons a r =>
    first | refine e2_1 (on1P_elim h) fun b e_1 h => ?_ | refine e1_2 (on1P_elim h) fun b e_1 h => ?_ | refine e0_3 (on1P_elim h) fun b e_1 h => ?_ | obtain ⟨b, e_1, h⟩ := on1P_elim h
    obtain rfl := e_1
    exact ⟨a, b, rfl, h⟩
noncomputable def tyV : V → Option Ty
  | .ty t => some t
  | _ => none
theorem tyV_some {v : V} {t : Ty} (h : tyV v = some t) : v = .ty t := by
  cases v with
  | ty _ => exact congrArg V.ty (Option.some.inj h)
  | _ => exact no_some h
noncomputable def pLen (v : V) (H : Hp) (Q : V → Hp → Prop) : Prop := match v with
  | .tup l => Q (.int (l.length : Int)) H
  | .ref i => oK (listAt H i) fun l => Q (.int (l.length : Int)) H
  | .scr ns => Q (.int (ns.length : Int)) H
  | .str x => Q (.int (x.length : Int)) H
  | _ => False
noncomputable def pBi (b : Bi) (args : List V) (H : Hp) (Q : V → Hp → Prop) : Prop :=
  match b with
  | .len => on1P args fun v => pLen v H Q
  | .isinstance => on2P args fun v w => oK (tyV w) fun t => oK (isInstH H v t) fun c => Q (.bool c) H
  | .all => on1P args fun v => oK (refV v) fun i => oK (listAt H i) fun l => oK (allBools l) fun bs => Q (.bool (bs.all id)) H
  | .repr => on1P args fun v => oK (toPyT H v) fun d => (d.showable = true ∧ d.depth ≤ 60 ∧ d.shown.length ≤ 1000000) ∧ Q (.opq d.shown) H
noncomputable def pTy1 (b : Ty) (v : V) (H : Hp) (Q : V → Hp → Prop) : Prop := match b with
  | .int => (match v with
    | .bool b => Q (.int (if b then 1 else 0)) H
    | .str x => oK (intText? x) fun n => x.length ≤ 640 ∧ Q (.int n) H
    | _ => False)
  | .str => (match v with
    | .int i => (i.natAbs < 2 ^ 64 ∧ (Str.ofString (toString i)).length ≤ 1000000) ∧ Q (.str (Str.ofString (toString i))) H
    | .str x => Q (.str x) H
    | _ => False)
  | .tuple => oK (refV v) fun i => oK (listAt H i) fun l => Q (.tup l) H
  | .list => oK (tupV v) fun l => Q (.ref H.length) (H ++ [.list l])
  | _ => False
noncomputable def pTy (b : Ty) (args : List V) (H : Hp) (Q : V → Hp → Prop) : Prop := on1P args fun v => pTy1 b v H Q
noncomputable def pCall (Φ : Orc) (f : V) (args : List V) (H : Hp) (Q : V → Hp → Prop) (X : Exc → Hp → Prop) : Prop :=
  match f with
  | .fn x => Φ x args H Q X
  | .bi b => pBi b args H Q
  | .ty t => pTy t args H Q
  | _ => False

noncomputable def pStrm (j : Bool) (x : Str) (a : V) (H : Hp) (Q : V → Hp → Prop) : Prop := match j with
  | true => (match a with
    | .ref i => oK (listAt H i) fun l => oK (strsOf l) fun ys => (ys.map (·.length)).sum + ys.length * x.length ≤ 1000000 ∧ Q (.str (Str.join x ys)) H
    | _ => False)
  | false => oK (strV a) fun y => ((y.length == 0) = false ∧ x.length ≤ 1000000) ∧ Q (.ref H.length) (H ++ [.list ((Txt.split x y).map .str)])
noncomputable def okMeth (H : Hp) (o : V) : Prop := match o with
  | .ref i => ∃ l, listAt H i = some l
  | _ => False

noncomputable def pMeth (o : V) (name : Mt) (args : List V) (H : Hp) (Q : V → Hp → Prop) : Prop :=
  oK (refV o) fun i => oK (listAt H i) fun l => (match name with
  | .append => on1P args fun v => l.length ≤ 1000000 ∧ Q .none (H.set i (.list (l ++ [v]))))

/- what is iterated over -/
noncomputable def rangeL (a b : Int) : List V := (List.range (b - a).toNat).map fun (k : Nat) => V.int (a + (k : Int))
noncomputable def pVal (v : V) (H : Hp) (Q : List V → (Hp → Prop) → Prop) : Prop := match v with
  | .tup l => Q l (fun _ => True)
  | .str x => x.cps.all (· < 128) = true ∧ Q (x.cps.toList.map fun c => V.str ⟨#[c]⟩) (fun _ => True)
  | .ref i => oK (listAt H i) fun l => Q l (fun H' => listAt H' i = some l)
  | _ => False
noncomputable def pSrc (k : SrcK) (v : V) (H : Hp) (Q : List V → (Hp → Prop) → Prop) : Prop :=
  match k with
  | .val => pVal v H Q
  | .range => oK (intV v) fun a => (-(2 ^ 62) ≤ a ∧ a ≤ 1000000) ∧ Q (rangeL 0 a) (fun _ => True)
  | .rev => oK (refV v) fun i => oK (listAt H i) fun l => Q l.reverse (fun H' => listAt H' i = some l)
/- [x < y for x, y in zip(a, b)] -/
noncomputable def intsOf : List V → Option (List Int)
  | [] => some []
  | v :: r => (intV v).bind fun i => (intsOf r).map (i :: ·)
noncomputable abbrev ltL (is js : List Int) : List Bool := List.zipWith (fun a b => decide (a < b)) is js
noncomputable def pZlt (vs : List V) (H : Hp) (Q : V → Hp → Prop) : Prop := on2P vs fun v w => oK (tupV v) fun xs => oK (tupV w) fun ys => oK (intsOf xs) fun is => oK (intsOf ys) fun js => Q (.ref H.length) (H ++ [.list ((ltL is js).map .bool)])

noncomputable abbrev XL := Exc → Hp → Prop
noncomputable def ifP (c : Bool) (A B : Prop) : Prop := match c with | true => A | false => B

noncomputable def compGo (el : Lc → Hp → (V → Hp → Prop) → Prop) (st : Hp → Prop) (j : Nat) (L : Lc) : List V → List V → Hp → (List V → Hp → Prop) → Prop
  | [], acc, H, Q => Q acc H
  | x :: r, acc, H, Q => el (L.set j (some x)) H (fun y H2 => st H2 ∧ compGo el st j L r (acc ++ [y]) H2 Q)

noncomputable abbrev noX : XL := fun _ _ => False
noncomputable abbrev noXS : Exc → Lc → Hp → Prop := fun _ _ _ => False
structure ET where
  E : Lc → Hp → (V → Hp → Prop) → XL → Prop
  T : Lc → Hp → (Bool → Hp → Prop) → XL → Prop

noncomputable def ET.of (E : Lc → Hp → (V → Hp → Prop) → XL → Prop) : ET :=
  ⟨E, fun L H Q X => E L H (fun v H1 => tX v fun c => Q c H1) X⟩

mutual
noncomputable def wp2 (Φ : Orc) : IE → ET
  | .lit v => .of fun _ H Q _ => Q v H
  | .loc i => .of fun L H Q _ => oKK L[i]? fun v => Q v H
  | .bin op a b => .of fun L H Q X => (wp2 Φ a).E L H (fun va H1 => (wp2 Φ b).E L H1 (fun vb H2 => pBin op va vb H2 Q) X) X
  | .neg a => .of fun L H Q X => (wp2 Φ a).E L H (fun v H1 => oK (intV v) fun i => Q (.int (-i)) H1) X
  | .not a => ⟨fun L H Q X => (wp2 Φ a).E L H (fun v H1 => tX v fun c => Q (.bool (!c)) H1) X,
      fun L H Q X => (wp2 Φ a).T L H (fun c H1 => Q (!c) H1) X⟩
  | .and a b => ⟨fun L H Q X => (wp2 Φ a).E L H (fun v H1 => tX v fun c => ifP c ((wp2 Φ b).E L H1 Q X) (Q v H1)) X,
      fun L H Q X => (wp2 Φ a).T L H (fun c H1 => ifP c ((wp2 Φ b).T L H1 Q X) (Q false H1)) X⟩
  | .or a b => ⟨fun L H Q X => (wp2 Φ a).E L H (fun v H1 => tX v fun c => ifP c (Q v H1) ((wp2 Φ b).E L H1 Q X)) X,
      fun L H Q X => (wp2 Φ a).T L H (fun c H1 => ifP c (Q true H1) ((wp2 Φ b).T L H1 Q X)) X⟩
  | .cmp a op b => .of fun L H Q X => (wp2 Φ a).E L H (fun va H1 => (wp2 Φ b).E L H1 (fun vb H2 => pCmp op va vb H2 Q) X) X
  | .cmp2 a op b op' c => .of fun L H Q X => (wp2 Φ a).E L H (fun va H1 => (wp2 Φ b).E L H1 (fun vb H2 => pCmp op va vb H2 (fun r H3 =>
      tX r fun t => ifP t ((wp2 Φ c).E L H3 (fun vc H4 => pCmp op' vb vc H4 Q) X) (Q r H3))) X) X
  | .ite t a b => ⟨fun L H Q X => (wp2 Φ t).T L H (fun c H1 => ifP c ((wp2 Φ a).E L H1 Q X) ((wp2 Φ b).E L H1 Q X)) X,
      fun L H Q X => (wp2 Φ t).T L H (fun c H1 => ifP c ((wp2 Φ a).T L H1 Q X) ((wp2 Φ b).T L H1 Q X)) X⟩
  | .tup es => .of fun L H Q X => wpEs Φ es L H (fun vs H1 => vs.length ≤ 1000000 ∧ Q (.tup vs) H1) X
  | .lst es => .of fun L H Q X => wpEs Φ es L H (fun vs H1 => vs.length ≤ 1000000 ∧ Q (.ref H1.length) (H1 ++ [.list vs])) X
  | .call f args => .of fun L H Q X => wpEs Φ args L H (fun vs H1 => pCall Φ f vs H1 Q X) X
  | .meth o name args => .of fun L H Q X => (wp2 Φ o).E L H (fun vo H1 => okMeth H1 vo ∧ wpEs Φ args L H1 (fun vs H2 => pMeth vo name vs H2 Q) X) X
  | .sub o i => .of fun L H Q X => (wp2 Φ o).E L H (fun vo H1 => (wp2 Φ i).E L H1 (fun vi H2 => pSub vo vi H2 Q) X) X
  | .slice o lo hi => .of fun L H Q X => (wp2 Φ o).E L H (fun vo H1 => wpO Φ lo L H1 (fun vl H2 => wpO Φ hi L H2 (fun vh H3 => pSlice vo vl vh H3 Q) X) X) X
  | .comp elt j k src => .of fun L H Q X => (wp2 Φ src).E L H (fun v H1 => pSrc k v H1 fun items st =>
      compGo (fun L' H' K => (wp2 Φ elt).E L' H' K X) st j L items [] H1
        (fun ys H2 => ys.length ≤ 1000000 ∧ Q (.ref H2.length) (H2 ++ [.list ys]))) X
  | .zlt es => .of fun L H Q X => wpEs Φ es L H (fun vs H1 => pZlt vs H1 Q) X
  | .excIs _ => .of fun _ _ _ _ => False
  | .strm o j a => .of fun L H Q X => (wp2 Φ o).E L H (fun vo H1 => oK (strV vo) fun x => (wp2 Φ a).E L H1 (fun va H2 => pStrm j x va H2 Q) X) X
noncomputable def wpEs (Φ : Orc) : List IE → Lc → Hp → (List V → Hp → Prop) → XL → Prop
  | [], _, H, Q, _ => Q [] H
  | e :: r, L, H, Q, X => (wp2 Φ e).E L H (fun v H1 => wpEs Φ r L H1 (fun vs H2 => Q (v :: vs) H2) X) X
noncomputable def wpO (Φ : Orc) : Option IE → Lc → Hp → (V → Hp → Prop) → XL → Prop
  | none, _, H, Q, _ => Q .none H
  | some e, L, H, Q, X => (wp2 Φ e).E L H Q X
end

noncomputable abbrev QS := Fl → Lc → Hp → Prop
noncomputable abbrev XS := Exc → Lc → Hp → Prop

noncomputable def nxt (go : Lc → Hp → Prop) (Q : QS) : QS := fun fl L1 H1 => match fl with
  | .next => go L1 H1
  | .ret v => Q (.ret v) L1 H1
noncomputable def forGo (body : Lc → Hp → QS → Prop) (st : Hp → Prop) (j : Nat) : List V → Lc → Hp → QS → Prop
  | [], L, H, Q => Q .next L H
  | x :: r, L, H, Q => body (L.set j (some x)) H (nxt (fun L1 H1 => st H1 ∧ forGo body st j r L1 H1 Q) Q)
noncomputable def whileGo (test : Lc → Hp → (Bool → Hp → Prop) → Prop) (body : Lc → Hp → QS → Prop) : Nat → Lc → Hp → QS → Prop
  | 0, _, _, _ => False
  | n + 1, L, H, Q => test L H (fun c H1 => ifP c (body L H1 (nxt (fun L1 H2 => whileGo test body n L1 H2 Q) Q)) (Q .next L H1))

/- an expression of a handler, the exception known -/
theorem evB_some {o : Option V} {b : Bool} (h : o.bind boolV = some b) : o = some (.bool b) := by
  cases o with
  | none => exact no_some h
  | some v => cases v with
    | bool _ => exact congrArg (fun b => some (V.bool b)) (Option.some.inj h)
    | _ => exact no_some h
theorem evI_some {o : Option V} {i : Int} (h : o.bind intV = some i) : o = some (.int i) := by
  cases o with
  | none => exact no_some h
  | some v => rw [intV_some h]
noncomputable def cmpRV (op : CmpOp) (i j : Int) : Option V := match op with
  | .Eq => some (.bool (decide (i = j)))
  | _ => none
noncomputable def binRV (op : Operator) (i j : Int) : Option V := match op with
  | .Mod => if 0 < j ∧ j < 2 ^ 128 then some (.int (i % j)) else none
  | _ => none
noncomputable def evR (x : Exc) (L : Lc) : IE → Option V
  | .lit v => some v
  | .loc i => L[i]?.bind id
  | .excIs y => some (.bool (x.ups.contains y))
  | .or a b => ((evR x L a).bind boolV).bind fun p => (match p with | true => some (.bool true) | false => evR x L b)
  | .cmp a op b => ((evR x L a).bind intV).bind fun i => ((evR x L b).bind intV).bind fun j => cmpRV op i j
  | .bin op a b => ((evR x L a).bind intV).bind fun i => ((evR x L b).bind intV).bind fun j => binRV op i j
  | _ => none
noncomputable def unL (n : Option Nat) (L : Lc) : Lc := match n with | some i => L.set i none | none => L
noncomputable def hndl (y : Str) (nm : Option Nat) (e : IE) (x : Exc) (L : Lc) (H : Hp) (Q : QS) : Prop := x.ups.contains y = true ∧ oK (evR x (unL nm L) e) fun v => Q (.ret v) (unL nm L) H
mutual
noncomputable def wpS (Φ : Orc) : IS → Lc → Hp → QS → XS → Prop
  | .expr e, L, H, Q, X => (wp2 Φ e).E L H (fun _ H1 => Q .next L H1) (fun x => X x L)
  | .assign i e, L, H, Q, X => (wp2 Φ e).E L H (fun v H1 => Q .next (L.set i (some v)) H1) (fun x => X x L)
  | .setItem o k v, L, H, Q, X => (wp2 Φ v).E L H (fun vv H1 => (wp2 Φ o).E L H1 (fun vo H2 => (wp2 Φ k).E L H2 (fun vk H3 => pSet vo vk vv H3 (Q .next L)) (fun x => X x L)) (fun x => X x L)) (fun x => X x L)
  | .ret e, L, H, Q, X => (wp2 Φ e).E L H (fun v H1 => Q (.ret v) L H1) (fun x => X x L)
  | .ite t a b, L, H, Q, X => (wp2 Φ t).T L H (fun c H1 => ifP c (wpSs Φ a L H1 Q X) (wpSs Φ b L H1 Q X)) (fun x => X x L)
  | .while t b, L, H, Q, X => ∃ n, whileGo (fun L' H' K => (wp2 Φ t).T L' H' K noX) (fun L' H' K => wpSs Φ b L' H' K noXS) n L H Q
  | .for j k src b, L, H, Q, X => (wp2 Φ src).E L H (fun v H1 => pSrc k v H1 fun items st =>
      forGo (fun L' H' K => wpSs Φ b L' H' K X) st j items L H1 Q) (fun x => X x L)
  | .raise x ups, L, H, _, X => X ⟨x, ups⟩ L H
  | .tryR b y nm e, L, H, Q, X => wpSs Φ b L H Q (fun x L' H' => hndl y nm e x L' H' Q)
noncomputable def wpSs (Φ : Orc) : List IS → Lc → Hp → QS → XS → Prop
  | [], L, H, Q, _ => Q .next L H
  | s :: r, L, H, Q, X => wpS Φ s L H (nxt (fun L1 H1 => wpSs Φ r L1 H1 Q X) Q) X
end

/- a function: how many names it has, its parameters are the first ones -/
structure Fn where
  names : Nat
  params : Nat
  body : List IS

noncomputable def initL (f : Fn) (vs : List V) : Lc := vs.map some ++ List.replicate (f.names - f.params) none

noncomputable def retV : Fl → V
  | .ret v => v
  | .next => .none

noncomputable def wpFn (Φ : Orc) (f : Fn) (vs : List V) (H : Hp) (Q : V → Hp → Prop) (X : XL) : Prop :=
  vs.length = f.params ∧ wpSs Φ f.body (initL f vs) H (fun fl _ H1 => Q (retV fl) H1) (fun x _ H1 => X x H1)

end Mine

/- From the program's own trees to the small trees. -/
namespace Mine
open PySem

structure CC where
  G : List (Str × V)
  scope : Scope
  slots : List (Str × Nat)
  nxt : Nat

noncomputable def mapO {α β : Type} (f : α → Option β) : List α → Option (List β)
  | [] => some []
  | a :: r => (f a).bind fun b => (mapO f r).map (b :: ·)

noncomputable def constV : Const → Option V
  | .none => some .none
  | .bool b => some (.bool b)
  | .int i => some (.int i)
  | .str s => if s.length ≤ 2000000 ∧ PyData.strOk s = true then some (.str s) else none
  | _ => none

noncomputable def relab (scope outer : Scope) : Scope :=
  { scope with names := scope.names.map fun (n, k) => if (k == .free && outer.kind == .function && outer.names.lookup n == some .cell) then (n, .cell) else (n, k) }

noncomputable def okComp (scope outer : Scope) : Bool :=
  scope.kind == .function && (scope.names.all fun x => x.2 != .cell && (x.2 != .local || scope.names.lookup x.1 == some .local) && (x.2 != .free || (outer.kind == .function && outer.names.lookup x.1 == some .cell)))

noncomputable def isComp : Expr → Bool
  | .ListComp .. => true
  | .SetComp .. => true
  | .DictComp .. => true
  | _ => false
noncomputable def isStar : Expr → Bool
  | .Starred .. => true
  | _ => false
noncomputable def plainBase : Expr → Bool
  | .Call .. => false
  | _ => true

noncomputable def onlyIf {α : Type} (b : Bool) (x : Option α) : Option α := match b with | true => x | false => none
theorem onlyIf_some {α : Type} {b : Bool} {x : Option α} {y : α} (h : onlyIf b x = some y) : b = true ∧ x = some y := by cases b with | true => exact ⟨rfl, h⟩ | false => exact no_some h
noncomputable def mtOf (x : Str) : Option Mt := if x == Mt.append.name then some .append else none
theorem mtOf_some {x : Str} {m : Mt} (h : mtOf x = some m) : x = m.name := by
  unfold mtOf at h
  by_cases q : (x == Mt.append.name) = true
  · rw [if_pos q] at h; rw [← Option.some.inj h]; exact eq_of_beq q
  · rw [if_neg q] at h; exact no_some h
noncomputable def kindV (c : CC) (x : Str) : Option NameKind := onlyIf (!(x == ("__debug__" : Str))) (c.scope.names.lookup x)
noncomputable def nameV (c : CC) (x : Str) : Option IE := (kindV c x).bind fun k => match k with
  | .globalImplicit => (c.G.lookup x).map .lit
  | .local => (c.slots.lookup x).map .loc
  | .cell => (c.slots.lookup x).map .loc
  | _ => none
noncomputable def globV (c : CC) (x : Str) : Option V := (kindV c x).bind fun k => match k with
  | .globalImplicit => c.G.lookup x
  | _ => none

noncomputable def boolGo (mk : IE → IE → IE) : List IE → Option IE
  | [] => none
  | a :: r => (match r with
    | [] => some a
    | b :: s => (boolGo mk (b :: s)).map (mk a))

noncomputable def oTwo {α β γ : Type} (f : α → β → γ) (x : Option α) (y : Option β) : Option γ := match x with | some a => (match y with | some b => some (f a b) | none => none) | none => none
theorem oTwo_some {α β γ : Type} {f : α → β → γ} {x : Option α} {y : Option β} {z : γ} (h : oTwo f x y = some z) : ∃ a b, x = some a ∧ y = some b ∧ z = f a b := by
  cases x with
  | none => exact no_some h
  | some a => cases y with
    | none => exact no_some h
    | some b => exact ⟨a, b, rfl, rfl, (Option.some.inj h).symm⟩
noncomputable def oThree {α β γ δ : Type} (f : α → β → γ → δ) (x : Option α) (y : Option β) (z : Option γ) : Option δ := match x with | some a => oTwo (f a) y z | none => none
theorem oThree_some {α β γ δ : Type} {f : α → β → γ → δ} {x : Option α} {y : Option β} {z : Option γ} {u : δ} (h : oThree f x y z = some u) : ∃ a b c, x = some a ∧ y = some b ∧ z = some c ∧ u = f a b c := by
  cases x with
  | none => exact no_some h
  | some a => obtain ⟨b, c, h1, h2, h3⟩ := oTwo_some h; exact ⟨a, b, c, rfl, h1, h2, h3⟩
/- looks at a tree, one level each -/
noncomputable def onName {β : Type} (e : Expr) (k : Str → Option β) : Option β := match e with
  | .Name x _ => k x
  | _ => none
theorem onName_some {β : Type} {e : Expr} {k : Str → Option β} {b : β} (h : onName e k = some b) : ∃ x p, e = .Name x p ∧ k x = some b := by
  cases e with
  | Name x p => exact ⟨x, p, rfl, h⟩
  | _ => exact no_some h
noncomputable def on1 {α β : Type} (l : List α) (k : α → Option β) : Option β := match l with
  | [] => none
  | a :: r => (match r with
    | [] => k a
    | _ :: _ => none)
theorem on1_some {α β : Type} {l : List α} {k : α → Option β} {b : β} (h : on1 l k = some b) : ∃ a, l = [a] ∧ k a = some b := by
  cases l with
  | nil => exact no_some h
  | cons a r => cases r with
    | nil => exact ⟨a, rfl, h⟩
    | cons _ _ => exact no_some h
noncomputable def onCall {β : Type} (e : Expr) (k : Expr → List Expr → Option β) : Option β := match e with
  | .Call f as ks _ => (match ks with
    | [] => k f as
    | _ :: _ => none)
  | _ => none
theorem onCall_some {β : Type} {e : Expr} {k : Expr → List Expr → Option β} {b : β} (h : onCall e k = some b) : ∃ f as p, e = .Call f as [] p ∧ k f as = some b := by
  cases e with
  | Call f as ks p => cases ks with
    | nil => exact ⟨f, as, p, rfl, h⟩
    | cons _ _ => exact no_some h
  | _ => exact no_some h
noncomputable def onConst {β : Type} (e : Expr) (k : Const → Option β) : Option β := match e with
  | .Constant c _ _ => k c
  | _ => none
theorem onConst_some {β : Type} {e : Expr} {k : Const → Option β} {b : β} (h : onConst e k = some b) : ∃ c n p, e = .Constant c n p ∧ k c = some b := by
  cases e with
  | Constant c n p => exact ⟨c, n, p, rfl, h⟩
  | _ => exact no_some h
noncomputable def onRet {β : Type} (s : Stmt) (k : Expr → Option β) : Option β := match s with
  | .Return v _ => (match v with
    | some e => k e
    | none => none)
  | _ => none
theorem onRet_some {β : Type} {s : Stmt} {k : Expr → Option β} {b : β} (h : onRet s k = some b) : ∃ e p, s = .Return (some e) p ∧ k e = some b := by
  cases s with
  | Return v p => cases v with
    | some e => exact ⟨e, p, rfl, h⟩
    | none => exact no_some h
  | _ => exact no_some h
noncomputable def on2 {α β : Type} (l : List α) (k : α → α → Option β) : Option β := match l with
  | [] => none
  | a :: r => on1 r (k a)
theorem on2_some {α β : Type} {l : List α} {k : α → α → Option β} {b : β} (h : on2 l k = some b) : ∃ a c, l = [a, c] ∧ k a c = some b := by
  cases l with
  | nil => exact no_some h
  | cons a r =>
    first | refine e2_1 (on1_some h) fun c e_2 h => ?_ | refine e1_2 (on1_some h) fun c e_2 h => ?_ | refine e0_3 (on1_some h) fun c e_2 h => ?_ | obtain ⟨c, e_2, h⟩ := on1_some h
    obtain rfl := e_2
    exact ⟨a, c, rfl, h⟩
noncomputable def onCmp {β : Type} (e : Expr) (k : Expr → List CmpOp → List Expr → Option β) : Option β := match e with
  | .Compare l ops rs _ => k l ops rs
  | _ => none
theorem onCmp_some {β : Type} {e : Expr} {k : Expr → List CmpOp → List Expr → Option β} {b : β} (h : onCmp e k = some b) : ∃ l ops rs p, e = .Compare l ops rs p ∧ k l ops rs = some b := by
  cases e with
  | Compare l ops rs p => exact ⟨l, ops, rs, p, rfl, h⟩
  | _ => exact no_some h
noncomputable def onTup {β : Type} (e : Expr) (k : List Expr → Option β) : Option β := match e with
  | .Tuple es _ _ => k es
  | _ => none
theorem onTup_some {β : Type} {e : Expr} {k : List Expr → Option β} {b : β} (h : onTup e k = some b) : ∃ es n p, e = .Tuple es n p ∧ k es = some b := by
  cases e with
  | Tuple es n p => exact ⟨es, n, p, rfl, h⟩
  | _ => exact no_some h
noncomputable def srcK : V → Option SrcK
  | .ty t => (match t with
    | .range => some .range
    | .reversed => some .rev
    | _ => none)
  | _ => none
/- the kind of a source and what is evaluated for it -/
noncomputable def srcE (c : CC) (e : Expr) : Option (SrcK × Expr) := onCall e fun f as => onName f fun g => on1 as fun a => onlyIf (!isStar a) (((globV c g).bind srcK).map fun k => (k, a))
noncomputable def compSrc (f : Expr → Option IE) (c : CC) (e : Expr) : Option (SrcK × IE) := match srcE c e with
  | some ka => (f ka.2).map fun v => (ka.1, v)
  | none => (f e).map fun v => (SrcK.val, v)

noncomputable def isLt : CmpOp → Bool
  | .Lt => true
  | _ => false
noncomputable def methE (f : Expr → Option IE) (m : Option Mt) (args : List Expr) (o : Option IE) : Option IE := m.bind fun m => on1 args fun a => oTwo (fun v i => .meth v m [i]) o (f a)
noncomputable def smOf (x : Str) : Option Bool := if x == ("join" : Str) then some true else if x == ("split" : Str) then some false else none
theorem smOf_ok {x : Str} {j : Bool} (h : smOf x = some j) : x = (if j then "join" else "split" : Str) := by
  unfold smOf at h
  by_cases q : (x == ("join" : Str)) = true
  · rw [if_pos q] at h; rw [← Option.some.inj h]; exact eq_of_beq q
  · rw [if_neg q] at h
    by_cases q : (x == ("split" : Str)) = true
    · rw [if_pos q] at h; rw [← Option.some.inj h]; exact eq_of_beq q
    · rw [if_neg q] at h; exact no_some h
noncomputable def strmE (f : Expr → Option IE) (j : Bool) (args : List Expr) (o : Option IE) : Option IE := on1 args fun a => oTwo (fun v i => .strm v j i) o (f a)
noncomputable def anyM (s : Option Bool) (a : Bool → Option IE) (b : Option IE) : Option IE := match s with
  | some j => a j
  | none => b
noncomputable def innerC (c : CC) (scope : Scope) (x : Str) : CC := { c with scope := relab scope c.scope, slots := (x, c.nxt) :: c.slots, nxt := c.nxt + 1 }

noncomputable def optE (f : Expr → Option IE) : Option Expr → Option (Option IE)
  | none => some none
  | some e => (f e).map some
noncomputable def subE (f : Expr → Option IE) (o i : Expr) : Option IE := match i with
  | .Slice lo hi st _ => (match st with
    | none => oThree IE.slice (f o) (optE f lo) (optE f hi)
    | some _ => none)
  | _ => oTwo IE.sub (f o) (f i)

/- [x < y for x, y in zip(a, b)] -/
noncomputable abbrev ZR := Option (Str × Str × Str × Expr × Expr)
structure ZC where
  x1 : Str
  y1 : Str
  op : CmpOp
  g : Comprehension
noncomputable def zpF (z : ZC) (x y gz : Str) (a b : Expr) : ZR := onlyIf (isLt z.op && z.g.ifs.isEmpty && z.g.is_async == 0 && z.x1 == x && z.y1 == y && !(x == y) && !(x == ("__debug__" : Str)) && !(y == ("__debug__" : Str)) && ![a, b].any isStar) (some (x, y, gz, a, b))
noncomputable def zpE (z : ZC) (x y : Str) (as : List Expr) (gz : Str) : ZR := on2 as (zpF z x y gz)
noncomputable def zpD (z : ZC) (x y : Str) (f : Expr) (as : List Expr) : ZR := onName f (zpE z x y as)
noncomputable def zpC (z : ZC) (x y : Str) : ZR := onCall z.g.iter (zpD z x y)
noncomputable def zpB (z : ZC) (ey : Expr) (x : Str) : ZR := onName ey (zpC z x)
noncomputable def zpA (z : ZC) (ex ey : Expr) : ZR := onName ex (zpB z ey)
noncomputable def zpG (x1 y1 : Str) (op : CmpOp) (g : Comprehension) : ZR := onTup g.target fun es => on2 es (zpA ⟨x1, y1, op, g⟩)
noncomputable def zp4 (x1 : Str) (op : CmpOp) (gens : List Comprehension) (y1 : Str) : ZR := on1 gens (zpG x1 y1 op)
noncomputable def zp3 (x1 : Str) (gens : List Comprehension) (op : CmpOp) (r : Expr) : ZR := onName r (zp4 x1 op gens)
noncomputable def zp2 (gens : List Comprehension) (ops : List CmpOp) (rs : List Expr) (x1 : Str) : ZR := on1 ops fun op => on1 rs (zp3 x1 gens op)
noncomputable def zp1 (gens : List Comprehension) (l : Expr) (ops : List CmpOp) (rs : List Expr) : ZR := onName l (zp2 gens ops rs)
noncomputable def zipPat (elt : Expr) (gens : List Comprehension) : ZR := onCmp elt (zp1 gens)
noncomputable def isZipV : Option V → Bool
  | some v => (match v with
    | .ty t => (match t with
      | .zip => true
      | _ => false)
    | _ => false)
  | none => false
noncomputable def zipE (f : Expr → Option IE) (c : CC) (z : Str × Str × Str × Expr × Expr) (scope : Scope) : Option IE := onlyIf (isZipV (globV c z.2.2.1) && okComp scope c.scope && scope.names.lookup z.1 == some .local && scope.names.lookup z.2.1 == some .local) ((mapO f [z.2.2.2.1, z.2.2.2.2]).map .zlt)
noncomputable def isZipC : Expr → Bool
  | .ListComp elt gens _ _ => (zipPat elt gens).isSome
  | _ => false

/- the trees, by their kinds -/
noncomputable def cUn (op : UnaryOp) (x : Option IE) : Option IE := match op with
  | .USub => x.map .neg
  | .Not => x.map .not
  | _ => none
noncomputable def cBool (op : BoolOp) (vs : Option (List IE)) : Option IE := vs.bind fun vs => match op with
  | .And => boolGo .and vs
  | .Or => boolGo .or vs
noncomputable def cCmp (f : Expr → Option IE) (l : Option IE) (ops : List CmpOp) (rs : List Expr) : Option IE := match ops with
  | [] => none
  | op :: ops => (match ops with
    | [] => on1 rs fun r => oTwo (fun a b => .cmp a op b) l (f r)
    | op' :: _ => onlyIf (ops.length.beq 1) (on2 rs fun r r' => oThree (fun a b d => .cmp2 a op b op' d) l (f r) (f r')))
noncomputable def cCall (f : Expr → Option IE) (c : CC) (fn : Expr) (args : List Expr) (pos : Pos) : Option IE := onlyIf (!args.any isStar && args.length.ble 20) (match fn with
  | .Name x _ => oTwo IE.call (globV c x) (mapO f args)
  | .Attribute o name apos => onlyIf (plainBase o && apos.endLine.beq pos.line) (anyM (smOf name) (fun j => strmE f j args (f o)) (methE f (mtOf name) args (f o)))
  | _ => none)
noncomputable def okC (c : CC) (scope : Scope) (x : Str) (a : Int) : Bool := a == 0 && okComp scope c.scope && scope.names.lookup x == some .local && (scope.names.all fun y => y.2 != .local || y.1 == x || (c.slots.lookup y.1).isNone) && (c.slots.all fun p => p.2 < c.nxt)
noncomputable def cLc (f : CC → Expr → Option IE) (c : CC) (elt : Expr) (gens : List Comprehension) (scope : Scope) : Option IE := match zipPat elt gens with
  | some z => zipE (f c) c z scope
  | none => on1 gens fun g => onName g.target fun x => onlyIf (okC c scope x g.is_async && g.ifs.isEmpty) (oTwo (fun ks e => .comp e c.nxt ks.1 ks.2) (compSrc (f c) c g.iter) (f (innerC c scope x) elt))
noncomputable def stepE (f : CC → Expr → Option IE) (c : CC) (e : Expr) : Option IE := match e with
  | .Constant k _ _ => (constV k).map .lit
  | .Name x _ => nameV c x
  | .BinOp l op r _ => oTwo (IE.bin op) (f c l) (f c r)
  | .UnaryOp op x _ => cUn op (f c x)
  | .BoolOp op vs _ => cBool op (mapO (f c) vs)
  | .IfExp t a b _ => oThree IE.ite (f c t) (f c a) (f c b)
  | .Compare l ops rs _ => cCmp (f c) (f c l) ops rs
  | .Tuple es _ _ => onlyIf (!es.any isStar) ((mapO (f c) es).map .tup)
  | .List es _ => onlyIf (!es.any isStar) ((mapO (f c) es).map .lst)
  | .Call fn args ks pos => onlyIf ks.isEmpty (cCall (f c) c fn args pos)
  | .Subscript o i _ => subE (f c) o i
  | .ListComp elt gens scope _ => cLc f c elt gens scope
  | _ => none
noncomputable def compE : Nat → CC → Expr → Option IE
  | 0 => fun _ _ => none
  | n + 1 => stepE (compE n)

noncomputable def slotV (c : CC) (x : Str) : Option Nat := (c.scope.names.lookup x).bind fun k => match k with
  | .local => c.slots.lookup x
  | .cell => c.slots.lookup x
  | _ => none

/- handlers: one return of a simple expression -/
noncomputable def clsV : V → Option Str
  | .cls z _ => some z
  | _ => none
noncomputable def isOwn (y : Str) (o : Option V) : Bool := o.bind clsV == some y
noncomputable def isVE : Option V → Bool
  | some v => (match v with
    | .ty t => (match t with
      | .valueError => true
      | _ => false)
    | _ => false)
  | none => false
noncomputable def isIsi : Option V → Bool
  | some v => (match v with
    | .bi b => (match b with
      | .isinstance => true
      | _ => false)
    | _ => false)
  | none => false
noncomputable def cmpR : CmpOp → Bool
  | .Eq => true
  | _ => false
noncomputable def binR : Operator → Bool
  | .Mod => true
  | _ => false
noncomputable def isOr : BoolOp → Bool
  | .Or => true
  | _ => false
noncomputable def litR : Const → Option V
  | .bool b => some (.bool b)
  | .int i => some (.int i)
  | _ => none
noncomputable def callR (c : CC) (nm : Option Str) (f : Expr) (as : List Expr) : Option IE := onName f fun f => on2 as fun ex ey => onName ex fun x => onName ey fun y => onlyIf (isIsi (globV c f) && nm == some x && c.scope.names.lookup x == some .local && !(x == ("__debug__" : Str)) && isVE (globV c y)) (some (.excIs "ValueError"))
noncomputable def stepR (f : Expr → Option IE) (c : CC) (nm : Option Str) (e : Expr) : Option IE := match e with
    | .BoolOp o vs _ => onlyIf (isOr o) (on2 vs fun a b => oTwo IE.or (f a) (f b))
    | .Compare l ops rs _ => on1 ops fun op => on1 rs fun r => onlyIf (cmpR op) (oTwo (fun a b => .cmp a op b) (f l) (f r))
    | .BinOp l op r _ => onlyIf (binR op) (oTwo (.bin op) (f l) (f r))
    | .Call f as ks _ => onlyIf ks.isEmpty (callR c nm f as)
    | .Constant k _ _ => (litR k).map .lit
    | .Name x _ => onlyIf (c.scope.names.lookup x == some .local && !(nm == some x) && !(x == ("__debug__" : Str))) ((c.slots.lookup x).map .loc)
    | _ => none
noncomputable def compR : Nat → CC → Option Str → Expr → Option IE
  | 0 => fun _ _ _ => none
  | n + 1 => fun c nm => stepR (compR n c nm) c nm
noncomputable def hName (c : CC) (n : Nat) (y : Str) (e : Expr) : Option Str → Option (Str × Option Nat × IE)
  | none => (compR n c none e).map fun ie => (y, none, ie)
  | some nm => onlyIf (c.scope.names.lookup nm == some .local) (oTwo (fun i ie => (y, some i, ie)) (c.slots.lookup nm) (compR n c (some nm) e))
noncomputable def compH (n : Nat) (c : CC) : ExceptHandler → Option (Str × Option Nat × IE)
  | .ExceptHandler ty nm body _ => ty.bind fun t => onName t fun y => on1 body fun st => onRet st fun e => onlyIf (isOwn y (globV c y)) (hName c n y e nm)
noncomputable def clsU : V → Option (Str × List Str)
  | .cls z ups => some (z, ups)
  | _ => none
noncomputable def raiseS (x : Str) (o : Option V) : Option IS := (o.bind clsU).bind fun u => onlyIf (u.1 == x) (some (.raise x u.2))

noncomputable def raiseOf (e d : Option Expr) : Option (Str × Const) := match d with
  | some _ => none
  | none => e.bind fun e => onCall e fun f as => onName f fun x => on1 as fun a => onConst a fun k => some (x, k)
theorem raiseOf_some {e d : Option Expr} {x : Str} {k : Const} (h : raiseOf e d = some (x, k)) : ∃ np kn kp cp, e = some (.Call (.Name x np) [.Constant k kn kp] [] cp) ∧ d = none := by
  cases d with
  | some _ => exact no_some h
  | none => cases e with
    | none => exact no_some h
    | some e =>
      first | refine e3_2 (onCall_some h) fun f as p e_3 h => ?_ | refine e2_3 (onCall_some h) fun f as p e_3 h => ?_ | refine e1_4 (onCall_some h) fun f as p e_3 h => ?_ | obtain ⟨f, as, p, e_3, h⟩ := onCall_some h
      obtain rfl := e_3
      first | refine e3_1 (onName_some h) fun x' np e_4 h => ?_ | refine e2_2 (onName_some h) fun x' np e_4 h => ?_ | refine e1_3 (onName_some h) fun x' np e_4 h => ?_ | refine e0_4 (onName_some h) fun x' np e_4 h => ?_ | obtain ⟨x', np, e_4, h⟩ := onName_some h
      obtain rfl := e_4
      first | refine e2_1 (on1_some h) fun a e_5 h => ?_ | refine e1_2 (on1_some h) fun a e_5 h => ?_ | refine e0_3 (on1_some h) fun a e_5 h => ?_ | obtain ⟨a, e_5, h⟩ := on1_some h
      obtain rfl := e_5
      first | refine e3_2 (onConst_some h) fun k' kn kp e_6 h => ?_ | refine e2_3 (onConst_some h) fun k' kn kp e_6 h => ?_ | refine e1_4 (onConst_some h) fun k' kn kp e_6 h => ?_ | obtain ⟨k', kn, kp, e_6, h⟩ := onConst_some h
      obtain rfl := e_6
      cases h
      exact ⟨np, kn, kp, p, rfl, rfl⟩
noncomputable def raiseE (c : CC) (o : Option (Str × Const)) : Option IS := o.bind fun u => onlyIf (constV u.2).isSome (raiseS u.1 (globV c u.1))

noncomputable def cAsg (f : Expr → Option IE) (c : CC) (e t : Expr) : Option IS := match t with
  | .Name x _ => onlyIf (!isZipC e) (oTwo IS.assign (slotV c x) (f e))
  | .Subscript o i _ => onlyIf (!isComp e) (oThree (fun v o i => IS.setItem o i v) (f e) (f o) (f i))
  | _ => none
noncomputable def stepS (f : Expr → Option IE) (h : ExceptHandler → Option (Str × Option Nat × IE)) (g : Stmt → Option IS) (c : CC) (st : Stmt) : Option IS := match st with
  | .Expr e _ => onlyIf (!isComp e) ((f e).map .expr)
  | .Assign ts e _ => on1 ts (cAsg f c e)
  | .Return v _ => v.bind fun e => (f e).map .ret
  | .If t a b _ => oThree IS.ite (f t) (mapO g a) (mapO g b)
  | .While t b els _ => onlyIf els.isEmpty (oTwo IS.while (f t) (mapO g b))
  | .For t iter b els _ => onlyIf els.isEmpty (onName t fun x => oThree (fun i ks b => .for i ks.1 ks.2 b) (slotV c x) (compSrc f c iter) (mapO g b))
  | .Raise e cause _ => raiseE c (raiseOf e cause)
  | .Try b hs els fin _ => onlyIf (els.isEmpty && fin.isEmpty) (on1 hs fun hd => oTwo (fun b (u : Str × Option Nat × IE) => IS.tryR b u.1 u.2.1 u.2.2) (mapO g b) (h hd))
  | _ => none
noncomputable def compS : Nat → CC → Stmt → Option IS
  | 0 => fun _ _ => none
  | n + 1 => fun c => stepS (compE n c) (compH n c) (compS n c) c

noncomputable def slotsGo : List Str → Nat → List (Str × Nat)
  | [], _ => []
  | x :: r, k => (x, k) :: slotsGo r (k + 1)

noncomputable def ownNames (params : List Str) (scope : Scope) : List Str :=
  params ++ ((scope.names.filter fun x => (x.2 == .local || x.2 == .cell) && !params.contains x.1).map (·.1))

noncomputable def compFn (G : List (Str × V)) (params : List Str) (body : List Stmt) (scope : Scope) : Option Fn :=
  let ns := ownNames params scope
  let c : CC := { G, scope, slots := slotsGo ns 0, nxt := ns.length }
  (mapO (compS 40 c) body).map fun b => { names := ns.length + 3, params := params.length, body := b }

/- the defs of a program -/
noncomputable def defOf (p : Program) (x : Str) : Option (List Str × List Stmt × Scope) :=
  match p.main.body.find? (fun | .FunctionDef n .. => n == x | _ => false) with
  | some (.FunctionDef _ a body _ _ _ scope _ _ _) => some (a.args.map (·.arg), body, scope)
  | _ => none
noncomputable def fnOf? (G : List (Str × V)) (p : Program) (x : Str) : Option Fn :=
  match defOf p x with
  | some (ps, body, scope) => compFn G ps body scope
  | none => none
end Mine

set_option autoImplicit false
namespace Mine
open PySem
section
variable {Φ : Orc} {L : Lc} {H : Hp} {Q : V → Hp → Prop} {P : Bool → Hp → Prop} {X : XL} {QF : QS} {XF : XS}
theorem X_lit {v : V} : (wp2 Φ (.lit v)).E L H Q X = Q v H := rfl
theorem X_loc {i : Nat} : (wp2 Φ (.loc i)).E L H Q X = oKK L[i]? fun v => Q v H := rfl
theorem X_bin {op : Operator} {a b : IE} : (wp2 Φ (.bin op a b)).E L H Q X = (wp2 Φ a).E L H (fun va H1 => (wp2 Φ b).E L H1 (fun vb H2 => pBin op va vb H2 Q) X) X := rfl
theorem X_neg {a : IE} : (wp2 Φ (.neg a)).E L H Q X = (wp2 Φ a).E L H (fun v H1 => oK (intV v) fun i => Q (.int (-i)) H1) X := rfl
theorem negX_int {i : Int} : intV (.int i) = some i := rfl
theorem X_not {a : IE} : (wp2 Φ (.not a)).E L H Q X = (wp2 Φ a).E L H (fun v H1 => tX v fun c => Q (.bool (!c)) H1) X := rfl
theorem Y_not {a : IE} : (wp2 Φ (.not a)).T L H P X = (wp2 Φ a).T L H (fun c H1 => P (!c) H1) X := rfl
theorem X_and {a b : IE} : (wp2 Φ (.and a b)).E L H Q X = (wp2 Φ a).E L H (fun v H1 => tX v fun c => ifP c ((wp2 Φ b).E L H1 Q X) (Q v H1)) X := rfl
theorem Y_and {a b : IE} : (wp2 Φ (.and a b)).T L H P X = (wp2 Φ a).T L H (fun c H1 => ifP c ((wp2 Φ b).T L H1 P X) (P false H1)) X := rfl
theorem X_or {a b : IE} : (wp2 Φ (.or a b)).E L H Q X = (wp2 Φ a).E L H (fun v H1 => tX v fun c => ifP c (Q v H1) ((wp2 Φ b).E L H1 Q X)) X := rfl
theorem Y_or {a b : IE} : (wp2 Φ (.or a b)).T L H P X = (wp2 Φ a).T L H (fun c H1 => ifP c (P true H1) ((wp2 Φ b).T L H1 P X)) X := rfl
theorem X_cmp {a b : IE} {op : CmpOp} : (wp2 Φ (.cmp a op b)).E L H Q X = (wp2 Φ a).E L H (fun va H1 => (wp2 Φ b).E L H1 (fun vb H2 => pCmp op va vb H2 Q) X) X := rfl
theorem X_cmp2 {a b c : IE} {op op' : CmpOp} : (wp2 Φ (.cmp2 a op b op' c)).E L H Q X = (wp2 Φ a).E L H (fun va H1 => (wp2 Φ b).E L H1 (fun vb H2 => pCmp op va vb H2 (fun r H3 =>
      tX r fun t => ifP t ((wp2 Φ c).E L H3 (fun vc H4 => pCmp op' vb vc H4 Q) X) (Q r H3))) X) X := rfl
theorem X_ite {t a b : IE} : (wp2 Φ (.ite t a b)).E L H Q X = (wp2 Φ t).T L H (fun c H1 => ifP c ((wp2 Φ a).E L H1 Q X) ((wp2 Φ b).E L H1 Q X)) X := rfl
theorem Y_ite {t a b : IE} : (wp2 Φ (.ite t a b)).T L H P X = (wp2 Φ t).T L H (fun c H1 => ifP c ((wp2 Φ a).T L H1 P X) ((wp2 Φ b).T L H1 P X)) X := rfl
theorem X_tup {es : List IE} : (wp2 Φ (.tup es)).E L H Q X = wpEs Φ es L H (fun vs H1 => vs.length ≤ 1000000 ∧ Q (.tup vs) H1) X := rfl
theorem X_lst {es : List IE} : (wp2 Φ (.lst es)).E L H Q X = wpEs Φ es L H (fun vs H1 => vs.length ≤ 1000000 ∧ Q (.ref H1.length) (H1 ++ [.list vs])) X := rfl
theorem X_call {f : V} {args : List IE} : (wp2 Φ (.call f args)).E L H Q X = wpEs Φ args L H (fun vs H1 => pCall Φ f vs H1 Q X) X := rfl
theorem X_meth {o : IE} {name : Mt} {args : List IE} : (wp2 Φ (.meth o name args)).E L H Q X = (wp2 Φ o).E L H (fun vo H1 => okMeth H1 vo ∧ wpEs Φ args L H1 (fun vs H2 => pMeth vo name vs H2 Q) X) X := rfl
theorem X_sub {o i : IE} : (wp2 Φ (.sub o i)).E L H Q X = (wp2 Φ o).E L H (fun vo H1 => (wp2 Φ i).E L H1 (fun vi H2 => pSub vo vi H2 Q) X) X := rfl
noncomputable def coEX (Φ : Orc) (elt : IE) (X : XL) : Lc → Hp → (V → Hp → Prop) → Prop := fun L' H' K => (wp2 Φ elt).E L' H' K X
theorem X_comp {elt : IE} {j : Nat} {k : SrcK} {src : IE} : (wp2 Φ (.comp elt j k src)).E L H Q X = (wp2 Φ src).E L H (fun v H1 => pSrc k v H1 fun items st =>
      compGo (coEX Φ elt X) st j L items [] H1 (fun ys H2 => ys.length ≤ 1000000 ∧ Q (.ref H2.length) (H2 ++ [.list ys]))) X := rfl
theorem X_zlt {es : List IE} : (wp2 Φ (.zlt es)).E L H Q X = wpEs Φ es L H (fun vs H1 => pZlt vs H1 Q) X := rfl
theorem Y_lit {v : V} : (wp2 Φ (.lit v)).T L H P X = tX v fun c => P c H := rfl
theorem Y_loc {i : Nat} : (wp2 Φ (.loc i)).T L H P X = oKK L[i]? fun v => tX v fun c => P c H := rfl
theorem Y_cmp {a b : IE} {op : CmpOp} : (wp2 Φ (.cmp a op b)).T L H P X = (wp2 Φ (.cmp a op b)).E L H (fun v H1 => tX v fun c => P c H1) X := rfl
theorem Y_cmp2 {a b c : IE} {op op' : CmpOp} : (wp2 Φ (.cmp2 a op b op' c)).T L H P X = (wp2 Φ (.cmp2 a op b op' c)).E L H (fun v H1 => tX v fun c => P c H1) X := rfl
theorem Y_call {f : V} {args : List IE} : (wp2 Φ (.call f args)).T L H P X = (wp2 Φ (.call f args)).E L H (fun v H1 => tX v fun c => P c H1) X := rfl
theorem Y_sub {o i : IE} : (wp2 Φ (.sub o i)).T L H P X = (wp2 Φ (.sub o i)).E L H (fun v H1 => tX v fun c => P c H1) X := rfl
theorem XEs_nil {R : List V → Hp → Prop} : wpEs Φ [] L H R X = R [] H := rfl
theorem XEs_cons {e : IE} {r : List IE} {R : List V → Hp → Prop} : wpEs Φ (e :: r) L H R X = (wp2 Φ e).E L H (fun v H1 => wpEs Φ r L H1 (fun vs H2 => R (v :: vs) H2) X) X := rfl
theorem Z_expr {e : IE} : wpS Φ (.expr e) L H QF XF = (wp2 Φ e).E L H (fun _ H1 => QF .next L H1) (fun x => XF x L) := rfl
theorem Z_assign {i : Nat} {e : IE} : wpS Φ (.assign i e) L H QF XF = (wp2 Φ e).E L H (fun v H1 => QF .next (L.set i (some v)) H1) (fun x => XF x L) := rfl
theorem Z_ret {e : IE} : wpS Φ (.ret e) L H QF XF = (wp2 Φ e).E L H (fun v H1 => QF (.ret v) L H1) (fun x => XF x L) := rfl
theorem Z_ite {t : IE} {a b : List IS} : wpS Φ (.ite t a b) L H QF XF = (wp2 Φ t).T L H (fun c H1 => ifP c (wpSs Φ a L H1 QF XF) (wpSs Φ b L H1 QF XF)) (fun x => XF x L) := rfl
noncomputable def whTX (Φ : Orc) (t : IE) (XF : XL) : Lc → Hp → (Bool → Hp → Prop) → Prop := fun L' H' K => (wp2 Φ t).T L' H' K XF
noncomputable def whBX (Φ : Orc) (b : List IS) (XF : XS) : Lc → Hp → QS → Prop := fun L' H' K => wpSs Φ b L' H' K XF
theorem Z_while {t : IE} {b : List IS} : wpS Φ (.while t b) L H QF XF = ∃ n, whileGo (whTX Φ t noX) (whBX Φ b noXS) n L H QF := rfl
theorem Z_for {j : Nat} {k : SrcK} {src : IE} {b : List IS} : wpS Φ (.for j k src b) L H QF XF = (wp2 Φ src).E L H (fun v H1 => pSrc k v H1 fun items st =>
      forGo (whBX Φ b XF) st j items L H1 QF) (fun x => XF x L) := rfl
theorem Z_raise {x : Str} {ups : List Str} : wpS Φ (.raise x ups) L H QF XF = XF ⟨x, ups⟩ L H := rfl
theorem Z_try {b : List IS} {y : Str} {nm : Option Nat} {e : IE} : wpS Φ (.tryR b y nm e) L H QF XF = wpSs Φ b L H QF (fun x L' H' => hndl y nm e x L' H' QF) := rfl
theorem Zs_nil : wpSs Φ [] L H QF XF = QF .next L H := rfl
noncomputable def sqX (Φ : Orc) (r : List IS) (QF : QS) (XF : XS) : QS := nxt (fun L1 H1 => wpSs Φ r L1 H1 QF XF) QF
theorem sqX_next {r : List IS} : sqX Φ r QF XF .next L H = wpSs Φ r L H QF XF := rfl
theorem sqX_ret {r : List IS} {v : V} : sqX Φ r QF XF (.ret v) L H = QF (.ret v) L H := rfl
theorem Zs_cons {s : IS} {r : List IS} : wpSs Φ (s :: r) L H QF XF = wpS Φ s L H (sqX Φ r QF XF) XF := rfl
theorem zs_cons {s : IS} {r : List IS} (h : wpS Φ s L H (sqX Φ r QF XF) XF) : wpSs Φ (s :: r) L H QF XF := h
noncomputable def wkX (test : Lc → Hp → (Bool → Hp → Prop) → Prop) (body : Lc → Hp → QS → Prop) (n : Nat) (Q : QS) : QS := nxt (fun L1 H2 => whileGo test body n L1 H2 Q) Q
noncomputable def fkX (body : Lc → Hp → QS → Prop) (st : Hp → Prop) (j : Nat) (r : List V) (Q : QS) : QS := nxt (fun L1 H1 => st H1 ∧ forGo body st j r L1 H1 Q) Q
end
section
variable {Φ : Orc} {t : IE} {b : List IS} {XF : XS} {X : XL} {test : Lc → Hp → (Bool → Hp → Prop) → Prop} {body : Lc → Hp → QS → Prop} {n : Nat} {Q : QS} {L : Lc} {H : Hp} {st : Hp → Prop} {j : Nat} {x : V} {r : List V} {v : V} {acc : List V} {QL : List V → Hp → Prop} {elt : IE}
theorem whX_s : whileGo (whTX Φ t X) (whBX Φ b XF) (n + 1) L H Q = (wp2 Φ t).T L H (fun c H1 => ifP c (wpSs Φ b L H1 (wkX (whTX Φ t X) (whBX Φ b XF) n Q) XF) (Q .next L H1)) X := rfl
theorem wkX_next : wkX test body n Q .next L H = whileGo test body n L H Q := rfl
theorem wkX_ret : wkX test body n Q (.ret v) L H = Q (.ret v) L H := rfl
theorem foX_nil : forGo body st j [] L H Q = Q .next L H := rfl
theorem foX_cons : forGo (whBX Φ b XF) st j (x :: r) L H Q = wpSs Φ b (L.set j (some x)) H (fkX (whBX Φ b XF) st j r Q) XF := rfl
theorem fkX_next : fkX body st j r Q .next L H = (st H ∧ forGo body st j r L H Q) := rfl
theorem fkX_ret : fkX body st j r Q (.ret v) L H = Q (.ret v) L H := rfl
theorem coX_nil {el : Lc → Hp → (V → Hp → Prop) → Prop} : compGo el st j L [] acc H QL = QL acc H := rfl
theorem coX_cons : compGo (coEX Φ elt X) st j L (x :: r) acc H QL = (wp2 Φ elt).E (L.set j (some x)) H (fun y H2 => st H2 ∧ compGo (coEX Φ elt X) st j L r (acc ++ [y]) H2 QL) X := rfl
theorem oKK_some {α : Type} {a : α} {P : α → Prop} : oKK (some (some a)) P = P a := rfl
theorem oK_some {α : Type} {a : α} {P : α → Prop} : oK (some a) P = P a := rfl
theorem tX_bool {b : Bool} {P : Bool → Prop} : tX (.bool b) P = P b := rfl
theorem iX_t {A B : Prop} : ifP true A B = A := rfl
theorem iX_f {A B : Prop} : ifP false A B = B := rfl
theorem iX_d {p : Prop} [Decidable p] {A B : Prop} : ifP (decide p) A B = ((p → A) ∧ (¬ p → B)) := by by_cases h : p <;> simp [ifP, h]
theorem iX_p {p : Prop} [Decidable p] {A B : Prop} (h1 : p → A) (h2 : ¬ p → B) : ifP (decide p) A B := by by_cases h : p <;> simp only [h, decide_true, decide_false, ifP]; exact h1 h; exact h2 h
theorem iX_b {c : Bool} {A B : Prop} (h1 : c = true → A) (h2 : c = false → B) : ifP c A B := by cases c; exact h2 rfl; exact h1 rfl
end
section
variable {Φ : Orc} {H : Hp} {Q : V → Hp → Prop} {X : XL} {i j : Int} {m n : Nat} {x y : Str} {l : List V} {ns : List Int} {a v : V} {b c : Bool}
theorem q_add : pBin .Add (.int i) (.int j) H Q = Q (.int (i + j)) H := rfl
theorem q_sub : pBin .Sub (.int i) (.int j) H Q = Q (.int (i - j)) H := rfl
theorem q_mul : pBin .Mult (.int i) (.int j) H Q = (((-(2 ^ 64) < i ∧ i < 2 ^ 64) ∨ (-(2 ^ 64) < j ∧ j < 2 ^ 64)) ∧ Q (.int (i * j)) H) := rfl
theorem q_div : pBin .FloorDiv (.int i) (.int j) H Q = ((0 < j ∧ j < 2 ^ 128) ∧ Q (.int (i / j)) H) := rfl
theorem q_mod : pBin .Mod (.int i) (.int j) H Q = ((0 < j ∧ j < 2 ^ 128) ∧ Q (.int (i % j)) H) := rfl
theorem q_pow : pBin .Pow (.int i) (.int j) H Q = ((0 ≤ j ∧ j ≤ 1000000 ∧ i.natAbs < 2 ^ 64) ∧ Q (.int (i ^ j.toNat)) H) := rfl
theorem q_list : pBin .Add (.ref m) (.ref n) H Q = oK (listAt H m) fun xs => oK (listAt H n) fun ys => xs.length + ys.length ≤ 1000000 ∧ Q (.ref H.length) (H ++ [.list (xs ++ ys)]) := rfl
theorem q_eq : pCmp .Eq (.int i) (.int j) H Q = Q (.bool (decide (i = j))) H := rfl
theorem q_ne : pCmp .NotEq (.int i) (.int j) H Q = Q (.bool (decide (i ≠ j))) H := by
  show Q (.bool (!decide (i = j))) H = _
  rw [decide_not]
theorem q_eqs : pCmp .Eq (.str x) (.str y) H Q = Q (.bool (x == y)) H := rfl
theorem q_nes : pCmp .NotEq (.str x) (.str y) H Q = Q (.bool (!(x == y))) H := rfl
theorem q_lt : pCmp .Lt (.int i) (.int j) H Q = Q (.bool (decide (i < j))) H := rfl
theorem q_le : pCmp .LtE (.int i) (.int j) H Q = Q (.bool (decide (i ≤ j))) H := rfl
theorem q_gt : pCmp .Gt (.int i) (.int j) H Q = Q (.bool (decide (j < i))) H := rfl
theorem q_ge : pCmp .GtE (.int i) (.int j) H Q = Q (.bool (decide (j ≤ i))) H := rfl
theorem q_in : pCmp .In a (.tup l) H Q = oK (memV a l) fun c => Q (.bool c) H := rfl
theorem q_inl : pCmp .In a (.ref n) H Q = oK (listAt H n) fun l => oK (memV a l) fun c => Q (.bool c) H := rfl
theorem q_nin : pCmp .NotIn a (.tup l) H Q = oK (memV a l) fun c => Q (.bool (!c)) H := rfl
theorem q_stup : pSub (.tup l) (.int i) H Q = oK (idx l i) fun v => Q v H := rfl
theorem q_sref : pSub (.ref n) (.int i) H Q = oK (listAt H n) fun l => oK (idxP l i) fun v => Q v H := rfl
theorem q_sscr : pSub (.scr ns) (.int i) H Q = oK (idxP ns i) fun v => Q (.int v) H := rfl
theorem q_fn {vs : List V} : pCall Φ (.fn x) vs H Q X = Φ x vs H Q X := rfl
theorem q_lentup : pCall Φ (.bi .len) [.tup l] H Q X = Q (.int (l.length : Int)) H := rfl
theorem q_lenref : pCall Φ (.bi .len) [.ref n] H Q X = oK (listAt H n) fun l => Q (.int (l.length : Int)) H := rfl
theorem q_lenscr : pCall Φ (.bi .len) [.scr ns] H Q X = Q (.int (ns.length : Int)) H := rfl
theorem q_isi {t : Ty} : pCall Φ (.bi .isinstance) [v, .ty t] H Q X = oK (isInstH H v t) fun c => Q (.bool c) H := rfl
theorem q_all : pCall Φ (.bi .all) [.ref n] H Q X = oK (listAt H n) fun l => oK (allBools l) fun bs => Q (.bool (bs.all id)) H := rfl
theorem q_int : pCall Φ (.ty .int) [.bool b] H Q X = Q (.int (if b then 1 else 0)) H := rfl
theorem q_tuple : pCall Φ (.ty .tuple) [.ref n] H Q X = oK (listAt H n) fun l => Q (.tup l) H := rfl
theorem q_append : pMeth (.ref n) .append [v] H Q = oK (listAt H n) fun l => l.length ≤ 1000000 ∧ Q .none (H.set n (.list (l ++ [v]))) := rfl
theorem q_slicet {lo hi : V} : pSlice (.tup l) lo hi H Q = oK (cutL lo hi l) fun ys => Q (.tup ys) H := rfl
theorem q_set {QH : Hp → Prop} : pSet (.ref n) (.int i) v H QH = oK (listAt H n) fun l => (0 ≤ i ∧ i < (l.length : Int)) ∧ QH (H.set n (.list (l.set i.toNat v))) := rfl
theorem q_repr : pCall Φ (.bi .repr) [v] H Q X = oK (toPyT H v) fun d => (d.showable = true ∧ d.depth ≤ 60 ∧ d.shown.length ≤ 1000000) ∧ Q (.opq d.shown) H := rfl
theorem q_eqo : pCmp .Eq (.opq x) (.opq y) H Q = Q (.bool (x == y)) H := rfl
theorem Z_set {L : Lc} {QF : QS} {XF : XS} {o k e : IE} : wpS Φ (.setItem o k e) L H QF XF = (wp2 Φ e).E L H (fun vv H1 => (wp2 Φ o).E L H1 (fun vo H2 => (wp2 Φ k).E L H2 (fun vk H3 => pSet vo vk vv H3 (QF .next L)) (fun x => XF x L)) (fun x => XF x L)) (fun x => XF x L) := rfl
theorem q_listt : pCall Φ (.ty .list) [.tup l] H Q X = Q (.ref H.length) (H ++ [.list l]) := rfl
theorem q_ninl : pCmp .NotIn a (.ref n) H Q = oK (listAt H n) fun l => oK (memV a l) fun c => Q (.bool (!c)) H := rfl
theorem u_tup {R : List V → (Hp → Prop) → Prop} : pSrc .val (.tup l) H R = R l (fun _ => True) := rfl
theorem u_ref {R : List V → (Hp → Prop) → Prop} : pSrc .val (.ref n) H R = oK (listAt H n) fun l => R l (fun H' => listAt H' n = some l) := rfl
theorem q_zlt {m : List V} : pZlt [.tup l, .tup m] H Q = oK (intsOf l) fun is => oK (intsOf m) fun js => Q (.ref H.length) (H ++ [.list ((ltL is js).map .bool)]) := rfl
theorem q_slice {lo hi : V} : pSlice (.ref n) lo hi H Q = oK (listAt H n) fun xs => oK (cutL lo hi xs) fun ys => Q (.ref H.length) (H ++ [.list ys]) := rfl
theorem sl_1 {a : V} {l : List V} : cutL (.int 1) .none (a :: l) = some l := rfl
theorem sl_2 {a b : V} {l : List V} : cutL (.int 2) .none (a :: b :: l) = some l := rfl
theorem oi_none : optInt .none = some none := rfl
theorem oi_int : optInt (.int i) = some (some i) := rfl
theorem X_slice {L : Lc} {o : IE} {lo hi : Option IE} : (wp2 Φ (.slice o lo hi)).E L H Q X = (wp2 Φ o).E L H (fun vo H1 => wpO Φ lo L H1 (fun vl H2 => wpO Φ hi L H2 (fun vh H3 => pSlice vo vl vh H3 Q) X) X) X := rfl
theorem XO_none {L : Lc} : wpO Φ none L H Q X = Q .none H := rfl
theorem XO_some {L : Lc} {e : IE} : wpO Φ (some e) L H Q X = (wp2 Φ e).E L H Q X := rfl
theorem u_rev {R : List V → (Hp → Prop) → Prop} : pSrc .rev (.ref n) H R = oK (listAt H n) fun l => R l.reverse (fun H' => listAt H' n = some l) := rfl
theorem u_range {R : List V → (Hp → Prop) → Prop} : pSrc .range (.int i) H R = ((-(2 ^ 62) ≤ i ∧ i ≤ 1000000) ∧ R (rangeL 0 i) (fun _ => True)) := rfl
end
theorem fn_of {Φ : Orc} {f : Fn} {vs : List V} {H : Hp} {Q : V → Hp → Prop} {X : XL} (h1 : vs.length = f.params) (h : wpSs Φ f.body (initL f vs) H (fun fl _ H1 => Q (retV fl) H1) (fun x _ H1 => X x H1)) : wpFn Φ f vs H Q X := ⟨h1, h⟩
theorem retV_ret {v : V} : retV (.ret v) = v := rfl
theorem retV_next : retV .next = .none := rfl
theorem idx_0 {α : Type} {l : List α} : idx l 0 = l[0]? := rfl
theorem idx_1 {α : Type} {l : List α} : idx l 1 = l[1]? := rfl
theorem idx_2 {α : Type} {l : List α} : idx l 2 = l[2]? := rfl
theorem idx_3 {α : Type} {l : List α} : idx l 3 = l[3]? := rfl
theorem idx_4 {α : Type} {l : List α} : idx l 4 = l[4]? := rfl
theorem idx_5 {α : Type} {l : List α} : idx l 5 = l[5]? := rfl
theorem iP_0 {α : Type} {l : List α} : idxP l 0 = l[0]? := rfl
theorem iP_1 {α : Type} {l : List α} : idxP l 1 = l[1]? := rfl
theorem iP_2 {α : Type} {l : List α} : idxP l 2 = l[2]? := rfl
theorem iP_3 {α : Type} {l : List α} : idxP l 3 = l[3]? := rfl
/- the oracle grows -/
noncomputable def ext (n : Str) (C : List V → Hp → (V → Hp → Prop) → XL → Prop) (Φ : Orc) : Orc := fun x vs H Q X => if x == n then C vs H Q X else Φ x vs H Q X
noncomputable def noΦ : Orc := fun _ _ _ _ _ => False
section
variable {Φ : Orc} {L : Lc} {H : Hp} {Q : V → Hp → Prop} {X : XL} {o a : IE} {j : Bool} {x y : Str} {i : Nat} {n : Int} {lo hi v : V} {R : List V → (Hp → Prop) → Prop}
theorem X_strm : (wp2 Φ (.strm o j a)).E L H Q X = (wp2 Φ o).E L H (fun vo H1 => oK (strV vo) fun x => (wp2 Φ a).E L H1 (fun va H2 => pStrm j x va H2 Q) X) X := rfl
theorem sV_str : strV (.str x) = some x := rfl
theorem q_join : pStrm true x (.ref i) H Q = oK (listAt H i) fun l => oK (strsOf l) fun ys => (ys.map (·.length)).sum + ys.length * x.length ≤ 1000000 ∧ Q (.str (Str.join x ys)) H := rfl
theorem q_split : pStrm false x (.str y) H Q = (((y.length == 0) = false ∧ x.length ≤ 1000000) ∧ Q (.ref H.length) (H ++ [.list ((Txt.split x y).map .str)])) := rfl
theorem q_strint : pCall Φ (.ty .str) [.int n] H Q X = ((n.natAbs < 2 ^ 64 ∧ (Str.ofString (toString n)).length ≤ 1000000) ∧ Q (.str (Str.ofString (toString n))) H) := rfl
theorem q_strstr : pCall Φ (.ty .str) [.str x] H Q X = Q (.str x) H := rfl
theorem q_intstr : pCall Φ (.ty .int) [.str x] H Q X = oK (intText? x) fun n => x.length ≤ 640 ∧ Q (.int n) H := rfl
theorem q_lenstr : pCall Φ (.bi .len) [.str x] H Q X = Q (.int (x.length : Int)) H := rfl
theorem q_sstr {i : Int} : pSub (.str x) (.int i) H Q = oK (idxP x.cps.toList i) fun c => Q (.str ⟨#[c]⟩) H := rfl
theorem q_slices : pSlice (.str x) lo hi H Q = oK (optInt lo) fun l => oK (optInt hi) fun h => Q (.str (Txt.slice x l h)) H := rfl
theorem q_ins : pCmp .In v (.str x) H Q = oK (strV v) fun y => Q (.bool (Txt.contains x y)) H := rfl
theorem q_nins : pCmp .NotIn v (.str x) H Q = oK (strV v) fun y => Q (.bool (!Txt.contains x y)) H := rfl
theorem u_str : pSrc .val (.str x) H R = (x.cps.all (· < 128) = true ∧ R (x.cps.toList.map fun c => V.str ⟨#[c]⟩) (fun _ => True)) := rfl
end
theorem listAt_pre {H H' : Hp} {i : Nat} {l : List V} (p : H <+: H') (h : listAt H i = some l) : listAt H' i = some l := by
  obtain ⟨Δ, rfl⟩ := p
  unfold listAt at h ⊢
  split at h
  · rename_i xs e
    rw [List.getElem?_append_left (List.getElem?_eq_some_iff.mp e).1, e]
    exact h
  · cases h
theorem listAt_new {H : Hp} {l : List V} : listAt (H ++ [.list l]) H.length = some l := by simp [listAt]
theorem set_new {H : Hp} {l m : List V} : (H ++ [O.list l]).set H.length (.list m) = H ++ [.list m] := by simp
theorem pre_new {H : Hp} {o : O} : H <+: H ++ [o] := List.prefix_append _ _
theorem idx_nat {α : Type} {l : List α} {k : Nat} : idx l (k : Int) = l[k]? := by simp [idx]
end Mine

local macro_rules | `(tactic| simp_arith only [$a,*]) => `(tactic| simp only [↓Mine.X_lit, ↓Mine.X_loc, ↓Mine.X_bin, ↓Mine.negX_int, ↓Mine.X_neg, ↓Mine.X_not, ↓Mine.Y_not, ↓Mine.X_and, ↓Mine.Y_and, ↓Mine.X_or, ↓Mine.Y_or, ↓Mine.X_cmp, ↓Mine.X_cmp2, ↓Mine.X_ite, ↓Mine.Y_ite, ↓Mine.X_tup, ↓Mine.X_lst, ↓Mine.X_call, ↓Mine.X_meth, ↓Mine.X_sub, ↓Mine.X_comp, ↓Mine.Y_lit, ↓Mine.Y_loc, ↓Mine.Y_cmp, ↓Mine.Y_cmp2, ↓Mine.Y_call, ↓Mine.Y_sub, ↓Mine.XEs_nil, ↓Mine.XEs_cons, ↓Mine.Z_expr, ↓Mine.Z_assign, ↓Mine.Z_ret, ↓Mine.Z_ite, ↓Mine.Z_for, ↓Mine.Z_raise, ↓Mine.Zs_nil, ↓Mine.sqX_next, ↓Mine.sqX_ret, ↓Mine.Zs_cons, ↓Mine.wkX_next, ↓Mine.wkX_ret, ↓Mine.fkX_next, ↓Mine.fkX_ret, ↓Mine.oKK_some, ↓Mine.oK_some, ↓Mine.tX_bool, ↓Mine.iX_t, ↓Mine.iX_f, ↓Mine.iX_d, ↓Mine.q_add, ↓Mine.q_sub, ↓Mine.q_mul, ↓Mine.q_div, ↓Mine.q_mod, ↓Mine.q_pow, ↓Mine.q_list, ↓Mine.q_eq, ↓Mine.q_ne, ↓Mine.q_eqs, ↓Mine.q_nes, ↓Mine.q_lt, ↓Mine.q_le, ↓Mine.q_gt, ↓Mine.q_ge, ↓Mine.q_in, ↓Mine.q_inl, ↓Mine.q_nin, ↓Mine.q_stup, ↓Mine.q_sref, ↓Mine.q_sscr, ↓Mine.q_fn, ↓Mine.q_lentup, ↓Mine.q_lenref, ↓Mine.q_lenscr, ↓Mine.q_isi, ↓Mine.q_all, ↓Mine.q_int, ↓Mine.q_tuple, ↓Mine.q_append, ↓Mine.q_slicet, ↓Mine.q_set, ↓Mine.q_repr, ↓Mine.q_eqo, ↓Mine.Z_set, ↓Mine.q_listt, ↓Mine.q_ninl, ↓Mine.u_tup, ↓Mine.u_ref, ↓Mine.u_range, ↓Mine.q_slice, ↓Mine.oi_none, ↓Mine.oi_int, ↓Mine.X_slice, ↓Mine.XO_none, ↓Mine.XO_some, ↓Mine.u_rev, ↓Mine.X_zlt, ↓Mine.q_zlt, ↓Mine.retV_ret, ↓Mine.retV_next, List.getElem?_cons_zero, List.getElem?_cons_succ, List.set_cons_zero, List.set_cons_succ, Bool.not_true, Bool.not_false, Mine.idx_0, Mine.idx_1, Mine.idx_2, Mine.idx_3, Mine.idx_4, Mine.idx_5, Mine.iP_0, Mine.iP_1, Mine.iP_2, Mine.iP_3, Int.reduceAdd, Int.reduceSub, Int.reduceMul, Int.reduceNeg, Int.reducePow, Int.reduceLT, Int.reduceLE, Int.reduceEq, Int.reduceNe, Int.reduceToNat, Int.reduceAbs, Nat.reduceAdd, Nat.reduceLT, Nat.reduceLeDiff, Nat.reducePow, Nat.reduceLT, List.length_cons, List.length_nil, true_implies, false_implies, not_true_eq_false, not_false_eq_true, and_true, true_and, and_self, or_true, true_or, decide_true, decide_false, exists_eq_left', Option.some.injEq, $a,*])
local macro_rules | `(tactic| simp_arith! only [$a,*]) => `(tactic| simp only [↓Mine.X_lit, ↓Mine.X_loc, ↓Mine.X_bin, ↓Mine.negX_int, ↓Mine.X_neg, ↓Mine.X_not, ↓Mine.Y_not, ↓Mine.X_and, ↓Mine.Y_and, ↓Mine.X_or, ↓Mine.Y_or, ↓Mine.X_cmp, ↓Mine.X_cmp2, ↓Mine.X_ite, ↓Mine.Y_ite, ↓Mine.X_tup, ↓Mine.X_lst, ↓Mine.X_call, ↓Mine.X_meth, ↓Mine.X_sub, ↓Mine.X_comp, ↓Mine.Y_lit, ↓Mine.Y_loc, ↓Mine.Y_cmp, ↓Mine.Y_cmp2, ↓Mine.Y_call, ↓Mine.Y_sub, ↓Mine.XEs_nil, ↓Mine.XEs_cons, ↓Mine.Z_expr, ↓Mine.Z_assign, ↓Mine.Z_ret, ↓Mine.Z_ite, ↓Mine.Z_for, ↓Mine.Z_raise, ↓Mine.Zs_nil, ↓Mine.sqX_next, ↓Mine.sqX_ret, ↓Mine.Zs_cons, ↓Mine.wkX_next, ↓Mine.wkX_ret, ↓Mine.fkX_next, ↓Mine.fkX_ret, ↓Mine.oKK_some, ↓Mine.oK_some, ↓Mine.tX_bool, ↓Mine.iX_t, ↓Mine.iX_f, ↓Mine.iX_d, ↓Mine.q_add, ↓Mine.q_sub, ↓Mine.q_mul, ↓Mine.q_div, ↓Mine.q_mod, ↓Mine.q_pow, ↓Mine.q_list, ↓Mine.q_eq, ↓Mine.q_ne, ↓Mine.q_eqs, ↓Mine.q_nes, ↓Mine.q_lt, ↓Mine.q_le, ↓Mine.q_gt, ↓Mine.q_ge, ↓Mine.q_in, ↓Mine.q_inl, ↓Mine.q_nin, ↓Mine.q_stup, ↓Mine.q_sref, ↓Mine.q_sscr, ↓Mine.q_fn, ↓Mine.q_lentup, ↓Mine.q_lenref, ↓Mine.q_lenscr, ↓Mine.q_isi, ↓Mine.q_all, ↓Mine.q_int, ↓Mine.q_tuple, ↓Mine.q_append, ↓Mine.q_slicet, ↓Mine.q_set, ↓Mine.q_repr, ↓Mine.q_eqo, ↓Mine.Z_set, ↓Mine.q_listt, ↓Mine.q_ninl, ↓Mine.u_tup, ↓Mine.u_ref, ↓Mine.u_range, ↓Mine.q_slice, ↓Mine.oi_none, ↓Mine.oi_int, ↓Mine.X_slice, ↓Mine.XO_none, ↓Mine.XO_some, ↓Mine.u_rev, ↓Mine.X_zlt, ↓Mine.q_zlt, ↓Mine.retV_ret, ↓Mine.retV_next, List.getElem?_cons_zero, List.getElem?_cons_succ, List.set_cons_zero, List.set_cons_succ, Bool.not_true, Bool.not_false, Mine.idx_0, Mine.idx_1, Mine.idx_2, Mine.idx_3, Mine.idx_4, Mine.idx_5, Mine.iP_0, Mine.iP_1, Mine.iP_2, Mine.iP_3, Int.reduceAdd, Int.reduceSub, Int.reduceMul, Int.reduceNeg, Int.reducePow, Int.reduceLT, Int.reduceLE, Int.reduceEq, Int.reduceNe, Int.reduceToNat, Int.reduceAbs, Nat.reduceAdd, Nat.reduceLT, Nat.reduceLeDiff, Nat.reducePow, Nat.reduceLT, List.length_cons, List.length_nil, true_implies, false_implies, not_true_eq_false, not_false_eq_true, and_true, true_and, and_self, or_true, true_or, decide_true, decide_false, exists_eq_left', Option.some.injEq, ↓Mine.X_strm, ↓Mine.sV_str, ↓Mine.q_join, ↓Mine.q_split, ↓Mine.q_strint, ↓Mine.q_strstr, ↓Mine.q_intstr, ↓Mine.q_lenstr, ↓Mine.q_slices, ↓Mine.q_ins, ↓Mine.q_nins, ↓Mine.u_str, $a,*])
set_option autoImplicit false
/- How the abstract values and heaps lie in the machine's heap; steps. -/
namespace Mine
open PySem

structure Wd where
  prog : Program
  w : World
  hB : Heap
  mg : Str → Option Value
  mb : Str → Option Value
  ex : List (Str × List Str)
  fr : List Env

noncomputable def TupAt (h : Heap) (a : Addr) (vs : List Value) : Prop := ∃ n, h.get? a = some { cls := .type "tuple", data := .seq vs.toArray n } ∧ vs.length ≤ 2000000

noncomputable def StrFine (x : Str) : Prop := x.length ≤ 2000000 ∧ PyData.strOk x = true

mutual
noncomputable def Rep (mg : Wd) (γ : List Addr) (h : Heap) (v : Value) : V → Prop
  | .none => v = .none
  | .bool b => v = .bool b
  | .int i => ∃ t, v = .int i t
  | .str s => ∃ t, v = .str s t ∧ StrFine s
  | .opq s => ∃ t, v = .str s t
  | .tup l => ∃ a vs, v = .ref a ∧ TupAt h a vs ∧ Reps mg γ h vs l
  | .ref i => ∃ a, γ[i]? = some a ∧ v = .ref a
  | .fn x => ∃ a, v = .ref a ∧ mg.mg x = some (.ref a)
  | .ty n => v = .type n.name
  | .bi n => v = .builtin n.name
  | .scr ns => ∃ (a : Addr) (vs : List Value), v = .ref a ∧ mg.hB.IsList a vs.toArray ∧ vs.length ≤ 2000000 ∧ vs.length = ns.length ∧ ∀ (k : Nat) (i : Int), ns[k]? = some i → ∃ t, vs[k]? = some (.int i t)
  | .cls x _ => ∃ a, v = .ref a ∧ mg.mg x = some (.ref a)
noncomputable def Reps (mg : Wd) (γ : List Addr) (h : Heap) (vs : List Value) : List V → Prop
  | [] => vs = []
  | V :: l => ∃ v r, vs = v :: r ∧ Rep mg γ h v V ∧ Reps mg γ h r l
end

noncomputable def ORep (mg : Wd) (γ : List Addr) (h : Heap) (a : Addr) : O → Prop
  | .list xs => ∃ vs n, h.get? a = some { cls := .type "list", data := .seq vs.toArray n } ∧ Reps mg γ h vs xs ∧ vs.length ≤ 2000000

/- the frames that are open -/
noncomputable def NotD (o : Obj) : Prop := ∀ es n, o.data ≠ .dict es n
noncomputable def FrsOk (D : Wd) (h : Heap) : Prop := ∀ e ∈ D.fr, e.scope.kind = .function ∧ ∃ (L : Addr) (o : Obj), e.frame = some L ∧ D.hB.get? L = none ∧ h.get? L = some o ∧ ¬ NotD o
theorem FrsOk.grow {D : Wd} {h h' : Heap} (f : FrsOk D h) (hk : ∀ b o, h.get? b = some o → h'.get? b = some o) : FrsOk D h' := fun e he => by
  first | refine e3_4 (f e he) fun k L o a b c d => ?_ | obtain ⟨k, L, o, a, b, c, d⟩ := f e he
  exact ⟨k, L, o, a, b, hk _ _ c, d⟩
theorem FrsOk.but {D : Wd} {h h' : Heap} {I : Addr} (f : FrsOk D h) (hk : ∀ b o, b ≠ I → h.get? b = some o → h'.get? b = some o) (hI : (∃ o, h.get? I = some o ∧ NotD o) ∨ (∃ o, h'.get? I = some o ∧ ¬ NotD o)) : FrsOk D h' := fun e he => by
  first | refine e3_4 (f e he) fun k L o a b c d => ?_ | obtain ⟨k, L, o, a, b, c, d⟩ := f e he
  by_cases hL : L = I
  · subst hL
    rcases hI with ⟨o', e1, e2⟩ | ⟨o', e1, e2⟩
    · rw [c] at e1; cases e1; exact absurd e2 d
    · exact ⟨k, L, o', a, b, e1, e2⟩
  · exact ⟨k, L, o, a, b, hk _ _ hL c, d⟩

theorem FrsOk.ne {D : Wd} {h : Heap} {I : Addr} (f : FrsOk D h) (hn : h.get? I = none) : ∀ e ∈ D.fr, e.frame ≠ some I := fun e he q => by
  first | refine e3_4 (f e he) fun k L o a b c d => ?_ | obtain ⟨k, L, o, a, b, c, d⟩ := f e he
  rw [q] at a; cases a
  rw [hn] at c; cases c
theorem FrsOk.butN {D : Wd} {h h' : Heap} {I : Addr} (f : FrsOk D h) (hk : ∀ b o, b ≠ I → h.get? b = some o → h'.get? b = some o) (hI : ∀ e ∈ D.fr, e.frame ≠ some I) : FrsOk D h' := fun e he => by
  first | refine e3_4 (f e he) fun k L o a b c d => ?_ | obtain ⟨k, L, o, a, b, c, d⟩ := f e he
  exact ⟨k, L, o, a, b, hk _ _ (fun q => hI e he (q ▸ a)) c, d⟩

structure HRel (D : Wd) (γ : List Addr) (H : Hp) (h : Heap) : Prop where
  len : γ.length = H.length
  nodup : γ.Nodup
  objs : ∀ (i : Nat) (a : Addr) (o : O), γ[i]? = some a → H[i]? = some o → ORep D γ h a o
  fresh : ∀ a ∈ γ, D.hB.get? a = none
  base : ∀ b o, D.hB.get? b = some o → h.get? b = some o
  frs : FrsOk D h

structure Stp (wr γ γ' : List Addr) (s s' : Shared) : Prop where
  same : ∃ h' tk, s' = { s with heap := h', toks := tk }
  keepS : ∀ b o, b ∉ γ → b ∉ wr → s.heap.get? b = some o → ∃ sl, s'.heap.get? b = some { o with slots := sl } ∧ (NotD o → sl = o.slots)
  ext : ∃ δ, γ' = γ ++ δ ∧ ∀ a ∈ δ, s.heap.get? a = none

theorem Stp.keep {wr γ γ' : List Addr} {s s' : Shared} (t : Stp wr γ γ' s s') (b : Addr) (o : Obj) (h1 : b ∉ γ) (h2 : b ∉ wr) (nd : NotD o) (e : s.heap.get? b = some o) : s'.heap.get? b = some o := by
  first | refine e2_1 (t.keepS b o h1 h2 e) fun sl e' q => ?_ | refine e1_2 (t.keepS b o h1 h2 e) fun sl e' q => ?_ | refine e0_3 (t.keepS b o h1 h2 e) fun sl e' q => ?_ | obtain ⟨sl, e', q⟩ := t.keepS b o h1 h2 e
  rw [q nd] at e'; exact e'
theorem Stp.of {wr γ γ' : List Addr} {s s' : Shared} (h1 : ∃ h' tk, s' = { s with heap := h', toks := tk }) (h2 : ∀ b o, b ∉ γ → b ∉ wr → s.heap.get? b = some o → s'.heap.get? b = some o) (h3 : ∃ δ, γ' = γ ++ δ ∧ ∀ a ∈ δ, s.heap.get? a = none) : Stp wr γ γ' s s' :=
  ⟨h1, fun b o a c e => ⟨o.slots, h2 b o a c e, fun _ => rfl⟩, h3⟩
theorem Stp.ns {wr γ γ' : List Addr} {s s' : Shared} (t : Stp wr γ γ' s s') {b : Addr} {m : Str → Option Value} (h1 : b ∉ γ) (h2 : b ∉ wr) (n : s.heap.Ns b m) : s'.heap.Ns b m := by
  first | refine e3_2 n fun o es ep ho r => ?_ | refine e2_3 n fun o es ep ho r => ?_ | refine e1_4 n fun o es ep ho r => ?_ | obtain ⟨o, es, ep, ho, r⟩ := n
  first | refine e2_1 (t.keepS b o h1 h2 ho) fun sl e' _ => ?_ | refine e1_2 (t.keepS b o h1 h2 ho) fun sl e' _ => ?_ | refine e0_3 (t.keepS b o h1 h2 ho) fun sl e' _ => ?_ | obtain ⟨sl, e', _⟩ := t.keepS b o h1 h2 ho
  exact ⟨_, es, ep, e', r⟩
theorem Stp.live {wr γ γ' : List Addr} {s s' : Shared} (t : Stp wr γ γ' s s') {b : Addr} {o : Obj} (h1 : b ∉ γ) (h2 : b ∉ wr) (e : s.heap.get? b = some o) : ∃ o', s'.heap.get? b = some o' := by
  first | refine e2_1 (t.keepS b o h1 h2 e) fun sl e' _ => ?_ | refine e1_2 (t.keepS b o h1 h2 e) fun sl e' _ => ?_ | refine e0_3 (t.keepS b o h1 h2 e) fun sl e' _ => ?_ | obtain ⟨sl, e', _⟩ := t.keepS b o h1 h2 e
  exact ⟨_, e'⟩
theorem notD_seq {o : Obj} {vs : Array Value} {n : Nat} (h : o.data = .seq vs n) : NotD o := fun es m q => by rw [h] at q; cases q
theorem notD_fields {o : Obj} {vs : Array Value} (h : o.data = .fields vs) : NotD o := fun es m q => by rw [h] at q; cases q
theorem isD_ns {h : Heap} {b : Addr} {m : Str → Option Value} (n : h.Ns b m) : ∃ o, h.get? b = some o ∧ ¬ NotD o := by
  first | refine e3_3 n fun o es ep ho hd _ => ?_ | refine e2_4 n fun o es ep ho hd _ => ?_ | obtain ⟨o, es, ep, ho, hd, _⟩ := n
  exact ⟨o, ho, fun q => q es ep hd⟩

theorem HRel.alive {D : Wd} {γ : List Addr} {H : Hp} {h : Heap} (R : HRel D γ H h) {a : Addr} (ha : a ∈ γ) : ∃ o, h.get? a = some o ∧ o.cls ≠ .type "tuple" ∧ (∀ es n, o.data ≠ .dict es n) ∧ (∀ v, o.data ≠ .cell v) := by
  first | refine e2_1 (List.getElem_of_mem ha) fun i hi e_7 => ?_ | refine e1_2 (List.getElem_of_mem ha) fun i hi e_7 => ?_ | refine e0_3 (List.getElem_of_mem ha) fun i hi e_7 => ?_ | obtain ⟨i, hi, e_7⟩ := List.getElem_of_mem ha
  obtain rfl := e_7
  have hH : i < H.length := R.len ▸ hi
  have := R.objs i γ[i] H[i] (by simp [hi]) (by simp [hH])
  cases ho : H[i] with
  | list xs =>
    rw [ho] at this
    first | refine e3_1 this fun vs n e _ => ?_ | refine e2_2 this fun vs n e _ => ?_ | refine e1_3 this fun vs n e _ => ?_ | refine e0_4 this fun vs n e _ => ?_ | obtain ⟨vs, n, e, _⟩ := this
    exact ⟨_, e, (by simp), (by intro es n q; cases q), (by intro v q; cases q)⟩

theorem Stp.refl {wr γ : List Addr} {s : Shared} : Stp wr γ γ s s := .of ⟨s.heap, s.toks, rfl⟩ (fun _ _ _ _ e => e) ⟨[], by simp, by simp⟩

theorem Stp.trans {D : Wd} {wr γ γ1 γ2 : List Addr} {s s1 s2 : Shared} {H1 : Hp} (R1 : HRel D γ1 H1 s1.heap) (a : Stp wr γ γ1 s s1) (b : Stp wr γ1 γ2 s1 s2)
    (hw : ∀ x ∈ wr, ∀ o, s.heap.get? x = some o → ∃ o', s1.heap.get? x = some o') : Stp wr γ γ2 s s2 := by
  first | refine e2_1 (a.ext) fun δ1 e_8 f1 => ?_ | refine e1_2 (a.ext) fun δ1 e_8 f1 => ?_ | refine e0_3 (a.ext) fun δ1 e_8 f1 => ?_ | obtain ⟨δ1, e_8, f1⟩ := a.ext
  obtain rfl := e_8
  first | refine e2_1 (b.ext) fun δ2 e_9 f2 => ?_ | refine e1_2 (b.ext) fun δ2 e_9 f2 => ?_ | refine e0_3 (b.ext) fun δ2 e_9 f2 => ?_ | obtain ⟨δ2, e_9, f2⟩ := b.ext
  obtain rfl := e_9
  refine ⟨?_, ?_, ⟨δ1 ++ δ2, by simp, ?_⟩⟩
  · first | refine e2_1 (a.same) fun h1 t1 e_10 => ?_ | refine e1_2 (a.same) fun h1 t1 e_10 => ?_ | refine e0_3 (a.same) fun h1 t1 e_10 => ?_ | obtain ⟨h1, t1, e_10⟩ := a.same
    obtain rfl := e_10
    first | refine e2_1 (b.same) fun h2 t2 e_11 => ?_ | refine e1_2 (b.same) fun h2 t2 e_11 => ?_ | refine e0_3 (b.same) fun h2 t2 e_11 => ?_ | obtain ⟨h2, t2, e_11⟩ := b.same
    obtain rfl := e_11
    exact ⟨h2, t2, rfl⟩
  · intro x o hx hxw e
    first | refine e2_1 (a.keepS x o hx hxw e) fun sl1 e1 q1 => ?_ | refine e1_2 (a.keepS x o hx hxw e) fun sl1 e1 q1 => ?_ | refine e0_3 (a.keepS x o hx hxw e) fun sl1 e1 q1 => ?_ | obtain ⟨sl1, e1, q1⟩ := a.keepS x o hx hxw e
    have hx2 : x ∉ γ ++ δ1 := ?_
    first | refine e2_1 (b.keepS x _ hx2 hxw e1) fun sl2 e2 q2 => ?_ | refine e1_2 (b.keepS x _ hx2 hxw e1) fun sl2 e2 q2 => ?_ | refine e0_3 (b.keepS x _ hx2 hxw e1) fun sl2 e2 q2 => ?_ | obtain ⟨sl2, e2, q2⟩ := b.keepS x _ hx2 hxw e1
    exact ⟨sl2, e2, fun nd => (q2 nd).trans (q1 nd)⟩
    intro hm
    rcases List.mem_append.mp hm with q | q
    · exact hx q
    · rw [f1 x q] at e; cases e
  · intro x hx
    rcases List.mem_append.mp hx with q | q
    · exact f1 x q
    · cases e : s.heap.get? x with
      | none => rfl
      | some o =>
        have hn := f2 x q
        by_cases hg : x ∈ γ
        · first | refine e2_1 (R1.alive (List.mem_append_left _ hg)) fun o' e' _ => ?_ | refine e1_2 (R1.alive (List.mem_append_left _ hg)) fun o' e' _ => ?_ | refine e0_3 (R1.alive (List.mem_append_left _ hg)) fun o' e' _ => ?_ | obtain ⟨o', e', _⟩ := R1.alive (List.mem_append_left _ hg)
          rw [e'] at hn; cases hn
        · by_cases hxw : x ∈ wr
          · obtain ⟨o', e'⟩ := hw x hxw o e
            rw [e'] at hn; cases hn
          · obtain ⟨o', e'⟩ := a.live hg hxw e
            rw [e'] at hn; cases hn

theorem Stp.trans0 {D : Wd} {γ γ1 γ2 : List Addr} {s s1 s2 : Shared} {H1 : Hp} (R1 : HRel D γ1 H1 s1.heap) (a : Stp [] γ γ1 s s1) (b : Stp [] γ1 γ2 s1 s2) : Stp [] γ γ2 s s2 :=
  a.trans R1 b (by simp)

theorem Stp.weak {wr γ γ' : List Addr} {s s' : Shared} (a : Stp [] γ γ' s s') : Stp wr γ γ' s s' := ⟨a.same, fun b o h1 _ e => a.keepS b o h1 (by simp) e, a.ext⟩

theorem getElem?_ext {γ γ' : List Addr} {i : Nat} {a : Addr} (h : ∃ δ, γ' = γ ++ δ) (e : γ[i]? = some a) : γ'[i]? = some a := by
  obtain ⟨δ, rfl⟩ := h
  rw [List.getElem?_append_left]
  · exact e
  · obtain ⟨h1, _⟩ := List.getElem?_eq_some_iff.mp e; exact h1

theorem nodup_inj {l : List Addr} (hn : l.Nodup) {i j : Nat} (hi : i < l.length) (hj : j < l.length) (e : l[i] = l[j]) : i = j := by
  have p := List.pairwise_iff_getElem.mp hn
  rcases Nat.lt_trichotomy i j with q | q | q
  · exact absurd e (p i j hi hj q)
  · exact q
  · exact absurd e.symm (p j i hj hi q)

mutual
theorem Rep.mono {mg : Wd} {γ γ' : List Addr} {h h' : Heap} (hg : ∃ δ, γ' = γ ++ δ) (hk : ∀ a vs, TupAt h a vs → TupAt h' a vs) {v : Value} : ∀ {V : V}, Rep mg γ h v V → Rep mg γ' h' v V
  | .none, x => by simpa only [Rep] using x
  | .bool _, x => by simpa only [Rep] using x
  | .int _, x => by simpa only [Rep] using x
  | .str _, x => by simpa only [Rep] using x
  | .opq _, x => by simpa only [Rep] using x
  | .tup l, x => by
    simp only [Rep] at x ⊢
    first | refine e3_2 x fun a vs e t r => ?_ | refine e2_3 x fun a vs e t r => ?_ | refine e1_4 x fun a vs e t r => ?_ | obtain ⟨a, vs, e, t, r⟩ := x
    exact ⟨a, vs, e, hk _ _ t, Reps.mono hg hk r⟩
  | .ref _, x => by
    simp only [Rep] at x ⊢
    first | refine e2_1 x fun a e r => ?_ | refine e1_2 x fun a e r => ?_ | refine e0_3 x fun a e r => ?_ | obtain ⟨a, e, r⟩ := x
    exact ⟨a, getElem?_ext hg e, r⟩
  | .fn _, x => by simpa only [Rep] using x
  | .ty _, x => by simpa only [Rep] using x
  | .bi _, x => by simpa only [Rep] using x
  | .scr _, x => by simpa only [Rep] using x
  | .cls _ _, x => by simpa only [Rep] using x
theorem Reps.mono {mg : Wd} {γ γ' : List Addr} {h h' : Heap} (hg : ∃ δ, γ' = γ ++ δ) (hk : ∀ a vs, TupAt h a vs → TupAt h' a vs) {vs : List Value} : ∀ {l : List V}, Reps mg γ h vs l → Reps mg γ' h' vs l
  | [], x => by simpa only [Reps] using x
  | V :: l, x => by
    simp only [Reps] at x ⊢
    first | refine e3_2 x fun v r e a b => ?_ | refine e2_3 x fun v r e a b => ?_ | refine e1_4 x fun v r e a b => ?_ | obtain ⟨v, r, e, a, b⟩ := x
    exact ⟨v, r, e, Rep.mono hg hk a, Reps.mono hg hk b⟩
end

theorem Reps.length {mg : Wd} {γ : List Addr} {h : Heap} : ∀ {vs : List Value} {l : List V}, Reps mg γ h vs l → vs.length = l.length
  | vs, [], x => by simp only [Reps] at x; simp [x]
  | vs, V :: l, x => by
    simp only [Reps] at x
    first | refine e3_2 x fun v r e_12 _ b => ?_ | refine e2_3 x fun v r e_12 _ b => ?_ | refine e1_4 x fun v r e_12 _ b => ?_ | obtain ⟨v, r, e_12, _, b⟩ := x
    obtain rfl := e_12
    simp [Reps.length b]

theorem Reps.get {mg : Wd} {γ : List Addr} {h : Heap} : ∀ {vs : List Value} {l : List V} {k : Nat} {V : V}, Reps mg γ h vs l → l[k]? = some V → ∃ v, vs[k]? = some v ∧ Rep mg γ h v V
  | vs, [], _, _, _, e => by simp at e
  | vs, V :: l, k, W, x, e => by
    simp only [Reps] at x
    first | refine e3_2 x fun v r e_13 a b => ?_ | refine e2_3 x fun v r e_13 a b => ?_ | refine e1_4 x fun v r e_13 a b => ?_ | obtain ⟨v, r, e_13, a, b⟩ := x
    obtain rfl := e_13
    cases k with
    | zero => simp at e; subst e; exact ⟨v, by simp, a⟩
    | succ k => simp at e; obtain ⟨u, hu, ru⟩ := Reps.get b e; exact ⟨u, by simpa using hu, ru⟩

theorem Reps.append {mg : Wd} {γ : List Addr} {h : Heap} : ∀ {vs : List Value} {l : List V} {ws : List Value} {m : List V}, Reps mg γ h vs l → Reps mg γ h ws m → Reps mg γ h (vs ++ ws) (l ++ m)
  | vs, [], ws, m, x, y => by simp only [Reps] at x; subst x; simpa using y
  | vs, V :: l, ws, m, x, y => by
    simp only [Reps] at x
    first | refine e3_2 x fun v r e_14 a b => ?_ | refine e2_3 x fun v r e_14 a b => ?_ | refine e1_4 x fun v r e_14 a b => ?_ | obtain ⟨v, r, e_14, a, b⟩ := x
    obtain rfl := e_14
    simp only [List.cons_append, Reps]
    exact ⟨v, r ++ ws, rfl, a, Reps.append b y⟩

theorem Reps.drop {mg : Wd} {γ : List Addr} {h : Heap} : ∀ {vs : List Value} {l : List V} (n : Nat), Reps mg γ h vs l → Reps mg γ h (vs.drop n) (l.drop n)
  | vs, l, 0, x => by simpa using x
  | vs, [], n + 1, x => by simp only [Reps] at x; subst x; simp only [List.drop_nil, Reps]
  | vs, V :: l, n + 1, x => by
    simp only [Reps] at x
    first | refine e3_2 x fun v r e_15 a b => ?_ | refine e2_3 x fun v r e_15 a b => ?_ | refine e1_4 x fun v r e_15 a b => ?_ | obtain ⟨v, r, e_15, a, b⟩ := x
    obtain rfl := e_15
    simpa using Reps.drop n b
theorem Reps.take {mg : Wd} {γ : List Addr} {h : Heap} : ∀ {vs : List Value} {l : List V} (n : Nat), Reps mg γ h vs l → Reps mg γ h (vs.take n) (l.take n)
  | vs, l, 0, x => by simp only [List.take_zero, Reps]
  | vs, [], n + 1, x => by simp only [Reps] at x; subst x; simp only [List.take_nil, Reps]
  | vs, V :: l, n + 1, x => by
    simp only [Reps] at x
    first | refine e3_2 x fun v r e_16 a b => ?_ | refine e2_3 x fun v r e_16 a b => ?_ | refine e1_4 x fun v r e_16 a b => ?_ | obtain ⟨v, r, e_16, a, b⟩ := x
    obtain rfl := e_16
    simp only [List.take_succ_cons, Reps]
    exact ⟨v, _, rfl, a, Reps.take n b⟩
theorem Reps.one {mg : Wd} {γ : List Addr} {h : Heap} {v : Value} {V : V} (x : Rep mg γ h v V) : Reps mg γ h [v] [V] := by
  simp only [Reps]; exact ⟨v, [], rfl, x, rfl⟩

theorem Reps.of_get {mg : Wd} {γ : List Addr} {h : Heap} : ∀ {vs : List Value} {l : List V}, vs.length = l.length → (∀ (k : Nat) (v : Value) (V : V), vs[k]? = some v → l[k]? = some V → Rep mg γ h v V) → Reps mg γ h vs l
  | [], [], _, _ => by simp only [Reps]
  | [], _ :: _, e, _ => by simp at e
  | _ :: _, [], e, _ => by simp at e
  | v :: vs, V :: l, e, f => by
    simp only [Reps]
    exact ⟨v, vs, rfl, f 0 v V (by simp) (by simp), Reps.of_get (by simpa using e) fun k u U h1 h2 => f (k + 1) u U (by simpa using h1) (by simpa using h2)⟩

section
variable {D : Wd} {wr γ γ' : List Addr} {H : Hp} {s s' : Shared}

theorem TupAt.stp (R : HRel D γ H s.heap) (t : Stp wr γ γ' s s') (hw : ∀ x ∈ wr, ∀ ws, ¬ TupAt s.heap x ws) {a : Addr} {vs : List Value} (x : TupAt s.heap a vs) : TupAt s'.heap a vs := by
  first | refine e2_1 (id x) fun n e f => ?_ | refine e1_2 (id x) fun n e f => ?_ | refine e0_3 (id x) fun n e f => ?_ | obtain ⟨n, e, f⟩ := id x
  refine ⟨n, t.keep a _ ?_ ?_ (notD_seq rfl) e, f⟩
  · intro hm
    first | refine e3_1 (R.alive hm) fun o' e' nt _ => ?_ | refine e2_2 (R.alive hm) fun o' e' nt _ => ?_ | refine e1_3 (R.alive hm) fun o' e' nt _ => ?_ | refine e0_4 (R.alive hm) fun o' e' nt _ => ?_ | obtain ⟨o', e', nt, _⟩ := R.alive hm
    rw [e] at e'; cases e'; exact nt rfl
  · intro hm; exact hw a hm _ x

theorem Rep.stp (R : HRel D γ H s.heap) (t : Stp wr γ γ' s s') (hw : ∀ x ∈ wr, ∀ ws, ¬ TupAt s.heap x ws) {v : Value} {V : V} (x : Rep D γ s.heap v V) : Rep D γ' s'.heap v V :=
  Rep.mono (let ⟨δ, e, _⟩ := t.ext; ⟨δ, e⟩) (fun _ _ q => q.stp R t hw) x
theorem Reps.stp (R : HRel D γ H s.heap) (t : Stp wr γ γ' s s') (hw : ∀ x ∈ wr, ∀ ws, ¬ TupAt s.heap x ws) {vs : List Value} {l : List V} (x : Reps D γ s.heap vs l) : Reps D γ' s'.heap vs l :=
  Reps.mono (let ⟨δ, e, _⟩ := t.ext; ⟨δ, e⟩) (fun _ _ q => q.stp R t hw) x
theorem Rep.stp0 (R : HRel D γ H s.heap) (t : Stp [] γ γ' s s') {v : Value} {V : V} (x : Rep D γ s.heap v V) : Rep D γ' s'.heap v V := x.stp R t (by simp)
theorem Reps.stp0 (R : HRel D γ H s.heap) (t : Stp [] γ γ' s s') {vs : List Value} {l : List V} (x : Reps D γ s.heap vs l) : Reps D γ' s'.heap vs l := x.stp R t (by simp)

/- a step that only adds objects, and keeps every object there was -/
theorem stp_grow {h' : Heap} {tk : Nat} (hk : ∀ b o, s.heap.get? b = some o → h'.get? b = some o) : Stp wr γ γ s { s with heap := h', toks := tk } :=
  .of ⟨h', tk, rfl⟩ (fun b o _ _ e => hk b o e) ⟨[], by simp, by simp⟩

theorem tupAt_grow {h h' : Heap} (hk : ∀ b o, h.get? b = some o → h'.get? b = some o) {a : Addr} {vs : List Value} (x : TupAt h a vs) : TupAt h' a vs := by
  obtain ⟨n, e, r⟩ := x; exact ⟨n, hk _ _ e, r⟩

theorem HRel.grow {h h' : Heap} (R : HRel D γ H h) (hk : ∀ b o, h.get? b = some o → h'.get? b = some o) : HRel D γ H h' where
  len := R.len
  nodup := R.nodup
  objs := fun i a o e1 e2 => by
    have := R.objs i a o e1 e2
    cases o with
    | list xs =>
      first | refine e3_2 this fun vs n e r z => ?_ | refine e2_3 this fun vs n e r z => ?_ | refine e1_4 this fun vs n e r z => ?_ | obtain ⟨vs, n, e, r, z⟩ := this
      exact ⟨vs, n, hk _ _ e, Reps.mono ⟨[], by simp⟩ (fun _ _ => tupAt_grow hk) r, z⟩
  fresh := R.fresh
  base := fun b o e => hk _ _ (R.base b o e)
  frs := R.frs.grow hk

/- a new list at the end of the abstract heap -/
theorem HRel.newList {vs : List Value} {l : List V} {h : Heap} (R : HRel D γ H h) (r : Reps D γ h vs l) (hz : l.length ≤ 2000000) :
    HRel D (γ ++ [h.objs.size]) (H ++ [.list l]) (h.push { cls := .type "list", data := .seq vs.toArray }) where
  len := by simp [R.len]
  nodup := by
    refine List.nodup_append.mpr ⟨R.nodup, by simp, ?_⟩
    intro a ha b hb
    simp at hb; subst hb
    intro e; subst e
    first | refine e2_1 (R.alive ha) fun o e _ => ?_ | refine e1_2 (R.alive ha) fun o e _ => ?_ | refine e0_3 (R.alive ha) fun o e _ => ?_ | obtain ⟨o, e, _⟩ := R.alive ha
    exact absurd (Heap.lt_size e) (Nat.lt_irrefl _)
  objs := fun i a o e1 e2 => by
    have hk : ∀ b o, h.get? b = some o → (h.push { cls := .type "list", data := .seq vs.toArray }).get? b = some o := fun b o e => Heap.get?_push_of_some _ e
    have ht : ∀ a vs', TupAt h a vs' → TupAt (h.push { cls := .type "list", data := .seq vs.toArray }) a vs' := fun _ _ => tupAt_grow hk
    rcases Nat.lt_trichotomy i γ.length with hi | hi | hi
    · rw [List.getElem?_append_left hi] at e1
      rw [List.getElem?_append_left (R.len ▸ hi)] at e2
      have := R.objs i a o e1 e2
      cases o with
      | list xs =>
        first | refine e3_2 this fun ws n e q z => ?_ | refine e2_3 this fun ws n e q z => ?_ | refine e1_4 this fun ws n e q z => ?_ | obtain ⟨ws, n, e, q, z⟩ := this
        exact ⟨ws, n, hk _ _ e, Reps.mono ⟨_, rfl⟩ ht q, z⟩
    · subst hi
      rw [List.getElem?_append_right (Nat.le_refl _)] at e1
      rw [R.len, List.getElem?_append_right (Nat.le_refl _)] at e2
      simp at e1 e2; subst e1; subst e2
      exact ⟨vs, 0, Heap.get?_push_size _ rfl, Reps.mono ⟨_, rfl⟩ ht r, by rw [r.length]; exact hz⟩
    · exfalso
      have : (γ ++ [h.objs.size]).length ≤ i := by simp; omega
      rw [List.getElem?_eq_none this] at e1; cases e1
  fresh := by
    intro a ha
    rcases List.mem_append.mp ha with q | q
    · exact R.fresh a q
    · simp at q; subst q
      cases e : D.hB.get? h.objs.size with
      | none => rfl
      | some o => exact absurd (Heap.lt_size (R.base _ _ e)) (Nat.lt_irrefl _)
  base := fun b o e => Heap.get?_push_of_some _ (R.base b o e)
  frs := R.frs.grow fun b o e => Heap.get?_push_of_some _ e

theorem HRel.addList {vs : List Value} {l : List V} {h h' : Heap} {a : Addr} {n : Nat} (R : HRel D γ H h) (r : Reps D γ h vs l) (hz : l.length ≤ 2000000)
    (hk : ∀ b o, h.get? b = some o → h'.get? b = some o) (hn : h.get? a = none) (ha : h'.get? a = some { cls := .type "list", data := .seq vs.toArray n }) :
    HRel D (γ ++ [a]) (H ++ [.list l]) h' where
  len := by simp [R.len]
  nodup := by
    refine List.nodup_append.mpr ⟨R.nodup, by simp, ?_⟩
    intro b hb c hc
    simp at hc; subst hc
    intro e; subst e
    first | refine e2_1 (R.alive hb) fun o e _ => ?_ | refine e1_2 (R.alive hb) fun o e _ => ?_ | refine e0_3 (R.alive hb) fun o e _ => ?_ | obtain ⟨o, e, _⟩ := R.alive hb
    rw [hn] at e; cases e
  objs := fun i b o e1 e2 => by
    have ht : ∀ a vs', TupAt h a vs' → TupAt h' a vs' := fun _ _ => tupAt_grow hk
    rcases Nat.lt_trichotomy i γ.length with hi | hi | hi
    · rw [List.getElem?_append_left hi] at e1
      rw [List.getElem?_append_left (R.len ▸ hi)] at e2
      have := R.objs i b o e1 e2
      cases o with
      | list xs =>
        first | refine e3_2 this fun ws n e q z => ?_ | refine e2_3 this fun ws n e q z => ?_ | refine e1_4 this fun ws n e q z => ?_ | obtain ⟨ws, n, e, q, z⟩ := this
        exact ⟨ws, n, hk _ _ e, Reps.mono ⟨_, rfl⟩ ht q, z⟩
    · subst hi
      rw [List.getElem?_append_right (Nat.le_refl _)] at e1
      rw [R.len, List.getElem?_append_right (Nat.le_refl _)] at e2
      simp at e1 e2; subst e1; subst e2
      exact ⟨vs, n, ha, Reps.mono ⟨_, rfl⟩ ht r, by rw [r.length]; exact hz⟩
    · exfalso
      have : (γ ++ [a]).length ≤ i := by simp; omega
      rw [List.getElem?_eq_none this] at e1; cases e1
  fresh := by
    intro b hb
    rcases List.mem_append.mp hb with q | q
    · exact R.fresh b q
    · simp at q; subst q
      cases e : D.hB.get? b with
      | none => rfl
      | some o => have := R.base _ _ e; rw [hn] at this; cases this
  base := fun b o e => hk _ _ (R.base b o e)
  frs := R.frs.grow hk

theorem Stp.newList {o : Obj} {h : Heap} (e : s.heap = h) : Stp wr γ (γ ++ [h.objs.size]) s { s with heap := h.push o } :=
  .of ⟨_, s.toks, rfl⟩ (fun b o' _ _ q => Heap.get?_push_of_some _ (e ▸ q)) ⟨[h.objs.size], rfl, fun a ha => by
    simp at ha; subst ha; subst e
    cases q : s.heap.get? s.heap.objs.size with
    | none => rfl
    | some o => exact absurd (Heap.lt_size q) (Nat.lt_irrefl _)⟩

/- a list of the abstract heap changed -/
theorem HRel.setList {i : Nat} {a : Addr} {vs : List Value} {l : List V} {n : Nat} {h h' : Heap} (R : HRel D γ H h) (hi : γ[i]? = some a) (r : Reps D γ h vs l) (hz : l.length ≤ 2000000)
    (e : h'.get? a = some { cls := .type "list", data := .seq vs.toArray n }) (hk : ∀ b o, b ≠ a → h.get? b = some o → h'.get? b = some o) :
    HRel D γ (H.set i (.list l)) h' := by
  have ha : a ∈ γ := List.mem_of_getElem? hi
  have ht : ∀ b ws, TupAt h b ws → TupAt h' b ws := fun b ws x => by
    first | refine e2_1 x fun m q d => ?_ | refine e1_2 x fun m q d => ?_ | refine e0_3 x fun m q d => ?_ | obtain ⟨m, q, d⟩ := x
    refine ⟨m, hk _ _ ?_ q, d⟩
    rintro rfl
    first | refine e3_1 (R.alive ha) fun o' e' nt _ => ?_ | refine e2_2 (R.alive ha) fun o' e' nt _ => ?_ | refine e1_3 (R.alive ha) fun o' e' nt _ => ?_ | refine e0_4 (R.alive ha) fun o' e' nt _ => ?_ | obtain ⟨o', e', nt, _⟩ := R.alive ha
    rw [q] at e'; cases e'; exact nt rfl
  refine ⟨by simp [R.len], R.nodup, ?_, R.fresh, ?_, R.frs.but hk (.inl (let ⟨o, e1, _, e2, _⟩ := R.alive ha; ⟨o, e1, e2⟩))⟩
  · intro j b o e1 e2
    by_cases hj : i = j
    · subst hj
      rw [hi] at e1; cases e1
      have hlt : i < H.length := R.len ▸ (List.getElem?_eq_some_iff.mp hi).1
      rw [List.getElem?_set_self hlt] at e2; cases e2
      exact ⟨vs, n, e, Reps.mono ⟨[], by simp⟩ ht r, by rw [r.length]; exact hz⟩
    · rw [List.getElem?_set_ne hj] at e2
      have hb : b ≠ a := by
        rintro rfl
        obtain ⟨h1, q1⟩ := List.getElem?_eq_some_iff.mp hi
        obtain ⟨h2, q2⟩ := List.getElem?_eq_some_iff.mp e1
        exact hj (nodup_inj R.nodup h1 h2 (q1.trans q2.symm))
      have := R.objs j b o e1 e2
      cases o with
      | list xs =>
        first | refine e3_2 this fun ws m q z y => ?_ | refine e2_3 this fun ws m q z y => ?_ | refine e1_4 this fun ws m q z y => ?_ | obtain ⟨ws, m, q, z, y⟩ := this
        exact ⟨ws, m, hk _ _ hb q, Reps.mono ⟨[], by simp⟩ ht z, y⟩
  · intro b o q
    refine hk b o ?_ (R.base b o q)
    rintro rfl
    rw [R.fresh _ ha] at q; cases q
end
end Mine

set_option autoImplicit false
/- Posts, locals, and how trees go on. -/
namespace Mine
open PySem

/- what is raised: new, or noted in the frames within -/
noncomputable def XNew (D : Wd) (s : Shared) (h : Heap) (e : Value) (x : Exc) : Prop := ∃ a oe vs C a0, e = .ref a ∧ s.heap.get? a = none ∧ h.get? a = some oe ∧ oe.cls = .ref C ∧ D.mg x.cls = some (.ref C) ∧ oe.data = .fields vs ∧ vs[0]? = some a0 ∧ vs[1]? = some .none
noncomputable def XFly (D : Wd) (s : Shared) (h : Heap) (e : Value) (x : Exc) : Prop := ∃ a oe vs C a0 T oT ts, e = .ref a ∧ s.heap.get? a = none ∧ h.get? a = some oe ∧ oe.cls = .ref C ∧ D.mg x.cls = some (.ref C) ∧ oe.data = .fields vs ∧ vs[0]? = some a0 ∧
  vs[1]? = some (.ref T) ∧ s.heap.get? T = none ∧ T ≠ a ∧ h.get? T = some oT ∧ oT.data = .fields ts ∧ ∃ fl, ts[3]? = some fl

noncomputable def PostV (D : Wd) (γ : List Addr) (s : Shared) (Q : V → Hp → Prop) (v : Value) (s' : Shared) : Prop :=
  ∃ γ' V H', Stp [] γ γ' s s' ∧ HRel D γ' H' s'.heap ∧ Rep D γ' s'.heap v V ∧ Q V H'
noncomputable def PostL (D : Wd) (γ : List Addr) (s : Shared) (Q : List V → Hp → Prop) (vs : List Value) (s' : Shared) : Prop :=
  ∃ γ' Vs H', Stp [] γ γ' s s' ∧ HRel D γ' H' s'.heap ∧ Reps D γ' s'.heap vs Vs ∧ Q Vs H'
noncomputable def PostB (D : Wd) (γ : List Addr) (s : Shared) (Q : Bool → Hp → Prop) (c : Bool) (s' : Shared) : Prop :=
  ∃ γ' H', Stp [] γ γ' s s' ∧ HRel D γ' H' s'.heap ∧ Q c H'
noncomputable def PostX (D : Wd) (γ : List Addr) (s : Shared) (X : XL) (e : Value) (s' : Shared) : Prop :=
  ∃ γ' H' x, Stp [] γ γ' s s' ∧ HRel D γ' H' s'.heap ∧ (XFly D s s'.heap e x ∧ (x.cls, x.ups) ∈ D.ex) ∧ X x H'
theorem PostX.no {D : Wd} {γ : List Addr} {s : Shared} {e : Value} {s' : Shared} (h : PostX D γ s noX e s') : False := by
  obtain ⟨_, _, _, _, _, _, x⟩ := h; exact x

noncomputable abbrev Wd.M (D : Wd) : Model := model D.prog D.w

structure AOk (D : Wd) (k : Nat) (A : Around) : Prop where
  frames : A.frames = some D.fr
  handled : A.handled = none
  depth : A.depth + k < 900
  units : A.units + 4 * k < 9000
  guards : A.guards = some []

noncomputable abbrev Wd.push (D : Wd) (env : Env) : Wd := { D with fr := env :: D.fr }
theorem AOk.mono {D : Wd} {k k' : Nat} {A : Around} (h : AOk D k A) (hk : k' ≤ k) : AOk D k' A := ⟨h.frames, h.handled, by have := h.depth; omega, by have := h.units; omega, h.guards⟩
theorem AOk.deeper {D : Wd} {k : Nat} {A : Around} (h : AOk D (k + 1) A) (env : Env) : AOk (D.push env) k (A.deeper env) :=
  ⟨Around.frames_deeper h.frames, h.handled, by have := h.depth; show A.depth + 1 + k < 900; omega, by have := h.units; show A.units + 3 + 4 * k < 9000; omega, h.guards⟩
theorem fresh_back {D : Wd} {γ γ1 : List Addr} {H1 : Hp} {s s1 : Shared} (t : Stp [] γ γ1 s s1) (R : HRel D γ1 H1 s1.heap) {a : Addr} (h : s1.heap.get? a = none) : s.heap.get? a = none := by
  cases e : s.heap.get? a with
  | none => rfl
  | some o =>
    by_cases hg : a ∈ γ
    · first | refine e2_1 (t.ext) fun δ e_17 _ => ?_ | refine e1_2 (t.ext) fun δ e_17 _ => ?_ | refine e0_3 (t.ext) fun δ e_17 _ => ?_ | obtain ⟨δ, e_17, _⟩ := t.ext
      obtain rfl := e_17
      first | refine e2_1 (R.alive (List.mem_append_left _ hg)) fun o' e' _ => ?_ | refine e1_2 (R.alive (List.mem_append_left _ hg)) fun o' e' _ => ?_ | refine e0_3 (R.alive (List.mem_append_left _ hg)) fun o' e' _ => ?_ | obtain ⟨o', e', _⟩ := R.alive (List.mem_append_left _ hg)
      rw [h] at e'; cases e'
    · obtain ⟨o', e'⟩ := t.live hg (by simp) e
      rw [h] at e'; cases e'
theorem XFly.from {D : Wd} {s s1 : Shared} {h : Heap} {e : Value} {x : Exc} (f : ∀ a, s1.heap.get? a = none → s.heap.get? a = none) (q : XFly D s1 h e x) : XFly D s h e x := by
  obtain ⟨a, oe, vs, C, a0, T, oT, ts, h1, h2, h3, h4, h5, h6, h7, h8, h9, h10⟩ := q
  exact ⟨a, oe, vs, C, a0, T, oT, ts, h1, f a h2, h3, h4, h5, h6, h7, h8, f T h9, h10⟩
theorem XNew.from {D : Wd} {s s1 : Shared} {h : Heap} {e : Value} {x : Exc} (f : ∀ a, s1.heap.get? a = none → s.heap.get? a = none) (q : XNew D s1 h e x) : XNew D s h e x := by
  obtain ⟨a, oe, vs, C, a0, h1, h2, h3⟩ := q
  exact ⟨a, oe, vs, C, a0, h1, f a h2, h3⟩

section
variable {D : Wd} {γ γ1 : List Addr} {H H1 : Hp} {s s1 : Shared} {A : Around}

theorem PostV.back {Q : V → Hp → Prop} {v : Value} {s' : Shared} (t : Stp [] γ γ1 s s1) (R : HRel D γ1 H1 s1.heap) (h : PostV D γ1 s1 Q v s') : PostV D γ s Q v s' := by
  first | refine e3_4 h fun γ' V H' a b c d => ?_ | obtain ⟨γ', V, H', a, b, c, d⟩ := h
  exact ⟨γ', V, H', t.trans0 R a, b, c, d⟩
theorem PostL.back {Q : List V → Hp → Prop} {v : List Value} {s' : Shared} (t : Stp [] γ γ1 s s1) (R : HRel D γ1 H1 s1.heap) (h : PostL D γ1 s1 Q v s') : PostL D γ s Q v s' := by
  first | refine e3_4 h fun γ' V H' a b c d => ?_ | obtain ⟨γ', V, H', a, b, c, d⟩ := h
  exact ⟨γ', V, H', t.trans0 R a, b, c, d⟩
theorem PostB.back {Q : Bool → Hp → Prop} {v : Bool} {s' : Shared} (t : Stp [] γ γ1 s s1) (R : HRel D γ1 H1 s1.heap) (h : PostB D γ1 s1 Q v s') : PostB D γ s Q v s' := by
  first | refine e3_2 h fun γ' H' a b d => ?_ | refine e2_3 h fun γ' H' a b d => ?_ | refine e1_4 h fun γ' H' a b d => ?_ | obtain ⟨γ', H', a, b, d⟩ := h
  exact ⟨γ', H', t.trans0 R a, b, d⟩
theorem PostX.back {X : XL} {v : Value} {s' : Shared} (t : Stp [] γ γ1 s s1) (R : HRel D γ1 H1 s1.heap) (h : PostX D γ1 s1 X v s') : PostX D γ s X v s' := by
  first | refine e3_4 h fun γ' H' x a b e_18 d => ?_ | obtain ⟨γ', H', x, a, b, e_18, d⟩ := h
  obtain ⟨c, m⟩ := e_18
  exact ⟨γ', H', x, t.trans0 R a, b, ⟨c.from fun _ => fresh_back t R, m⟩, d⟩

theorem backV {t : Sem Value} {Q : V → Hp → Prop} {X : XL} (st : Stp [] γ γ1 s s1) (R : HRel D γ1 H1 s1.heap) (h : wpAny D.M A t (PostV D γ1 s1 Q) (PostX D γ1 s1 X) s1) :
    wpAny D.M A t (PostV D γ s Q) (PostX D γ s X) s1 := wpAny_mono h (fun _ _ x => x.back st R) (fun _ _ x => x.back st R)
theorem backB {t : Sem Bool} {Q : Bool → Hp → Prop} {X : XL} (st : Stp [] γ γ1 s s1) (R : HRel D γ1 H1 s1.heap) (h : wpAny D.M A t (PostB D γ1 s1 Q) (PostX D γ1 s1 X) s1) :
    wpAny D.M A t (PostB D γ s Q) (PostX D γ s X) s1 := wpAny_mono h (fun _ _ x => x.back st R) (fun _ _ x => x.back st R)
theorem backL {t : Sem (List Value)} {Q : List V → Hp → Prop} {X : XL} (st : Stp [] γ γ1 s s1) (R : HRel D γ1 H1 s1.heap) (h : wpAny D.M A t (PostL D γ1 s1 Q) (PostX D γ1 s1 X) s1) :
    wpAny D.M A t (PostL D γ s Q) (PostX D γ s X) s1 := wpAny_mono h (fun _ _ x => x.back st R) (fun _ _ x => x.back st R)

/- the first tree of several -/
theorem andThen {t : Sem Value} {Q : V → Hp → Prop} {P : Value → Shared → Prop} {X : XL} (h : wpAny D.M A t (PostV D γ s Q) (PostX D γ s X) s)
    (k : ∀ v s1 γ1 V H1, Stp [] γ γ1 s s1 → HRel D γ1 H1 s1.heap → Rep D γ1 s1.heap v V → Q V H1 → P v s1) : wpAny D.M A t P (PostX D γ s X) s :=
  wpAny_mono h (fun v s1 ⟨γ1, V, H1, a, b, c, d⟩ => k v s1 γ1 V H1 a b c d) (fun _ _ x => x)
theorem andThenL {t : Sem (List Value)} {Q : List V → Hp → Prop} {P : List Value → Shared → Prop} {X : XL} (h : wpAny D.M A t (PostL D γ s Q) (PostX D γ s X) s)
    (k : ∀ v s1 γ1 V H1, Stp [] γ γ1 s s1 → HRel D γ1 H1 s1.heap → Reps D γ1 s1.heap v V → Q V H1 → P v s1) : wpAny D.M A t P (PostX D γ s X) s :=
  wpAny_mono h (fun v s1 ⟨γ1, V, H1, a, b, c, d⟩ => k v s1 γ1 V H1 a b c d) (fun _ _ x => x)
theorem andThenB {t : Sem Bool} {Q : Bool → Hp → Prop} {P : Bool → Shared → Prop} {X : XL} (h : wpAny D.M A t (PostB D γ s Q) (PostX D γ s X) s)
    (k : ∀ v s1 γ1 H1, Stp [] γ γ1 s s1 → HRel D γ1 H1 s1.heap → Q v H1 → P v s1) : wpAny D.M A t P (PostX D γ s X) s :=
  wpAny_mono h (fun v s1 ⟨γ1, H1, a, b, d⟩ => k v s1 γ1 H1 a b d) (fun _ _ x => x)
/- a later one: what it raises is told from the start -/
theorem thenV {t : Sem Value} {Q : V → Hp → Prop} {P : Value → Shared → Prop} {X : XL} (st : Stp [] γ γ1 s s1) (R : HRel D γ1 H1 s1.heap) (h : wpAny D.M A t (PostV D γ1 s1 Q) (PostX D γ1 s1 X) s1)
    (k : ∀ v s2 γ2 V H2, Stp [] γ1 γ2 s1 s2 → HRel D γ2 H2 s2.heap → Rep D γ2 s2.heap v V → Q V H2 → P v s2) : wpAny D.M A t P (PostX D γ s X) s1 :=
  wpAny_mono h (fun v s2 ⟨γ2, V, H2, a, b, c, d⟩ => k v s2 γ2 V H2 a b c d) (fun _ _ x => x.back st R)
theorem thenL {t : Sem (List Value)} {Q : List V → Hp → Prop} {P : List Value → Shared → Prop} {X : XL} (st : Stp [] γ γ1 s s1) (R : HRel D γ1 H1 s1.heap) (h : wpAny D.M A t (PostL D γ1 s1 Q) (PostX D γ1 s1 X) s1)
    (k : ∀ v s2 γ2 V H2, Stp [] γ1 γ2 s1 s2 → HRel D γ2 H2 s2.heap → Reps D γ2 s2.heap v V → Q V H2 → P v s2) : wpAny D.M A t P (PostX D γ s X) s1 :=
  wpAny_mono h (fun v s2 ⟨γ2, V, H2, a, b, c, d⟩ => k v s2 γ2 V H2 a b c d) (fun _ _ x => x.back st R)
theorem thenB {t : Sem Bool} {Q : Bool → Hp → Prop} {P : Bool → Shared → Prop} {X : XL} (st : Stp [] γ γ1 s s1) (R : HRel D γ1 H1 s1.heap) (h : wpAny D.M A t (PostB D γ1 s1 Q) (PostX D γ1 s1 X) s1)
    (k : ∀ v s2 γ2 H2, Stp [] γ1 γ2 s1 s2 → HRel D γ2 H2 s2.heap → Q v H2 → P v s2) : wpAny D.M A t P (PostX D γ s X) s1 :=
  wpAny_mono h (fun v s2 ⟨γ2, H2, a, b, d⟩ => k v s2 γ2 H2 a b d) (fun _ _ x => x.back st R)

/- ends without a change of the heap -/
theorem PostV.now {Q : V → Hp → Prop} {v : Value} {V : V} (R : HRel D γ H s.heap) (r : Rep D γ s.heap v V) (h : Q V H) {tk : Nat} : PostV D γ s Q v { s with toks := tk } :=
  ⟨γ, V, H, stp_grow fun _ _ e => e, R, r, h⟩
theorem PostV.here {Q : V → Hp → Prop} {v : Value} {V : V} (R : HRel D γ H s.heap) (r : Rep D γ s.heap v V) (h : Q V H) : PostV D γ s Q v s :=
  ⟨γ, V, H, Stp.refl, R, r, h⟩
theorem PostB.now {Q : Bool → Hp → Prop} {c : Bool} (R : HRel D γ H s.heap) (h : Q c H) {tk : Nat} : PostB D γ s Q c { s with toks := tk } :=
  ⟨γ, H, stp_grow fun _ _ e => e, R, h⟩
theorem PostB.here {Q : Bool → Hp → Prop} {c : Bool} (R : HRel D γ H s.heap) (h : Q c H) : PostB D γ s Q c s := ⟨γ, H, Stp.refl, R, h⟩
/- ends where objects were added that nothing names -/
theorem PostV.grown {Q : V → Hp → Prop} {v : Value} {V : V} {h' : Heap} {tk : Nat} (R : HRel D γ H s.heap) (hk : ∀ b o, s.heap.get? b = some o → h'.get? b = some o) (r : Rep D γ h' v V) (h : Q V H) :
    PostV D γ s Q v { s with heap := h', toks := tk } := ⟨γ, V, H, stp_grow hk, R.grow hk, r, h⟩
/- a new list -/
theorem PostV.newList {Q : V → Hp → Prop} {vs : List Value} {l : List V} (R : HRel D γ H s.heap) (r : Reps D γ s.heap vs l) (hz : l.length ≤ 2000000) (h : Q (.ref H.length) (H ++ [.list l])) :
    PostV D γ s Q (.ref s.heap.objs.size) { s with heap := s.heap.push { cls := .type "list", data := .seq vs.toArray } } :=
  ⟨γ ++ [s.heap.objs.size], .ref H.length, H ++ [.list l], Stp.newList rfl, R.newList r hz, by
    simp only [Rep]; exact ⟨_, by rw [List.getElem?_append_right (by rw [R.len]; exact Nat.le_refl _)]; simp [R.len], rfl⟩, h⟩
theorem PostV.addList {Q : V → Hp → Prop} {vs : List Value} {l : List V} {h' : Heap} {a : Addr} {n tk : Nat} (R : HRel D γ H s.heap) (r : Reps D γ s.heap vs l) (hz : l.length ≤ 2000000)
    (hk : ∀ b o, s.heap.get? b = some o → h'.get? b = some o) (hn : s.heap.get? a = none) (ha : h'.get? a = some { cls := .type "list", data := .seq vs.toArray n }) (h : Q (.ref H.length) (H ++ [.list l])) :
    PostV D γ s Q (.ref a) { s with heap := h', toks := tk } :=
  ⟨γ ++ [a], .ref H.length, H ++ [.list l], Stp.of ⟨_, _, rfl⟩ (fun b o _ _ e => hk b o e) ⟨[a], rfl, fun b hb => by simp at hb; subst hb; exact hn⟩, R.addList r hz hk hn ha, by
    simp only [Rep]; exact ⟨_, by rw [List.getElem?_append_right (by rw [R.len]; exact Nat.le_refl _)]; simp [R.len], rfl⟩, h⟩
theorem none_end (h : Heap) : h.get? h.objs.size = none := by
  cases e : h.get? h.objs.size with
  | none => rfl
  | some o => exact absurd (Heap.lt_size e) (Nat.lt_irrefl _)
/- a list of the abstract heap changed -/
theorem PostV.setList {Q : V → Hp → Prop} {vs : List Value} {l : List V} {h' : Heap} {i : Nat} {a : Addr} {n tk : Nat} {v : Value} {V : V} (R : HRel D γ H s.heap) (hi : γ[i]? = some a) (r : Reps D γ s.heap vs l) (hz : l.length ≤ 2000000)
    (hk : ∀ b o, b ≠ a → s.heap.get? b = some o → h'.get? b = some o) (ha : h'.get? a = some { cls := .type "list", data := .seq vs.toArray n }) (rv : Rep D γ h' v V) (h : Q V (H.set i (.list l))) :
    PostV D γ s Q v { s with heap := h', toks := tk } :=
  ⟨γ, V, H.set i (.list l), Stp.of ⟨_, _, rfl⟩ (fun b o hb _ e => hk b o (fun q => hb (q ▸ List.mem_of_getElem? hi)) e) ⟨[], by simp, by simp⟩, R.setList hi r hz ha hk, rv, h⟩
/- a new tuple -/
theorem PostV.newTuple {Q : V → Hp → Prop} {vs : List Value} {l : List V} (R : HRel D γ H s.heap) (r : Reps D γ s.heap vs l) (hz : l.length ≤ 2000000) (h : Q (.tup l) H) :
    PostV D γ s Q (.ref s.heap.objs.size) { s with heap := s.heap.push { cls := .type "tuple", data := .seq vs.toArray } } :=
  have hk : ∀ b o, s.heap.get? b = some o → (s.heap.push { cls := .type "tuple", data := .seq vs.toArray }).get? b = some o := fun _ _ e => Heap.get?_push_of_some _ e
  ⟨γ, .tup l, H, Stp.of ⟨_, s.toks, rfl⟩ (fun b o _ _ e => hk b o e) ⟨[], by simp, by simp⟩, R.grow hk, by
    simp only [Rep]
    exact ⟨_, vs, rfl, ⟨0, Heap.get?_push_size _ rfl, by rw [r.length]; exact hz⟩, Reps.mono ⟨[], by simp⟩ (fun _ _ => tupAt_grow hk) r⟩, h⟩
end

/- names -/
noncomputable def TopA (D : Wd) (env : Env) : Prop := ∃ e0 outer, D.fr = e0 :: outer ∧ env.frame = e0.frame
structure LRel (D : Wd) (γ : List Addr) (env : Env) (slots : List (Str × Nat)) (h : Heap) (L : Lc) : Prop where
  ns : ∃ m, h.Ns env.locals m ∧ ∀ (x : Str) (i : Nat) (V : V), env.kindOf x = some .local → slots.lookup x = some i → L[i]? = some (some V) → ∃ v, m x = some v ∧ Rep D γ h v V
  cel : ∀ (x : Str), env.kindOf x = some .cell → ∃ c u, env.cells.lookup x = some c ∧ h.IsCell c u ∧ c ∉ γ ∧
    ∀ (i : Nat) (V : V), slots.lookup x = some i → L[i]? = some (some V) → ∃ v, u = some v ∧ Rep D γ h v V
  nin : env.locals ∉ γ
  tp : TopA D env

structure EnvOk (c : CC) (env : Env) : Prop where
  scope : env.scope = c.scope
  kind : c.scope.kind = .function
  globals : env.globals = mainGlobals
  builtins : env.builtins = builtinsNs

/- an exception class of the text's own; ups: the names of the classes it comes under -/
noncomputable def qN : List Str := ["__init__", "__getattribute__", "__getattr__", "__class__"]
inductive TailN (h : Heap) (bmB : List Value) : List Value → Prop
  | base : TailN h bmB bmB
  | own {A : Addr} {c0 : Value} {dd : Option Addr} {cd : ClassData} {sl : Array (Option Value)} {mA : Str → Option Value} {tl : List Value} :
      h.get? A = some { cls := c0, dict := dd, data := .cls cd, slots := sl } → h.Ns cd.ns mA → (∀ n ∈ qN, mA n = none) → TailN h bmB tl → TailN h bmB (.ref A :: tl)
theorem TailN.tail {h : Heap} {bmB tl : List Value} (T : TailN h bmB tl) : OwnTail h bmB tl := by
  induction T with
  | base => exact .base
  | own hA hN hq _ ih => exact .own hA hN (hq _ (.head _)) ih
theorem TailN.keeps {h h' : Heap} {bmB tl : List Value} (T : TailN h bmB tl) (hk : ∀ b o, h.get? b = some o → h'.get? b = some o) : TailN h' bmB tl := by
  induction T with
  | base => exact .base
  | own hA hN hq _ ih => exact .own (hk _ _ hA) (hN.keeps hk) hq ih
noncomputable abbrev bmV : List Value := [.type "ValueError", .type "Exception", .type "BaseException", .type "object"]
noncomputable def ClsAt (h : Heap) (C : Addr) (bm : List Value) : Prop :=
  ∃ N nm q bs hdct sn sub ab col dd k0 k1 k2 k3 k5 mN, h.get? C = some (excClassObj nm q C N bs bm hdct sn sub ab col dd k0 k1 k2 k3 k5 "ValueError.__new__") ∧ h.Ns N mN ∧ (∀ n ∈ qN, mN n = none) ∧ TailN h bmV bm
theorem ClsAt.keeps {h h' : Heap} {C : Addr} {bm : List Value} (x : ClsAt h C bm) (hk : ∀ b o, h.get? b = some o → h'.get? b = some o) : ClsAt h' C bm := by
  obtain ⟨N, nm, q, bs, hdct, sn, sub, ab, col, dd, k0, k1, k2, k3, k5, mN, hC, hN, hq, T⟩ := x
  exact ⟨N, nm, q, bs, hdct, sn, sub, ab, col, dd, k0, k1, k2, k3, k5, mN, hk _ _ hC, hN.keeps hk, hq, T.keeps hk⟩
noncomputable def ClsOk (D : Wd) (x : Str) (ups : List Str) (C : Addr) : Prop :=
  ∃ bm, D.mg x = some (.ref C) ∧ ClsAt D.hB C bm ∧
    (∀ (y : Str) (ups' : List Str) (Cy : Addr), (y, ups') ∈ D.ex → D.mg y = some (.ref Cy) → (Value.ref C :: bm).contains (.ref Cy) = ups.contains y) ∧ ups.contains ("ValueError" : Str) = true

structure GOk (D : Wd) (G : List (Str × V)) : Prop where
  gns : D.hB.Ns mainGlobals D.mg
  bns : D.hB.Ns builtinsNs D.mb
  val : ∀ (x : Str) (V : V), G.lookup x = some V → ∃ v, (D.mg x = some v ∨ (D.mg x = none ∧ D.mb x = some v)) ∧ ∀ γ, Rep D γ D.hB v V
  lim : D.hB.NoLimit
  cls : ∀ (x z : Str) (ups : List Str), G.lookup x = some (.cls z ups) → (z, ups) ∈ D.ex
  exs : ∀ (x : Str) (ups : List Str), (x, ups) ∈ D.ex → ∃ C, ClsOk D x ups C

section
variable {D : Wd} {γ γ1 : List Addr} {H H1 : Hp} {s s1 : Shared} {env : Env} {slots : List (Str × Nat)} {L : Lc}

theorem notin_ext (t : Stp [] γ γ1 s s1) {a : Addr} {o : Obj} (h : a ∉ γ) (e : s.heap.get? a = some o) : a ∉ γ1 := by
  first | refine e2_1 (t.ext) fun δ e_19 f => ?_ | refine e1_2 (t.ext) fun δ e_19 f => ?_ | refine e0_3 (t.ext) fun δ e_19 f => ?_ | obtain ⟨δ, e_19, f⟩ := t.ext
  obtain rfl := e_19
  intro q
  rcases List.mem_append.mp q with q | q
  · exact h q
  · rw [f a q] at e; cases e

theorem LRel.stp (l : LRel D γ env slots s.heap L) (R : HRel D γ H s.heap) (t : Stp [] γ γ1 s s1) : LRel D γ1 env slots s1.heap L where
  ns := by
    first | refine e2_1 (l.ns) fun m n f => ?_ | refine e1_2 (l.ns) fun m n f => ?_ | refine e0_3 (l.ns) fun m n f => ?_ | obtain ⟨m, n, f⟩ := l.ns
    refine ⟨m, t.ns l.nin (by simp) n, fun x i V a b c => ?_⟩
    first | refine e2_1 (f x i V a b c) fun v e q => ?_ | refine e1_2 (f x i V a b c) fun v e q => ?_ | refine e0_3 (f x i V a b c) fun v e q => ?_ | obtain ⟨v, e, q⟩ := f x i V a b c
    exact ⟨v, e, q.stp0 R t⟩
  cel := fun x hx => by
    first | refine e3_3 (l.cel x hx) fun c u a e_20 hc f => ?_ | refine e2_4 (l.cel x hx) fun c u a e_20 hc f => ?_ | obtain ⟨c, u, a, e_20, hc, f⟩ := l.cel x hx
    obtain ⟨o, ho, hd⟩ := e_20
    refine ⟨c, u, a, ⟨o, t.keep _ _ hc (by simp) (fun es n q => by rw [hd] at q; cases q) ho, hd⟩, notin_ext t hc ho, fun i V b d => ?_⟩
    first | refine e2_1 (f i V b d) fun v e q => ?_ | refine e1_2 (f i V b d) fun v e q => ?_ | refine e0_3 (f i V b d) fun v e q => ?_ | obtain ⟨v, e, q⟩ := f i V b d
    exact ⟨v, e, q.stp0 R t⟩
  nin := by
    first | refine e2_1 (l.ns) fun m e_21 f => ?_ | refine e1_2 (l.ns) fun m e_21 f => ?_ | refine e0_3 (l.ns) fun m e_21 f => ?_ | obtain ⟨m, e_21, f⟩ := l.ns
    obtain ⟨o, es, ep, ho, r⟩ := e_21
    exact notin_ext t l.nin ho
  tp := l.tp

theorem LRel.grow {h h' : Heap} (l : LRel D γ env slots h L) (hk : ∀ b o, h.get? b = some o → h'.get? b = some o) : LRel D γ env slots h' L where
  ns := by
    first | refine e2_1 (l.ns) fun m n f => ?_ | refine e1_2 (l.ns) fun m n f => ?_ | refine e0_3 (l.ns) fun m n f => ?_ | obtain ⟨m, n, f⟩ := l.ns
    refine ⟨m, n.keeps hk, fun x i V a b c => ?_⟩
    first | refine e2_1 (f x i V a b c) fun v e q => ?_ | refine e1_2 (f x i V a b c) fun v e q => ?_ | refine e0_3 (f x i V a b c) fun v e q => ?_ | obtain ⟨v, e, q⟩ := f x i V a b c
    exact ⟨v, e, Rep.mono ⟨[], by simp⟩ (fun _ _ => tupAt_grow hk) q⟩
  cel := fun x hx => by
    first | refine e3_3 (l.cel x hx) fun c u a q hc f => ?_ | refine e2_4 (l.cel x hx) fun c u a q hc f => ?_ | obtain ⟨c, u, a, q, hc, f⟩ := l.cel x hx
    refine ⟨c, u, a, q.keeps hk, hc, fun i V b d => ?_⟩
    first | refine e2_1 (f i V b d) fun v e q => ?_ | refine e1_2 (f i V b d) fun v e q => ?_ | refine e0_3 (f i V b d) fun v e q => ?_ | obtain ⟨v, e, q⟩ := f i V b d
    exact ⟨v, e, Rep.mono ⟨[], by simp⟩ (fun _ _ => tupAt_grow hk) q⟩
  nin := l.nin
  tp := l.tp
end

/- what a def answers, by the oracle -/
noncomputable def OrcOk (D : Wd) (k : Nat) (Φ : Orc) : Prop := ∀ fr x vs H Q X, Φ x vs H Q X → ∀ A γ s vals a, AOk { D with fr := fr } k A → HRel { D with fr := fr } γ H s.heap → Reps { D with fr := fr } γ s.heap vals vs → D.mg x = some (.ref a) →
  (∃ o fd, D.hB.get? a = some o ∧ o.data = .func fd) ∧ wpAny D.M A (call (.ref a) vals) (PostV { D with fr := fr } γ s Q) (PostX { D with fr := fr } γ s X) s

noncomputable def SEP (P : Around → Prop) (D : Wd) (Φ : Orc) (c : CC) (e : Expr) (ie : IE) : Prop := ∀ env A γ H s L Q X, EnvOk c env → P A → HRel D γ H s.heap → LRel D γ env c.slots s.heap L →
  (wp2 Φ ie).E L H Q X → wpAny D.M A (eval e env) (PostV D γ s Q) (PostX D γ s X) s
noncomputable def STP (P : Around → Prop) (D : Wd) (Φ : Orc) (c : CC) (e : Expr) (ie : IE) : Prop := ∀ env A γ H s L Q X, EnvOk c env → P A → HRel D γ H s.heap → LRel D γ env c.slots s.heap L →
  (wp2 Φ ie).T L H Q X → wpAny D.M A (isTrue e env (eval e env)) (PostB D γ s Q) (PostX D γ s X) s
noncomputable abbrev SE (D : Wd) (Φ : Orc) (k : Nat) (c : CC) (e : Expr) (ie : IE) : Prop := SEP (AOk D k) D Φ c e ie
noncomputable abbrev ST (D : Wd) (Φ : Orc) (k : Nat) (c : CC) (e : Expr) (ie : IE) : Prop := STP (AOk D k) D Φ c e ie
end Mine

set_option autoImplicit false
/- Strings. -/
namespace Mine
open PySem PyProof.Rows

theorem strOk_iff {x : Str} : PyData.strOk x = true ↔ ∀ c ∈ x.cps.toList, c < 0x110000 := by
  unfold PyData.strOk
  rw [← Array.all_toList, List.all_eq_true]
  simp
theorem strOk_append {x y : Str} : PyData.strOk (x ++ y) = true ↔ PyData.strOk x = true ∧ PyData.strOk y = true := by
  simp only [strOk_iff]
  have e : (x ++ y).cps.toList = x.cps.toList ++ y.cps.toList := by show (x.cps ++ y.cps).toList = _; simp
  rw [e]
  simp only [List.mem_append]
  exact ⟨fun h => ⟨fun c hc => h c (.inl hc), fun c hc => h c (.inr hc)⟩, fun h c hc => hc.elim (h.1 c) (h.2 c)⟩
theorem strOk_join {x : Str} (hx : PyData.strOk x = true) : ∀ ys : List Str, (∀ y ∈ ys, PyData.strOk y = true) → PyData.strOk (Str.join x ys) = true
  | [], _ => by unfold Str.join; exact strOk_iff.mpr (fun c hc => by simp [Str.empty] at hc)
  | [y], h => h y (by simp)
  | y :: z :: r, h => by
    show PyData.strOk (y ++ x ++ Str.join x (z :: r)) = true
    exact strOk_append.mpr ⟨strOk_append.mpr ⟨h y (by simp), hx⟩, strOk_join hx (z :: r) fun w hw => h w (List.mem_cons_of_mem _ hw)⟩
theorem strOk_parts {x : Str} : ∀ ys : List Str, PyData.strOk (Str.join x ys) = true → ∀ y ∈ ys, PyData.strOk y = true
  | [], _, y, hy => by cases hy
  | [z], h, y, hy => by simp at hy; subst hy; exact h
  | z :: w :: r, h, y, hy => by
    have h : PyData.strOk (z ++ x ++ Str.join x (w :: r)) = true := h
    obtain ⟨h1, h2⟩ := strOk_append.mp h
    rcases List.mem_cons.mp hy with q | q
    · subst q; exact (strOk_append.mp h1).1
    · exact strOk_parts (w :: r) h2 y q
theorem strOk_ofString (s : String) : PyData.strOk (Str.ofString s) = true := by
  rw [strOk_iff, signs_ofString]
  intro c hc
  first | refine e2_1 (List.mem_map.mp hc) fun ch _ e_22 => ?_ | refine e1_2 (List.mem_map.mp hc) fun ch _ e_22 => ?_ | refine e0_3 (List.mem_map.mp hc) fun ch _ e_22 => ?_ | obtain ⟨ch, _, e_22⟩ := List.mem_map.mp hc
  obtain rfl := e_22
  have := ch.valid
  show ch.val.toNat < _
  rcases this with h | h
  · have h : ch.val.toNat < 0xd800 := h
    omega
  · exact h.2
theorem slice_mem {x : Str} {l u : Option Int} {c : Nat} (h : c ∈ (Txt.slice x l u).cps.toList) : c ∈ x.cps.toList := by
  unfold Txt.slice at h
  split at h
  · exact h
  · simp only [List.mem_filterMap] at h
    first | refine e2_1 h fun i _ hi => ?_ | refine e1_2 h fun i _ hi => ?_ | refine e0_3 h fun i _ hi => ?_ | obtain ⟨i, _, hi⟩ := h
    exact Array.mem_toList_iff.mpr (Array.mem_of_getElem? hi)
theorem fine_slice {x : Str} (f : StrFine x) (l u : Option Int) : StrFine (Txt.slice x l u) :=
  ⟨Nat.le_trans (Txt.slice_le x _ _) f.1, strOk_iff.mpr fun c hc => strOk_iff.mp f.2 c (slice_mem hc)⟩

section
variable {D : Wd} {γ : List Addr} {H : Hp} {s : Shared} {A : Around} {E : Value → Shared → Prop} {Q : V → Hp → Prop} {x : Str} {t : Tok}
theorem rep_b {h : Heap} {b : Bool} : Rep D γ h (.bool b) (.bool b) := rfl
theorem rep_i {h : Heap} {i : Int} {t : Tok} : Rep D γ h (.int i t) (.int i) := Exists.intro t rfl
theorem rep_s {h : Heap} {x : Str} {t : Tok} (f : StrFine x) : Rep D γ h (.str x t) (.str x) := Exists.intro t ⟨rfl, f⟩
theorem listAt_at {H : Hp} {i : Nat} {l : List V} (h : listAt H i = some l) : H[i]? = some (.list l) := by
  unfold listAt at h
  cases e : H[i]? with
  | none => rw [e] at h; exact no_some h
  | some o => cases o with | list xs => rw [e] at h; exact congrArg (fun l => some (O.list l)) (Option.some.inj h)
theorem HRel.list {i : Nat} {a : Addr} {l : List V} (R : HRel D γ H s.heap) (hi : γ[i]? = some a) (hl : listAt H i = some l) : ∃ vs n, s.heap.get? a = some { cls := .type "list", data := .seq vs.toArray n } ∧ Reps D γ s.heap vs l ∧ vs.length ≤ 2000000 := R.objs i a _ hi (listAt_at hl)

theorem strInt_ok {i : Int} (R : HRel D γ H s.heap) (h : i.natAbs < 2 ^ 64 ∧ (Str.ofString (toString i)).length ≤ 1000000) (q : Q (.str (Str.ofString (toString i))) H) :
    wpAny D.M A (call (.type "str") [.int i t]) (PostV D γ s Q) E s := by
  refine P.str_of_int ?_ (PostV.now R (by simp only [Rep]; exact ⟨_, rfl, by have := h.2; omega, strOk_ofString _⟩) q)
  by_cases h0 : i.natAbs = 0
  · rw [h0]; decide
  · have := (Nat.log2_lt h0).mpr h.1; omega
theorem strStr_ok (R : HRel D γ H s.heap) (f : StrFine x) (q : Q (.str x) H) : wpAny D.M A (call (.type "str") [.str x t]) (PostV D γ s Q) E s :=
  P.str_of_str (PostV.here R (rep_s f) q)
theorem intStr_ok {n : Int} (R : HRel D γ H s.heap) (hn : PySem.intText? x = some n) (hl : x.length ≤ 640) (q : Q (.int n) H) : wpAny D.M A (call (.type "int") [.str x t]) (PostV D γ s Q) E s :=
  PySem.W.KIN.call_text hn hl (PostV.now R rep_i q)
theorem lenStr_ok (R : HRel D γ H s.heap) (f : StrFine x) (q : Q (.int x.length) H) : wpAny D.M A (call (.builtin "len") [.str x t]) (PostV D γ s Q) E s :=
  PySem.P.len_str (by have := f.1; omega) (PostV.now R rep_i q)

theorem strs_vals : ∀ {l : List V} {ys : List Str} {vs : List Value}, strsOf l = some ys → Reps D γ s.heap vs l → ∃ l' : List (Str × Tok), vs = strValues l' ∧ l'.map (·.1) = ys ∧ ∀ y ∈ ys, StrFine y
  | [], ys, vs, h, r => by obtain rfl := Option.some.inj h; obtain rfl := r; exact ⟨[], rfl, rfl, fun _ h => nomatch h⟩
  | v :: l, ys, vs, h, r => by
    first | refine e3_2 r fun w ws e_23 a b => ?_ | refine e2_3 r fun w ws e_23 a b => ?_ | refine e1_4 r fun w ws e_23 a b => ?_ | obtain ⟨w, ws, e_23, a, b⟩ := r
    obtain rfl := e_23
    first | refine e2_1 (Option.bind_eq_some_iff.mp (show (strV v).bind _ = some ys from h)) fun y hy h => ?_ | refine e1_2 (Option.bind_eq_some_iff.mp (show (strV v).bind _ = some ys from h)) fun y hy h => ?_ | refine e0_3 (Option.bind_eq_some_iff.mp (show (strV v).bind _ = some ys from h)) fun y hy h => ?_ | obtain ⟨y, hy, h⟩ := Option.bind_eq_some_iff.mp (show (strV v).bind _ = some ys from h)
    first | refine e2_1 (Option.map_eq_some_iff.mp h) fun zs hz e_24 => ?_ | refine e1_2 (Option.map_eq_some_iff.mp h) fun zs hz e_24 => ?_ | refine e0_3 (Option.map_eq_some_iff.mp h) fun zs hz e_24 => ?_ | obtain ⟨zs, hz, e_24⟩ := Option.map_eq_some_iff.mp h
    obtain rfl := e_24
    first | refine e3_1 (strs_vals hz b) fun l' e_25 e_26 f => ?_ | refine e2_2 (strs_vals hz b) fun l' e_25 e_26 f => ?_ | refine e1_3 (strs_vals hz b) fun l' e_25 e_26 f => ?_ | refine e0_4 (strs_vals hz b) fun l' e_25 e_26 f => ?_ | obtain ⟨l', e_25, e_26, f⟩ := strs_vals hz b
    obtain rfl := e_25
    obtain rfl := e_26
    rw [strV_some hy] at a
    first | refine e2_1 a fun u e_27 fy => ?_ | refine e1_2 a fun u e_27 fy => ?_ | refine e0_3 a fun u e_27 fy => ?_ | obtain ⟨u, e_27, fy⟩ := a
    obtain rfl := e_27
    exact ⟨(y, u) :: l', rfl, rfl, List.forall_mem_cons.mpr ⟨fy, f⟩⟩
theorem join_ok {i : Nat} {o : Value} {l : List V} {ys : List Str} (R : HRel D γ H s.heap) (fx : StrFine x) (ro : Rep D γ s.heap o (.ref i)) (hl : listAt H i = some l) (hy : strsOf l = some ys)
    (hz : (ys.map (·.length)).sum + ys.length * x.length ≤ 1000000) (q : Q (.str (Str.join x ys)) H) : wpAny D.M A (call (.builtin "str.join") [.str x t, o]) (PostV D γ s Q) E s := by
  first | refine e2_1 ro fun a hi e_28 => ?_ | refine e1_2 ro fun a hi e_28 => ?_ | refine e0_3 ro fun a hi e_28 => ?_ | obtain ⟨a, hi, e_28⟩ := ro
  obtain rfl := e_28
  first | refine e3_2 (R.list hi hl) fun vs n e rs z => ?_ | refine e2_3 (R.list hi hl) fun vs n e rs z => ?_ | refine e1_4 (R.list hi hl) fun vs n e rs z => ?_ | obtain ⟨vs, n, e, rs, z⟩ := R.list hi hl
  first | refine e3_1 (strs_vals hy rs) fun l' e_29 hm f => ?_ | refine e2_2 (strs_vals hy rs) fun l' e_29 hm f => ?_ | refine e1_3 (strs_vals hy rs) fun l' e_29 hm f => ?_ | refine e0_4 (strs_vals hy rs) fun l' e_29 hm f => ?_ | obtain ⟨l', e_29, hm, f⟩ := strs_vals hy rs
  obtain rfl := e_29
  refine SC.join (l := l') ⟨_, e, rfl, n, rfl⟩ hm ?_ fun t' k => ?_
  · unfold JoinOk
    rw [StrLaws.joinTotal]
    have : ¬ (ys.map (·.length)).sum + ys.length * x.length > sizeLine := by rw [sizeLine_eq]; omega
    simp only [Builtin.Str.tooLong, decide_eq_false this, Bool.not_false]
  · have e2 : Txt.join x ys = Str.join x ys := StrLaws.glued_eq_join x ys
    rw [e2]
    refine PostV.now R ?_ q
    exact rep_s ⟨Nat.le_trans (StrLaws.join_length_le x ys) (by omega), strOk_join fx.2 ys fun y hy => (f y hy).2⟩
theorem reps_strs : ∀ {l : List (Str × Tok)}, (∀ y ∈ l.map (·.1), StrFine y) → Reps D γ s.heap (strValues l) ((l.map (·.1)).map V.str)
  | [], _ => rfl
  | (y, u) :: r, h => Exists.intro (.str y u) ⟨_, rfl, rep_s (h y (by simp)), reps_strs fun z hz => h z (List.mem_cons_of_mem _ hz)⟩
theorem split_ok {y : Str} {u : Tok} (R : HRel D γ H s.heap) (fx : StrFine x) (hy : (y.length == 0) = false) (hz : x.length ≤ 1000000) (q : Q (.ref H.length) (H ++ [.list ((Txt.split x y).map .str)])) :
    wpAny D.M A (call (.builtin "str.split") [.str x t, .str y u]) (PostV D γ s Q) E s := by
  have fine : ∀ z ∈ Txt.split x y, StrFine z := fun z hz' => ⟨Nat.le_trans (part_short hz') (by omega), strOk_parts (x := y) _ (by rw [StrLaws.join_split]; exact fx.2) z hz'⟩
  have hlen : (Txt.split x y).length ≤ 2000000 := Nat.le_trans (split_le x y) (by omega)
  have fin : ∀ (l : List (Str × Tok)) (tk : Nat), l.map (·.1) = Txt.split x y → PostV D γ s Q (.ref s.heap.objs.size) { s with heap := s.heap.push { cls := .type "list", data := .seq (strValues l).toArray }, toks := tk } := fun l tk e => by
    have r : Reps D γ s.heap (strValues l) ((Txt.split x y).map V.str) := by rw [← e]; exact reps_strs (by rw [e]; exact fine)
    first | refine e3_4 (PostV.newList (Q := Q) R r (by simpa using hlen) q) fun γ' V' H' a b c d => ?_ | obtain ⟨γ', V', H', a, b, c, d⟩ := PostV.newList (Q := Q) R r (by simpa using hlen) q
    exact ⟨γ', V', H', ⟨(let ⟨h1, t1, e1⟩ := a.same; ⟨_, tk, rfl⟩), a.keepS, a.ext⟩, b, c, d⟩
  cases h1 : (decide (x.length < y.length) || decide (Builtin.Str.strKind x < Builtin.Str.strKind y))
  · cases hf : (Builtin.Str.occurrences x y 0 x.length (x.length + 1)).isEmpty
    · have e : Txt.split x y = Builtin.Str.partsBetween x (Builtin.Str.occurrences x y 0 x.length (x.length + 1)) y.length := (if_neg (ne_true_of_eq_false h1)).trans (if_neg (ne_true_of_eq_false hf))
      refine call_meets F.slot_str_split (typeIs_str _ _ _) F.entry_str_split (F.args_str_split_2 _ _) (meets_str_split_sep x y t u h1 hy hf (by rw [sizeLine_eq]; omega) (by rw [← e, sizeLine_eq]; omega)) ?_
      show PostV D γ s Q _ { s with toks := _, heap := s.heap.push { cls := .type "list", data := .seq (strsFrom s.toks (Builtin.Str.partsBetween x (Builtin.Str.occurrences x y 0 x.length (x.length + 1)) y.length)).toArray } }
      rw [strsFrom_eq]
      exact fin _ _ ((numbered_texts _ _).trans e.symm)
    · exact call_meets F.slot_str_split (typeIs_str _ _ _) F.entry_str_split (F.args_str_split_2 _ _) (meets_str_split_not_found x y t u h1 hy hf) (fin [(x, t)] s.toks ((if_neg (ne_true_of_eq_false h1)).trans (if_pos hf)).symm)
  · exact call_meets F.slot_str_split (typeIs_str _ _ _) F.entry_str_split (F.args_str_split_2 _ _) (meets_str_split_cannot_occur x y t u h1) (fin [(x, t)] s.toks (if_pos h1).symm)
end
end Mine

set_option autoImplicit false
/- The primitive operations. -/
namespace Mine
open PySem PyProof.Rows

section
variable {D : Wd} {γ : List Addr} {H : Hp} {s : Shared} {A : Around} {E : Value → Shared → Prop}

theorem TupAt.isTup {h : Heap} {a : Addr} {vs : List Value} (x : TupAt h a vs) : IsTup h a vs.toArray := by
  obtain ⟨n, e, _⟩ := x; exact ⟨_, e, rfl, n, rfl⟩
theorem TupAt.isTuple {h : Heap} {a : Addr} {vs : List Value} (x : TupAt h a vs) : h.IsTuple a vs.toArray := by
  obtain ⟨n, e, _⟩ := x; exact ⟨_, e, rfl, n, rfl⟩
theorem TupAt.size {h : Heap} {a : Addr} {vs : List Value} (x : TupAt h a vs) : vs.length ≤ 2000000 := by
  obtain ⟨n, e, z⟩ := x; exact z

/- a list of the abstract heap -/
theorem strFine_append {x y : Str} (f : StrFine x) (g : StrFine y) (h : x.length + y.length ≤ 1000000) : StrFine (x ++ y) := by
  refine ⟨by rw [strLen_append]; omega, ?_⟩
  have a := f.2; have b := g.2
  unfold PyData.strOk at a b ⊢
  show (x.cps ++ y.cps).all _ = true
  rw [Array.all_append, a, b]; rfl

theorem truth_ok {v : Value} {c : Bool} {Q : Bool → Hp → Prop} (R : HRel D γ H s.heap) (r : Rep D γ s.heap v (.bool c)) (q : Q c H) :
    wpAny D.M A (truthy v) (PostB D γ s Q) E s := by
  obtain rfl := r
  exact wpAny_truthy_bool (PostB.here R q)

theorem neg_ok {v : Value} {i : Int} {Q : V → Hp → Prop} (R : HRel D γ H s.heap) (r : Rep D γ s.heap v (.int i)) (q : Q (.int (-i)) H) :
    wpAny D.M A (unaryOp .USub v) (PostV D γ s Q) E s := by
  obtain ⟨t, rfl⟩ := r
  exact neg_int (PostV.now R rep_i q)

theorem bin_ok {op : Operator} {a b : Value} {Va Vb : V} {Q : V → Hp → Prop} (R : HRel D γ H s.heap) (ra : Rep D γ s.heap a Va) (rb : Rep D γ s.heap b Vb) (h : pBin op Va Vb H Q) :
    wpAny D.M A (binaryOp op a b) (PostV D γ s Q) E s := by
  cases op with
  | Add =>
    replace h : pAdd Va Vb H Q := h
    cases Va with
    | int i =>
      first | refine e2_1 (oK_elim (show oK (intV Vb) _ from h)) fun j e h => ?_ | refine e1_2 (oK_elim (show oK (intV Vb) _ from h)) fun j e h => ?_ | refine e0_3 (oK_elim (show oK (intV Vb) _ from h)) fun j e h => ?_ | obtain ⟨j, e, h⟩ := oK_elim (show oK (intV Vb) _ from h)
      rw [intV_some e] at rb
      obtain ⟨t, rfl⟩ := ra; obtain ⟨u, rfl⟩ := rb
      exact add_int (PostV.now R rep_i h)
    | str x =>
      first | refine e2_1 (oK_elim (show oK (strV Vb) _ from h)) fun y e h => ?_ | refine e1_2 (oK_elim (show oK (strV Vb) _ from h)) fun y e h => ?_ | refine e0_3 (oK_elim (show oK (strV Vb) _ from h)) fun y e h => ?_ | obtain ⟨y, e, h⟩ := oK_elim (show oK (strV Vb) _ from h)
      rw [strV_some e] at rb
      obtain ⟨t, rfl, f⟩ := ra; obtain ⟨u, rfl, g⟩ := rb
      refine PyProof.Rows.add_str (fun t' tk => PostV.now R (rep_s (strFine_append f g h.1)) h.2) (by rw [sizeLine_eq]; omega)
    | ref i =>
      first | refine e2_1 (oK_elim (show oK (refV Vb) _ from h)) fun j e h => ?_ | refine e1_2 (oK_elim (show oK (refV Vb) _ from h)) fun j e h => ?_ | refine e0_3 (oK_elim (show oK (refV Vb) _ from h)) fun j e h => ?_ | obtain ⟨j, e, h⟩ := oK_elim (show oK (refV Vb) _ from h)
      rw [refV_some e] at rb
      obtain ⟨x, hx, rfl⟩ := ra; obtain ⟨y, hy, rfl⟩ := rb
      first | refine e2_1 (oK_elim h) fun xs h1 h => ?_ | refine e1_2 (oK_elim h) fun xs h1 h => ?_ | refine e0_3 (oK_elim h) fun xs h1 h => ?_ | obtain ⟨xs, h1, h⟩ := oK_elim h
      first | refine e3_1 (oK_elim h) fun ys h2 h3 h4 => ?_ | refine e2_2 (oK_elim h) fun ys h2 h3 h4 => ?_ | refine e1_3 (oK_elim h) fun ys h2 h3 h4 => ?_ | refine e0_4 (oK_elim h) fun ys h2 h3 h4 => ?_ | obtain ⟨ys, h2, h3, h4⟩ := oK_elim h
      first | refine e3_2 (R.list hx h1) fun vs n e rs z => ?_ | refine e2_3 (R.list hx h1) fun vs n e rs z => ?_ | refine e1_4 (R.list hx h1) fun vs n e rs z => ?_ | obtain ⟨vs, n, e, rs, z⟩ := R.list hx h1
      first | refine e3_2 (R.list hy h2) fun ws m e' rs' z' => ?_ | refine e2_3 (R.list hy h2) fun ws m e' rs' z' => ?_ | refine e1_4 (R.list hy h2) fun ws m e' rs' z' => ?_ | obtain ⟨ws, m, e', rs', z'⟩ := R.list hy h2
      have := rs.length; have := rs'.length
      refine P.add_list (items := vs.toArray) (items2 := ws.toArray) (n := n) (n2 := m) e e' ?_ (by simp [sizeLine_eq]; omega)
      rw [List.append_toArray]
      exact PostV.newList R (rs.append rs') (by simp; omega) h4
    | _ => exact h.elim
  | Sub =>
    first | refine e3_2 (pInt_elim (show pInt Va Vb _ from h)) fun i j e_30 e_31 h => ?_ | refine e2_3 (pInt_elim (show pInt Va Vb _ from h)) fun i j e_30 e_31 h => ?_ | refine e1_4 (pInt_elim (show pInt Va Vb _ from h)) fun i j e_30 e_31 h => ?_ | obtain ⟨i, j, e_30, e_31, h⟩ := pInt_elim (show pInt Va Vb _ from h)
    obtain rfl := e_30
    obtain rfl := e_31
    obtain ⟨t, rfl⟩ := ra; obtain ⟨u, rfl⟩ := rb
    exact sub_int (PostV.now R rep_i h)
  | Mult =>
    first | refine e3_2 (pInt_elim (show pInt Va Vb _ from h)) fun i j e_32 e_33 h => ?_ | refine e2_3 (pInt_elim (show pInt Va Vb _ from h)) fun i j e_32 e_33 h => ?_ | refine e1_4 (pInt_elim (show pInt Va Vb _ from h)) fun i j e_32 e_33 h => ?_ | obtain ⟨i, j, e_32, e_33, h⟩ := pInt_elim (show pInt Va Vb _ from h)
    obtain rfl := e_32
    obtain rfl := e_33
    obtain ⟨t, rfl⟩ := ra; obtain ⟨u, rfl⟩ := rb
    refine mul_int (PostV.now R rep_i h.2) ?_
    rcases h.1 with q | q
    · exact IntMulOk.of_left (intBits_le_64 q.1 q.2)
    · exact IntMulOk.of_right (intBits_le_64 q.1 q.2)
  | FloorDiv =>
    first | refine e3_2 (pInt_elim (show pInt Va Vb _ from h)) fun i j e_34 e_35 h => ?_ | refine e2_3 (pInt_elim (show pInt Va Vb _ from h)) fun i j e_34 e_35 h => ?_ | refine e1_4 (pInt_elim (show pInt Va Vb _ from h)) fun i j e_34 e_35 h => ?_ | obtain ⟨i, j, e_34, e_35, h⟩ := pInt_elim (show pInt Va Vb _ from h)
    obtain rfl := e_34
    obtain rfl := e_35
    obtain ⟨t, rfl⟩ := ra; obtain ⟨u, rfl⟩ := rb
    have hj : j ≠ 0 := by have := h.1.1; omega
    refine floordiv_int hj (PostV.now (V := .int (i.fdiv j)) R rep_i ?_) (.inl (PyProof.noPylong_of_log2 ?_))
    · rw [Int.fdiv_eq_ediv_of_nonneg _ (by omega)]; exact h.2
    · have h1 := h.1
      have h2 : j.natAbs < 2 ^ 128 := by omega
      have h3 : j.natAbs ≠ 0 := by omega
      have := (Nat.log2_lt h3).mpr h2
      omega
  | Mod =>
    first | refine e3_2 (pInt_elim (show pInt Va Vb _ from h)) fun i j e_36 e_37 h => ?_ | refine e2_3 (pInt_elim (show pInt Va Vb _ from h)) fun i j e_36 e_37 h => ?_ | refine e1_4 (pInt_elim (show pInt Va Vb _ from h)) fun i j e_36 e_37 h => ?_ | obtain ⟨i, j, e_36, e_37, h⟩ := pInt_elim (show pInt Va Vb _ from h)
    obtain rfl := e_36
    obtain rfl := e_37
    obtain ⟨t, rfl⟩ := ra; obtain ⟨u, rfl⟩ := rb
    have hj : j ≠ 0 := by have := h.1.1; omega
    refine mod_int' hj (PostV.now (V := .int (i.fmod j)) R rep_i ?_)
    rw [Int.fmod_eq_emod_of_nonneg _ (by omega)]; exact h.2
  | Pow =>
    first | refine e3_2 (pInt_elim (show pInt Va Vb _ from h)) fun i j e_38 e_39 h => ?_ | refine e2_3 (pInt_elim (show pInt Va Vb _ from h)) fun i j e_38 e_39 h => ?_ | refine e1_4 (pInt_elim (show pInt Va Vb _ from h)) fun i j e_38 e_39 h => ?_ | obtain ⟨i, j, e_38, e_39, h⟩ := pInt_elim (show pInt Va Vb _ from h)
    obtain rfl := e_38
    obtain rfl := e_39
    obtain ⟨t, rfl⟩ := ra; obtain ⟨u, rfl⟩ := rb
    exact pow_int_small h.1.1 h.1.2.1 h.1.2.2 (PostV.now R rep_i h.2)
  | _ => exact h.elim

theorem seq_pos {k : Int} {n : Nat} (h0 : 0 ≤ k) (h1 : k < (n : Int)) : seqIndex? k n = some k.toNat := by
  have e : (if k < 0 then k + (n : Int) else k) = k := if_neg (by omega)
  show (if (0 ≤ (if k < 0 then k + (n : Int) else k) && decide ((if k < 0 then k + (n : Int) else k) < (n : Int))) = true then some (if k < 0 then k + (n : Int) else k).toNat else none) = _
  rw [e, if_pos (by rw [Bool.and_eq_true, decide_eq_true_eq, decide_eq_true_eq]; exact ⟨h0, h1⟩)]
theorem seq_neg {k : Int} {n : Nat} (h0 : k < 0) (h1 : 0 ≤ k + (n : Int)) : seqIndex? k n = some (k + (n : Int)).toNat := by
  have e : (if k < 0 then k + (n : Int) else k) = k + (n : Int) := if_pos h0
  show (if (0 ≤ (if k < 0 then k + (n : Int) else k) && decide ((if k < 0 then k + (n : Int) else k) < (n : Int))) = true then some (if k < 0 then k + (n : Int) else k).toNat else none) = _
  rw [e, if_pos (by rw [Bool.and_eq_true, decide_eq_true_eq, decide_eq_true_eq]; exact ⟨h1, by omega⟩)]
theorem sub_ok {value slice : Expr} {a b : Value} {Va Vb : V} {Q : V → Hp → Prop} (R : HRel D γ H s.heap) (ra : Rep D γ s.heap a Va) (rb : Rep D γ s.heap b Vb) (h : pSub Va Vb H Q)
    (hs : ∀ lo hi st p, slice ≠ .Slice lo hi st p) : wpAny D.M A (subscriptTail value slice a b) (PostV D γ s Q) E s := by
  have hs' : ∀ o i, subscripted slice false o i = operate [o, i] (getItem o i) := fun o i => by
    unfold subscripted
    split
    · rename_i lo hi p _ _; exact absurd rfl (hs _ _ _ _)
    · rename_i h1; cases h1
    · rfl
  have hi : ∃ k, Vb = .int k := by
    cases Vb with
    | int k => exact ⟨k, rfl⟩
    | _ => exact h.elim
  obtain ⟨k, rfl⟩ := hi
  obtain ⟨u, rfl⟩ := rb
  cases Va with
  | tup l =>
    first | refine e3_2 ra fun t vs e_40 ta rs => ?_ | refine e2_3 ra fun t vs e_40 ta rs => ?_ | refine e1_4 ra fun t vs e_40 ta rs => ?_ | obtain ⟨t, vs, e_40, ta, rs⟩ := ra
    obtain rfl := e_40
    first | refine e2_1 (oK_elim h) fun v hv q => ?_ | refine e1_2 (oK_elim h) fun v hv q => ?_ | refine e0_3 (oK_elim h) fun v hv q => ?_ | obtain ⟨v, hv, q⟩ := oK_elim h
    have hl := rs.length
    have hz := ta.size
    unfold idx at hv
    by_cases h0 : 0 ≤ k
    · rw [if_pos h0] at hv
      first | refine e2_1 (rs.get hv) fun w hw rw_ => ?_ | refine e1_2 (rs.get hv) fun w hw rw_ => ?_ | refine e0_3 (rs.get hv) fun w hw rw_ => ?_ | obtain ⟨w, hw, rw_⟩ := rs.get hv
      have hlt : k.toNat < vs.length := (List.getElem?_eq_some_iff.mp hw).1
      exact item_tupleT (j := k.toNat) ta.isTup (by omega) (by omega) (seq_pos h0 (by omega)) hw (PostV.here R rw_ q) (hs' _ _)
    · rw [if_neg h0] at hv
      by_cases h1 : 0 ≤ k + (l.length : Int)
      · rw [if_pos h1] at hv
        first | refine e2_1 (rs.get hv) fun w hw rw_ => ?_ | refine e1_2 (rs.get hv) fun w hw rw_ => ?_ | refine e0_3 (rs.get hv) fun w hw rw_ => ?_ | obtain ⟨w, hw, rw_⟩ := rs.get hv
        refine item_tupleT (j := (k + (l.length : Int)).toNat) ta.isTup (by omega) (by omega) ?_ hw (PostV.here R rw_ q) (hs' _ _)
        rw [← hl] at h1 ⊢
        exact seq_neg (by omega) h1
      · rw [if_neg h1] at hv; exact no_some hv
  | ref i =>
    first | refine e2_1 ra fun x hx e_41 => ?_ | refine e1_2 ra fun x hx e_41 => ?_ | refine e0_3 ra fun x hx e_41 => ?_ | obtain ⟨x, hx, e_41⟩ := ra
    obtain rfl := e_41
    first | refine e2_1 (oK_elim h) fun l hl h => ?_ | refine e1_2 (oK_elim h) fun l hl h => ?_ | refine e0_3 (oK_elim h) fun l hl h => ?_ | obtain ⟨l, hl, h⟩ := oK_elim h
    first | refine e2_1 (oK_elim h) fun v hv q => ?_ | refine e1_2 (oK_elim h) fun v hv q => ?_ | refine e0_3 (oK_elim h) fun v hv q => ?_ | obtain ⟨v, hv, q⟩ := oK_elim h
    first | refine e3_2 (R.list hx hl) fun vs n e rs hz => ?_ | refine e2_3 (R.list hx hl) fun vs n e rs hz => ?_ | refine e1_4 (R.list hx hl) fun vs n e rs hz => ?_ | obtain ⟨vs, n, e, rs, hz⟩ := R.list hx hl
    have hL : s.heap.IsList x vs.toArray := ⟨_, e, rfl, n, rfl⟩
    obtain ⟨h0, hv⟩ := idxP_some hv
    first | refine e2_1 (rs.get hv) fun w hw rw_ => ?_ | refine e1_2 (rs.get hv) fun w hw rw_ => ?_ | refine e0_3 (rs.get hv) fun w hw rw_ => ?_ | obtain ⟨w, hw, rw_⟩ := rs.get hv
    have hlt := (List.getElem?_eq_some_iff.mp hw).1
    exact tail_any hL.typeIs slot_list_getitem.lookup (wpAny_getItem_list hL h0 (by omega) (by rw [List.getElem?_toArray]; exact hw) (PostV.here R rw_ q)) (hs' _ _)
  | scr ns =>
    first | refine e3_4 ra fun x vs e_42 e hz hlen hI => ?_ | obtain ⟨x, vs, e_42, e, hz, hlen, hI⟩ := ra
    obtain rfl := e_42
    first | refine e2_1 (oK_elim h) fun v hv q => ?_ | refine e1_2 (oK_elim h) fun v hv q => ?_ | refine e0_3 (oK_elim h) fun v hv q => ?_ | obtain ⟨v, hv, q⟩ := oK_elim h
    have hL : s.heap.IsList x vs.toArray := let ⟨o, h1, h2, n, h3⟩ := e; ⟨o, R.base _ _ h1, h2, n, h3⟩
    obtain ⟨h0, hv⟩ := idxP_some hv
    obtain ⟨t, hw⟩ := hI _ _ hv
    have hlt := (List.getElem?_eq_some_iff.mp hw).1
    exact tail_any hL.typeIs slot_list_getitem.lookup (wpAny_getItem_list hL h0 (by omega) (by rw [List.getElem?_toArray]; exact hw) (PostV.here (v := .int v t) (V := .int v) R rep_i q)) (hs' _ _)
  | str x =>
    first | refine e2_1 ra fun t e_43 fx => ?_ | refine e1_2 ra fun t e_43 fx => ?_ | refine e0_3 ra fun t e_43 fx => ?_ | obtain ⟨t, e_43, fx⟩ := ra
    obtain rfl := e_43
    first | refine e2_1 (oK_elim h) fun v hv q => ?_ | refine e1_2 (oK_elim h) fun v hv q => ?_ | refine e0_3 (oK_elim h) fun v hv q => ?_ | obtain ⟨v, hv, q⟩ := oK_elim h
    have hz := fx.1
    have hl : x.cps.toList.length = x.length := Array.length_toList
    obtain ⟨h0, hv⟩ := idxP_some hv
    have hlt := (List.getElem?_eq_some_iff.mp hv).1
    refine tail_any (typeIs_str s x t) F.slot_str_getitem.lookup (P.getItem_str (c := v) (by simp; omega) (by rw [seq_pos h0 (by omega)]; simpa using hv) (PostV.now R (V := .str ⟨#[v]⟩) ?_ q)) (hs' _ _)
    exact rep_s ⟨by show 1 ≤ _; omega, strOk_iff.mpr fun c hc => by simp at hc; subst hc; exact strOk_iff.mp fx.2 _ (List.mem_of_getElem? hv)⟩
  | _ => exact h.elim
end
end Mine

set_option autoImplicit false
/- Comparisons, built-in calls, methods. -/
namespace Mine
open PySem PyProof.Rows PySem.SeqAt

mutual
theorem toPy_reads {mg : Wd} {γ : List Addr} {h : Heap} {v : Value} : ∀ {V : V} {d : PyData}, Rep mg γ h v V → toPy V = some d → ∃ as, Reads h v d as ∧ d.canLay0 = true
  | .none, d, r, e => by obtain rfl := r; obtain rfl := Option.some.inj e; exact ⟨_, .none, rfl⟩
  | .bool b, d, r, e => by obtain rfl := r; obtain rfl := Option.some.inj e; exact ⟨_, .bool b, rfl⟩
  | .int i, d, r, e => by obtain ⟨t, rfl⟩ := r; obtain rfl := Option.some.inj e; exact ⟨_, .int i t, rfl⟩
  | .str x, d, r, e => by obtain ⟨t, rfl, f⟩ := r; obtain rfl := Option.some.inj e; exact ⟨_, .str x t, f.2⟩
  | .tup l, d, r, e => by
    first | refine e3_2 r fun a vs e_44 e_45 rs => ?_ | refine e2_3 r fun a vs e_44 e_45 rs => ?_ | refine e1_4 r fun a vs e_44 e_45 rs => ?_ | obtain ⟨a, vs, e_44, e_45, rs⟩ := r
    obtain rfl := e_44
    obtain ⟨n, q, z⟩ := e_45
    first | refine e2_1 (Option.map_eq_some_iff.mp (show (toPys l).map _ = some d from e)) fun ds hd e_46 => ?_ | refine e1_2 (Option.map_eq_some_iff.mp (show (toPys l).map _ = some d from e)) fun ds hd e_46 => ?_ | refine e0_3 (Option.map_eq_some_iff.mp (show (toPys l).map _ = some d from e)) fun ds hd e_46 => ?_ | obtain ⟨ds, hd, e_46⟩ := Option.map_eq_some_iff.mp (show (toPys l).map _ = some d from e)
    obtain rfl := e_46
    first | refine e2_1 (toPys_reads rs hd) fun as ra c => ?_ | refine e1_2 (toPys_reads rs hd) fun as ra c => ?_ | refine e0_3 (toPys_reads rs hd) fun as ra c => ?_ | obtain ⟨as, ra, c⟩ := toPys_reads rs hd
    exact ⟨as, .tuple q rfl rfl ra, c⟩
  | .opq i, d, r, e => no_some e
  | .ref i, d, r, e => no_some e
  | .fn i, d, r, e => no_some e
  | .ty i, d, r, e => no_some e
  | .bi i, d, r, e => no_some e
  | .scr i, d, r, e => no_some e
  | .cls _ _, d, r, e => no_some e
theorem toPys_reads {mg : Wd} {γ : List Addr} {h : Heap} {vs : List Value} : ∀ {l : List V} {ds : List PyData}, Reps mg γ h vs l → toPys l = some ds → ∃ as, ReadsAll h vs ds as ∧ PyData.canLayAll0 ds = true
  | [], ds, r, e => by obtain rfl := r; obtain rfl := Option.some.inj e; exact ⟨_, .nil, rfl⟩
  | V :: l, ds, r, e => by
    first | refine e3_2 r fun v r' e_47 a b => ?_ | refine e2_3 r fun v r' e_47 a b => ?_ | refine e1_4 r fun v r' e_47 a b => ?_ | obtain ⟨v, r', e_47, a, b⟩ := r
    obtain rfl := e_47
    first | refine e2_1 (Option.bind_eq_some_iff.mp (show (toPy V).bind _ = some ds from e)) fun d h1 e => ?_ | refine e1_2 (Option.bind_eq_some_iff.mp (show (toPy V).bind _ = some ds from e)) fun d h1 e => ?_ | refine e0_3 (Option.bind_eq_some_iff.mp (show (toPy V).bind _ = some ds from e)) fun d h1 e => ?_ | obtain ⟨d, h1, e⟩ := Option.bind_eq_some_iff.mp (show (toPy V).bind _ = some ds from e)
    first | refine e2_1 (Option.map_eq_some_iff.mp e) fun ds' h2 e_48 => ?_ | refine e1_2 (Option.map_eq_some_iff.mp e) fun ds' h2 e_48 => ?_ | refine e0_3 (Option.map_eq_some_iff.mp e) fun ds' h2 e_48 => ?_ | obtain ⟨ds', h2, e_48⟩ := Option.map_eq_some_iff.mp e
    obtain rfl := e_48
    first | refine e2_1 (toPy_reads a h1) fun as q1 c1 => ?_ | refine e1_2 (toPy_reads a h1) fun as q1 c1 => ?_ | refine e0_3 (toPy_reads a h1) fun as q1 c1 => ?_ | obtain ⟨as, q1, c1⟩ := toPy_reads a h1
    first | refine e2_1 (toPys_reads b h2) fun bs q2 c2 => ?_ | refine e1_2 (toPys_reads b h2) fun bs q2 c2 => ?_ | refine e0_3 (toPys_reads b h2) fun bs q2 c2 => ?_ | obtain ⟨bs, q2, c2⟩ := toPys_reads b h2
    exact ⟨_, .cons q1 q2, by show (d.canLay0 && PyData.canLayAll0 ds') = true; rw [c1, c2]; rfl⟩
end

section
variable {D : Wd} {γ : List Addr} {H : Hp} {s : Shared} {A : Around} {E : Value → Shared → Prop} {k : Nat}

theorem toPyH_reads {v : Value} {V : V} {d : PyData} (R : HRel D γ H s.heap) (r : Rep D γ s.heap v V) (e : toPyH H V = some d) : ∃ as, Reads s.heap v d as ∧ d.canLay0 = true := by
  cases V with
  | ref i =>
    first | refine e2_1 (Option.map_eq_some_iff.mp (show ((listAt H i).bind toPys).map _ = some d from e)) fun ds hb e_49 => ?_ | refine e1_2 (Option.map_eq_some_iff.mp (show ((listAt H i).bind toPys).map _ = some d from e)) fun ds hb e_49 => ?_ | refine e0_3 (Option.map_eq_some_iff.mp (show ((listAt H i).bind toPys).map _ = some d from e)) fun ds hb e_49 => ?_ | obtain ⟨ds, hb, e_49⟩ := Option.map_eq_some_iff.mp (show ((listAt H i).bind toPys).map _ = some d from e)
    obtain rfl := e_49
    first | refine e2_1 (Option.bind_eq_some_iff.mp hb) fun l hl hd => ?_ | refine e1_2 (Option.bind_eq_some_iff.mp hb) fun l hl hd => ?_ | refine e0_3 (Option.bind_eq_some_iff.mp hb) fun l hl hd => ?_ | obtain ⟨l, hl, hd⟩ := Option.bind_eq_some_iff.mp hb
    first | refine e2_1 r fun a hi e_50 => ?_ | refine e1_2 r fun a hi e_50 => ?_ | refine e0_3 r fun a hi e_50 => ?_ | obtain ⟨a, hi, e_50⟩ := r
    obtain rfl := e_50
    first | refine e3_2 (R.list hi hl) fun vs n q rs z => ?_ | refine e2_3 (R.list hi hl) fun vs n q rs z => ?_ | refine e1_4 (R.list hi hl) fun vs n q rs z => ?_ | obtain ⟨vs, n, q, rs, z⟩ := R.list hi hl
    first | refine e2_1 (toPys_reads rs hd) fun as ra c => ?_ | refine e1_2 (toPys_reads rs hd) fun as ra c => ?_ | refine e0_3 (toPys_reads rs hd) fun as ra c => ?_ | obtain ⟨as, ra, c⟩ := toPys_reads rs hd
    exact ⟨_, .list q rfl rfl ra, c⟩
  | _ => exact toPy_reads r e

theorem room (hA : AOk D k A) {n m : Nat} (h : n ≤ 60) : A.units + min n m < cLine := by
  have := hA.units
  have : min n m ≤ n := Nat.min_le_left _ _
  show _ < 9900
  omega

theorem room1 (hA : AOk D k A) {n m : Nat} (h : n ≤ 60) : A.units + 1 + min m n < cLine := by
  have := hA.units
  have : min m n ≤ n := Nat.min_le_right _ _
  show _ < 9900
  omega

theorem eqH_some {a b : V} {c : Bool} (h : eqH H a b = some c) : ∃ d e, toPyH H a = some d ∧ toPyH H b = some e ∧ d.depth ≤ 60 ∧ c = PyData.eqv d e := by
  first | refine e2_1 (Option.bind_eq_some_iff.mp h) fun d h1 h => ?_ | refine e1_2 (Option.bind_eq_some_iff.mp h) fun d h1 h => ?_ | refine e0_3 (Option.bind_eq_some_iff.mp h) fun d h1 h => ?_ | obtain ⟨d, h1, h⟩ := Option.bind_eq_some_iff.mp h
  first | refine e2_1 (Option.bind_eq_some_iff.mp h) fun e h2 h => ?_ | refine e1_2 (Option.bind_eq_some_iff.mp h) fun e h2 h => ?_ | refine e0_3 (Option.bind_eq_some_iff.mp h) fun e h2 h => ?_ | obtain ⟨e, h2, h⟩ := Option.bind_eq_some_iff.mp h
  by_cases hd : d.depth ≤ 60
  · rw [if_pos hd] at h; exact ⟨d, e, h1, h2, hd, (Option.some.inj h).symm⟩
  · rw [if_neg hd] at h; exact no_some h
theorem memV_some {a : V} {l : List V} {c : Bool} (h : memV a l = some c) : ∃ d ds, toPy a = some d ∧ toPys l = some ds ∧ d.depth ≤ 60 ∧ c = ds.any fun e => PyData.eqv e d := by
  first | refine e2_1 (Option.bind_eq_some_iff.mp h) fun d h1 h => ?_ | refine e1_2 (Option.bind_eq_some_iff.mp h) fun d h1 h => ?_ | refine e0_3 (Option.bind_eq_some_iff.mp h) fun d h1 h => ?_ | obtain ⟨d, h1, h⟩ := Option.bind_eq_some_iff.mp h
  first | refine e2_1 (Option.bind_eq_some_iff.mp h) fun e h2 h => ?_ | refine e1_2 (Option.bind_eq_some_iff.mp h) fun e h2 h => ?_ | refine e0_3 (Option.bind_eq_some_iff.mp h) fun e h2 h => ?_ | obtain ⟨e, h2, h⟩ := Option.bind_eq_some_iff.mp h
  by_cases hd : d.depth ≤ 60
  · rw [if_pos hd] at h; exact ⟨d, e, h1, h2, hd, (Option.some.inj h).symm⟩
  · rw [if_neg hd] at h; exact no_some h
/- `in`, and `not in` by the flag -/
theorem in_ok {n : Bool} {a b : Value} {Va Vb : V} {P : Bool → Prop} {Q : Value → Shared → Prop} (hA : AOk D k A) (R : HRel D γ H s.heap) (ra : Rep D γ s.heap a Va) (rb : Rep D γ s.heap b Vb) (h : pIn Va Vb H P) (hq : ∀ c, P c → Q (.bool (if n then !c else c)) s) :
    wpAny D.M A (compareOp (if n then .NotIn else .In) a b) Q E s := by
  cases Vb with
  | str x =>
    first | refine e2_1 (oK_elim h) fun y hy q => ?_ | refine e1_2 (oK_elim h) fun y hy q => ?_ | refine e0_3 (oK_elim h) fun y hy q => ?_ | obtain ⟨y, hy, q⟩ := oK_elim h
    rw [strV_some hy] at ra
    first | refine e2_1 ra fun u e_51 _ => ?_ | refine e1_2 ra fun u e_51 _ => ?_ | refine e0_3 ra fun u e_51 _ => ?_ | obtain ⟨u, e_51, _⟩ := ra
    obtain rfl := e_51
    first | refine e2_1 rb fun t e_52 _ => ?_ | refine e1_2 rb fun t e_52 _ => ?_ | refine e0_3 rb fun t e_52 _ => ?_ | obtain ⟨t, e_52, _⟩ := rb
    obtain rfl := e_52
    cases n with
    | true => exact PySem.P.notIn_str (hq _ q)
    | false => exact PySem.P.in_str (hq _ q)
  | tup l =>
    first | refine e2_1 (oK_elim h) fun c hc q => ?_ | refine e1_2 (oK_elim h) fun c hc q => ?_ | refine e0_3 (oK_elim h) fun c hc q => ?_ | obtain ⟨c, hc, q⟩ := oK_elim h
    first | refine e3_3 (memV_some hc) fun d ds h1 h2 hd e_53 => ?_ | refine e2_4 (memV_some hc) fun d ds h1 h2 hd e_53 => ?_ | obtain ⟨d, ds, h1, h2, hd, e_53⟩ := memV_some hc
    obtain rfl := e_53
    first | refine e2_1 (toPy_reads ra h1) fun as r1 c1 => ?_ | refine e1_2 (toPy_reads ra h1) fun as r1 c1 => ?_ | refine e0_3 (toPy_reads ra h1) fun as r1 c1 => ?_ | obtain ⟨as, r1, c1⟩ := toPy_reads ra h1
    obtain ⟨bs, r2, c2⟩ := toPy_reads (d := .tuple ds) rb (show (toPys l).map PyData.tuple = _ by rw [h2]; rfl)
    cases n with
    | true => exact notIn_tuple_reads r2 r1 c2 c1 (room1 hA hd) (hq _ q)
    | false => exact in_tuple_reads r2 r1 c2 c1 (room1 hA hd) (hq _ q)
  | ref i =>
    first | refine e2_1 (oK_elim h) fun l hl h => ?_ | refine e1_2 (oK_elim h) fun l hl h => ?_ | refine e0_3 (oK_elim h) fun l hl h => ?_ | obtain ⟨l, hl, h⟩ := oK_elim h
    first | refine e2_1 (oK_elim h) fun c hc q => ?_ | refine e1_2 (oK_elim h) fun c hc q => ?_ | refine e0_3 (oK_elim h) fun c hc q => ?_ | obtain ⟨c, hc, q⟩ := oK_elim h
    first | refine e3_3 (memV_some hc) fun d ds h1 h2 hd e_54 => ?_ | refine e2_4 (memV_some hc) fun d ds h1 h2 hd e_54 => ?_ | obtain ⟨d, ds, h1, h2, hd, e_54⟩ := memV_some hc
    obtain rfl := e_54
    first | refine e2_1 (toPy_reads ra h1) fun as r1 c1 => ?_ | refine e1_2 (toPy_reads ra h1) fun as r1 c1 => ?_ | refine e0_3 (toPy_reads ra h1) fun as r1 c1 => ?_ | obtain ⟨as, r1, c1⟩ := toPy_reads ra h1
    obtain ⟨bs, r2, c2⟩ := toPyH_reads (d := .list ds) R rb (show ((listAt H i).bind toPys).map PyData.list = _ by rw [hl]; show (toPys l).map _ = _; rw [h2]; rfl)
    cases n with
    | true => exact notIn_list_reads r2 r1 c2 c1 (room1 hA hd) (hq _ q)
    | false => exact in_list_reads r2 r1 c2 c1 (room1 hA hd) (hq _ q)
  | _ => exact h.elim
theorem cmp_ok {op : CmpOp} {a b : Value} {Va Vb : V} {Q : V → Hp → Prop} (hA : AOk D k A) (R : HRel D γ H s.heap) (ra : Rep D γ s.heap a Va) (rb : Rep D γ s.heap b Vb) (h : pCmp op Va Vb H Q) :
    wpAny D.M A (compareOp op a b) (PostV D γ s Q) E s := by
  cases op with
  | Eq =>
    first | refine e2_1 (oK_elim (show oK (eqK H Va Vb) _ from h)) fun c hc q => ?_ | refine e1_2 (oK_elim (show oK (eqK H Va Vb) _ from h)) fun c hc q => ?_ | refine e0_3 (oK_elim (show oK (eqK H Va Vb) _ from h)) fun c hc q => ?_ | obtain ⟨c, hc, q⟩ := oK_elim (show oK (eqK H Va Vb) _ from h)
    rcases eqK_some hc with ⟨x, y, rfl, rfl, rfl⟩ | hc
    · obtain ⟨t, rfl⟩ := ra; obtain ⟨u, rfl⟩ := rb
      exact eq_str (PostV.here R rep_b q)
    first | refine e3_3 (eqH_some hc) fun d e h1 h2 hd e_55 => ?_ | refine e2_4 (eqH_some hc) fun d e h1 h2 hd e_55 => ?_ | obtain ⟨d, e, h1, h2, hd, e_55⟩ := eqH_some hc
    obtain rfl := e_55
    first | refine e2_1 (toPyH_reads R ra h1) fun as r1 c1 => ?_ | refine e1_2 (toPyH_reads R ra h1) fun as r1 c1 => ?_ | refine e0_3 (toPyH_reads R ra h1) fun as r1 c1 => ?_ | obtain ⟨as, r1, c1⟩ := toPyH_reads R ra h1
    first | refine e2_1 (toPyH_reads R rb h2) fun bs r2 c2 => ?_ | refine e1_2 (toPyH_reads R rb h2) fun bs r2 c2 => ?_ | refine e0_3 (toPyH_reads R rb h2) fun bs r2 c2 => ?_ | obtain ⟨bs, r2, c2⟩ := toPyH_reads R rb h2
    exact compareEq_reads r1 r2 c1 c2 (room hA hd) (PostV.here R rep_b q)
  | NotEq =>
    first | refine e2_1 (oK_elim (show oK (eqH H Va Vb) _ from h)) fun c hc q => ?_ | refine e1_2 (oK_elim (show oK (eqH H Va Vb) _ from h)) fun c hc q => ?_ | refine e0_3 (oK_elim (show oK (eqH H Va Vb) _ from h)) fun c hc q => ?_ | obtain ⟨c, hc, q⟩ := oK_elim (show oK (eqH H Va Vb) _ from h)
    first | refine e3_3 (eqH_some hc) fun d e h1 h2 hd e_56 => ?_ | refine e2_4 (eqH_some hc) fun d e h1 h2 hd e_56 => ?_ | obtain ⟨d, e, h1, h2, hd, e_56⟩ := eqH_some hc
    obtain rfl := e_56
    first | refine e2_1 (toPyH_reads R ra h1) fun as r1 c1 => ?_ | refine e1_2 (toPyH_reads R ra h1) fun as r1 c1 => ?_ | refine e0_3 (toPyH_reads R ra h1) fun as r1 c1 => ?_ | obtain ⟨as, r1, c1⟩ := toPyH_reads R ra h1
    first | refine e2_1 (toPyH_reads R rb h2) fun bs r2 c2 => ?_ | refine e1_2 (toPyH_reads R rb h2) fun bs r2 c2 => ?_ | refine e0_3 (toPyH_reads R rb h2) fun bs r2 c2 => ?_ | obtain ⟨bs, r2, c2⟩ := toPyH_reads R rb h2
    exact compareNe_reads r1 r2 c1 c2 (room hA hd) (PostV.here R rep_b q)
  | Lt =>
    first | refine e3_2 (pInt_elim (show pInt Va Vb _ from h)) fun i j e_57 e_58 h => ?_ | refine e2_3 (pInt_elim (show pInt Va Vb _ from h)) fun i j e_57 e_58 h => ?_ | refine e1_4 (pInt_elim (show pInt Va Vb _ from h)) fun i j e_57 e_58 h => ?_ | obtain ⟨i, j, e_57, e_58, h⟩ := pInt_elim (show pInt Va Vb _ from h)
    obtain rfl := e_57
    obtain rfl := e_58
    obtain ⟨t, rfl⟩ := ra; obtain ⟨u, rfl⟩ := rb
    exact lt_int (PostV.here R rep_b h)
  | LtE =>
    first | refine e3_2 (pInt_elim (show pInt Va Vb _ from h)) fun i j e_59 e_60 h => ?_ | refine e2_3 (pInt_elim (show pInt Va Vb _ from h)) fun i j e_59 e_60 h => ?_ | refine e1_4 (pInt_elim (show pInt Va Vb _ from h)) fun i j e_59 e_60 h => ?_ | obtain ⟨i, j, e_59, e_60, h⟩ := pInt_elim (show pInt Va Vb _ from h)
    obtain rfl := e_59
    obtain rfl := e_60
    obtain ⟨t, rfl⟩ := ra; obtain ⟨u, rfl⟩ := rb
    exact le_int (PostV.here R rep_b h)
  | Gt =>
    first | refine e3_2 (pInt_elim (show pInt Va Vb _ from h)) fun i j e_61 e_62 h => ?_ | refine e2_3 (pInt_elim (show pInt Va Vb _ from h)) fun i j e_61 e_62 h => ?_ | refine e1_4 (pInt_elim (show pInt Va Vb _ from h)) fun i j e_61 e_62 h => ?_ | obtain ⟨i, j, e_61, e_62, h⟩ := pInt_elim (show pInt Va Vb _ from h)
    obtain rfl := e_61
    obtain rfl := e_62
    obtain ⟨t, rfl⟩ := ra; obtain ⟨u, rfl⟩ := rb
    exact gt_int (PostV.here R rep_b h)
  | GtE =>
    first | refine e3_2 (pInt_elim (show pInt Va Vb _ from h)) fun i j e_63 e_64 h => ?_ | refine e2_3 (pInt_elim (show pInt Va Vb _ from h)) fun i j e_63 e_64 h => ?_ | refine e1_4 (pInt_elim (show pInt Va Vb _ from h)) fun i j e_63 e_64 h => ?_ | obtain ⟨i, j, e_63, e_64, h⟩ := pInt_elim (show pInt Va Vb _ from h)
    obtain rfl := e_63
    obtain rfl := e_64
    obtain ⟨t, rfl⟩ := ra; obtain ⟨u, rfl⟩ := rb
    exact ge_int (PostV.here R rep_b h)
  | In => exact in_ok (n := false) (P := fun c => Q (.bool c) H) hA R ra rb h fun c q => PostV.here R rep_b q
  | NotIn => exact in_ok (n := true) (P := fun c => Q (.bool (!c)) H) hA R ra rb h fun c q => PostV.here R rep_b q
  | _ => exact h.elim

theorem len_ok {v : Value} {n : Int} {Q : V → Hp → Prop} {V : V} (R : HRel D γ H s.heap) (r : Rep D γ s.heap v V)
    (h : (∃ l, V = .tup l ∧ n = (l.length : Int)) ∨ (∃ i l, V = .ref i ∧ listAt H i = some l ∧ n = (l.length : Int))) (q : Q (.int n) H) :
    wpAny D.M A (call (.builtin "len") [v]) (PostV D γ s Q) E s := by
  rcases h with ⟨l, rfl, rfl⟩ | ⟨i, l, rfl, hl, rfl⟩
  · first | refine e3_2 r fun a vs e_65 t rs => ?_ | refine e2_3 r fun a vs e_65 t rs => ?_ | refine e1_4 r fun a vs e_65 t rs => ?_ | obtain ⟨a, vs, e_65, t, rs⟩ := r
    obtain rfl := e_65
    have := t.size; have hlen := rs.length
    refine len_tuple t.isTup (by simp; omega) (PostV.now R ?_ q)
    exact Exists.intro (s.toks + 1) (by simp [hlen])
  · first | refine e2_1 r fun a hi e_66 => ?_ | refine e1_2 r fun a hi e_66 => ?_ | refine e0_3 r fun a hi e_66 => ?_ | obtain ⟨a, hi, e_66⟩ := r
    obtain rfl := e_66
    first | refine e3_2 (R.list hi hl) fun vs n e rs z => ?_ | refine e2_3 (R.list hi hl) fun vs n e rs z => ?_ | refine e1_4 (R.list hi hl) fun vs n e rs z => ?_ | obtain ⟨vs, n, e, rs, z⟩ := R.list hi hl
    have hlen := rs.length
    refine len_list (items := vs.toArray) ⟨_, e, rfl, n, rfl⟩ (by simp; omega) (PostV.now R ?_ q)
    exact Exists.intro (s.toks + 1) (by simp [hlen])
end
end Mine

set_option autoImplicit false
/- Built-in calls and methods. -/
namespace Mine
open PySem PyProof.Rows PySem.SeqAt

section
variable {D : Wd} {γ : List Addr} {H : Hp} {s : Shared} {A : Around} {E : Value → Shared → Prop} {k : Nat}

theorem isi_ok {v : Value} {t : Ty} {c : Bool} {Q : V → Hp → Prop} {W : V} (R : HRel D γ H s.heap) (r : Rep D γ s.heap v W) (h : isInstH H W t = some c) (q : Q (.bool c) H) :
    wpAny D.M A (call (.builtin "isinstance") [v, .type t.name]) (PostV D γ s Q) E s := by
  cases W with
  | none =>
    obtain rfl := r
    cases t with
    | int => obtain rfl := Option.some.inj h; exact IsiPair.NoneType_int (PostV.now R rep_b q)
    | bool => obtain rfl := Option.some.inj h; exact IsiPair.NoneType_bool (PostV.now R rep_b q)
    | str => obtain rfl := Option.some.inj h; exact IsiPair.NoneType_str (PostV.now R rep_b q)
    | tuple => obtain rfl := Option.some.inj h; exact IsiPair.NoneType_tuple (PostV.now R rep_b q)
    | _ => exact no_some h
  | bool b =>
    obtain rfl := r
    cases t with
    | int => obtain rfl := Option.some.inj h; exact IsiPair.bool_int (PostV.here R rep_b q)
    | bool => obtain rfl := Option.some.inj h; exact IsiPair.bool_bool (PostV.here R rep_b q)
    | str => obtain rfl := Option.some.inj h; exact IsiPair.bool_str (PostV.now R rep_b q)
    | tuple => obtain rfl := Option.some.inj h; exact IsiPair.bool_tuple (PostV.now R rep_b q)
    | _ => exact no_some h
  | int i =>
    obtain ⟨u, rfl⟩ := r
    cases t with
    | int => obtain rfl := Option.some.inj h; exact IsiPair.int_int (PostV.here R rep_b q)
    | bool => obtain rfl := Option.some.inj h; exact IsiPair.int_bool (PostV.now R rep_b q)
    | str => obtain rfl := Option.some.inj h; exact IsiPair.int_str (PostV.now R rep_b q)
    | tuple => obtain rfl := Option.some.inj h; exact IsiPair.int_tuple (PostV.now R rep_b q)
    | _ => exact no_some h
  | str x =>
    first | refine e2_1 r fun u e_67 _ => ?_ | refine e1_2 r fun u e_67 _ => ?_ | refine e0_3 r fun u e_67 _ => ?_ | obtain ⟨u, e_67, _⟩ := r
    obtain rfl := e_67
    cases t with
    | int => obtain rfl := Option.some.inj h; exact IsiPair.str_int (PostV.now R rep_b q)
    | bool => obtain rfl := Option.some.inj h; exact IsiPair.str_bool (PostV.now R rep_b q)
    | str => obtain rfl := Option.some.inj h; exact IsiPair.str_str (PostV.here R rep_b q)
    | tuple => obtain rfl := Option.some.inj h; exact IsiPair.str_tuple (PostV.now R rep_b q)
    | _ => exact no_some h
  | tup l =>
    first | refine e3_2 r fun a vs e_68 e_69 _ => ?_ | refine e2_3 r fun a vs e_68 e_69 _ => ?_ | refine e1_4 r fun a vs e_68 e_69 _ => ?_ | obtain ⟨a, vs, e_68, e_69, _⟩ := r
    obtain rfl := e_68
    obtain ⟨n, e, _⟩ := e_69
    cases t with
    | int => obtain rfl := Option.some.inj h; exact IsiPair.tuple_int e rfl (PostV.now R rep_b q)
    | bool => obtain rfl := Option.some.inj h; exact IsiPair.tuple_bool e rfl (PostV.now R rep_b q)
    | str => obtain rfl := Option.some.inj h; exact IsiPair.tuple_str e rfl (PostV.now R rep_b q)
    | tuple => obtain rfl := Option.some.inj h; exact IsiPair.tuple_tuple e rfl (PostV.here R rep_b q)
    | _ => exact no_some h
  | ref i =>
    first | refine e2_1 r fun a hi e_70 => ?_ | refine e1_2 r fun a hi e_70 => ?_ | refine e0_3 r fun a hi e_70 => ?_ | obtain ⟨a, hi, e_70⟩ := r
    obtain rfl := e_70
    have hl0 : ∃ l, listAt H i = some l ∧ c = subTy .list t ∧ isiTy t = true := by
      cases ht : isiTy t with
      | false => unfold isInstH at h; rw [ht] at h; exact no_some h
      | true =>
        unfold isInstH at h; rw [ht] at h
        first | refine e2_1 (Option.map_eq_some_iff.mp h) fun y h1 h2 => ?_ | refine e1_2 (Option.map_eq_some_iff.mp h) fun y h1 h2 => ?_ | refine e0_3 (Option.map_eq_some_iff.mp h) fun y h1 h2 => ?_ | obtain ⟨y, h1, h2⟩ := Option.map_eq_some_iff.mp h
        first | refine e2_1 (Option.map_eq_some_iff.mp h1) fun l h3 h4 => ?_ | refine e1_2 (Option.map_eq_some_iff.mp h1) fun l h3 h4 => ?_ | refine e0_3 (Option.map_eq_some_iff.mp h1) fun l h3 h4 => ?_ | obtain ⟨l, h3, h4⟩ := Option.map_eq_some_iff.mp h1
        exact ⟨l, h3, by rw [← h2, ← h4], rfl⟩
    first | refine e3_1 hl0 fun l hl e_71 ht => ?_ | refine e2_2 hl0 fun l hl e_71 ht => ?_ | refine e1_3 hl0 fun l hl e_71 ht => ?_ | refine e0_4 hl0 fun l hl e_71 ht => ?_ | obtain ⟨l, hl, e_71, ht⟩ := hl0
    obtain rfl := e_71
    first | refine e3_2 (R.list hi hl) fun vs n e rs z => ?_ | refine e2_3 (R.list hi hl) fun vs n e rs z => ?_ | refine e1_4 (R.list hi hl) fun vs n e rs z => ?_ | obtain ⟨vs, n, e, rs, z⟩ := R.list hi hl
    cases t with
    | int => exact IsiPair.list_int e rfl (PostV.now R rep_b q)
    | bool => exact IsiPair.list_bool e rfl (PostV.now R rep_b q)
    | str => exact IsiPair.list_str e rfl (PostV.now R rep_b q)
    | tuple => exact IsiPair.list_tuple e rfl (PostV.now R rep_b q)
    | _ => exact Bool.noConfusion ht
  | _ => cases t <;> exact no_some h

theorem boolV_some {v : V} {b : Bool} (h : boolV v = some b) : v = .bool b := by
  cases v with
  | bool _ => exact congrArg V.bool (Option.some.inj h)
  | _ => exact no_some h
theorem allBools_reps {mg : Wd} {h : Heap} : ∀ {l : List V} {bs : List Bool} {vs : List Value}, allBools l = some bs → Reps mg γ h vs l → vs = bs.map Value.bool
  | [], bs, vs, e, r => by obtain rfl := Option.some.inj e; exact r
  | u :: l, bs, vs, e, r => by
    first | refine e2_1 (Option.bind_eq_some_iff.mp (show (boolV u).bind _ = some bs from e)) fun b hb e => ?_ | refine e1_2 (Option.bind_eq_some_iff.mp (show (boolV u).bind _ = some bs from e)) fun b hb e => ?_ | refine e0_3 (Option.bind_eq_some_iff.mp (show (boolV u).bind _ = some bs from e)) fun b hb e => ?_ | obtain ⟨b, hb, e⟩ := Option.bind_eq_some_iff.mp (show (boolV u).bind _ = some bs from e)
    first | refine e2_1 (Option.map_eq_some_iff.mp e) fun cs hc e_72 => ?_ | refine e1_2 (Option.map_eq_some_iff.mp e) fun cs hc e_72 => ?_ | refine e0_3 (Option.map_eq_some_iff.mp e) fun cs hc e_72 => ?_ | obtain ⟨cs, hc, e_72⟩ := Option.map_eq_some_iff.mp e
    obtain rfl := e_72
    first | refine e3_2 r fun v w e_73 a b' => ?_ | refine e2_3 r fun v w e_73 a b' => ?_ | refine e1_4 r fun v w e_73 a b' => ?_ | obtain ⟨v, w, e_73, a, b'⟩ := r
    obtain rfl := e_73
    rw [boolV_some hb] at a
    obtain rfl := a
    rw [allBools_reps hc b']; rfl

theorem all_ok {i : Nat} {v : Value} {l : List V} {bs : List Bool} {Q : V → Hp → Prop} (hA : AOk D k A) (R : HRel D γ H s.heap) (r : Rep D γ s.heap v (.ref i)) (hl : listAt H i = some l) (hb : allBools l = some bs)
    (q : Q (.bool (bs.all id)) H) : wpAny D.M A (call (.builtin "all") [v]) (PostV D γ s Q) E s := by
  first | refine e2_1 r fun a hi e_74 => ?_ | refine e1_2 r fun a hi e_74 => ?_ | refine e0_3 r fun a hi e_74 => ?_ | obtain ⟨a, hi, e_74⟩ := r
  obtain rfl := e_74
  first | refine e3_2 (R.list hi hl) fun vs n e rs z => ?_ | refine e2_3 (R.list hi hl) fun vs n e rs z => ?_ | refine e1_4 (R.list hi hl) fun vs n e rs z => ?_ | obtain ⟨vs, n, e, rs, z⟩ := R.list hi hl
  have hvs := allBools_reps hb rs
  subst hvs
  have hL : s.heap.IsList a (bs.map Value.bool).toArray := ⟨_, e, rfl, n, rfl⟩
  refine call_all_walk (wpAny_pyIter_list hL ?_)
  have ha : a ≠ s.heap.objs.size := Nat.ne_of_lt (Heap.lt_size e)
  refine ⟨_, _, _, _, _, _, fun j => bs.getD j true, rfl, Walks.list (by exact hA.handled) s.heap.objs.size a ha (bs.map Value.bool).toArray, ?_, ?_, ?_⟩
  · refine ⟨⟨_, Heap.get?_push_size _ rfl, rfl, rfl⟩, ⟨_, Heap.get?_push_of_some _ e, rfl, n, rfl⟩⟩
  · intro j v s' Q' E' hv hq
    have : v = .bool (bs.getD j true) := by
      rw [List.getElem?_toArray, List.getElem?_map, Option.map_eq_some_iff] at hv
      first | refine e2_1 hv fun b hb1 e_75 => ?_ | refine e1_2 hv fun b hb1 e_75 => ?_ | refine e0_3 hv fun b hb1 e_75 => ?_ | obtain ⟨b, hb1, e_75⟩ := hv
      obtain rfl := e_75
      simp [List.getD, hb1]
    subst this
    exact wpAny_truthy_bool hq
  · intro h' tk hk
    have e1 : (List.range (bs.map Value.bool).toArray.size).all (fun j => bs.getD j true) = bs.all id := by
      simp only [List.size_toArray, List.length_map]
      rw [Bool.eq_iff_iff]
      simp only [List.all_eq_true, List.mem_range, id]
      constructor
      · intro hx b hb'
        first | refine e2_1 (List.getElem_of_mem hb') fun j hj e_76 => ?_ | refine e1_2 (List.getElem_of_mem hb') fun j hj e_76 => ?_ | refine e0_3 (List.getElem_of_mem hb') fun j hj e_76 => ?_ | obtain ⟨j, hj, e_76⟩ := List.getElem_of_mem hb'
        obtain rfl := e_76
        have := hx j hj
        simpa [List.getD, hj] using this
      · intro hx j hj
        have := hx bs[j] (List.getElem_mem hj)
        simpa [List.getD, hj] using this
    have hkk : ∀ b o, s.heap.get? b = some o → h'.get? b = some o := fun b o eb => hk b o (by
      intro hm; simp at hm; subst hm; exact absurd (Heap.lt_size eb) (Nat.lt_irrefl _)) (Heap.get?_push_of_some _ eb)
    rw [e1]
    exact PostV.grown R hkk rep_b q

theorem int_of_bool_ok {v : Value} {b : Bool} {Q : V → Hp → Prop} (R : HRel D γ H s.heap) (r : Rep D γ s.heap v (.bool b)) (q : Q (.int (if b then 1 else 0)) H) :
    wpAny D.M A (call (.type "int") [v]) (PostV D γ s Q) E s := by
  obtain rfl := r
  exact call_int_bool (PostV.now R rep_i q)

theorem tuple_of_list_ok {v : Value} {i : Nat} {l : List V} {Q : V → Hp → Prop} (R : HRel D γ H s.heap) (r : Rep D γ s.heap v (.ref i)) (hl : listAt H i = some l) (q : Q (.tup l) H) :
    wpAny D.M A (call (.type "tuple") [v]) (PostV D γ s Q) E s := by
  first | refine e2_1 r fun a hi e_77 => ?_ | refine e1_2 r fun a hi e_77 => ?_ | refine e0_3 r fun a hi e_77 => ?_ | obtain ⟨a, hi, e_77⟩ := r
  obtain rfl := e_77
  first | refine e3_2 (R.list hi hl) fun vs n e rs z => ?_ | refine e2_3 (R.list hi hl) fun vs n e rs z => ?_ | refine e1_4 (R.list hi hl) fun vs n e rs z => ?_ | obtain ⟨vs, n, e, rs, z⟩ := R.list hi hl
  refine call_tuple_list (items := vs.toArray) ⟨_, e, rfl, n, rfl⟩ (fun h' hk => ?_) (by simp [sizeLine_eq]; omega)
  have hk' : ∀ b o, s.heap.get? b = some o → (h'.push { cls := .type "tuple", data := .seq vs.toArray }).get? b = some o := fun b o eb => Heap.get?_push_of_some _ (hk b o eb)
  refine PostV.grown (V := .tup l) (tk := s.toks) R hk' ?_ q
  exact Exists.intro _ ⟨vs, rfl, ⟨0, Heap.get?_push_size _ rfl, z⟩, Reps.mono ⟨[], by simp⟩ (fun _ _ => tupAt_grow hk') rs⟩

theorem list_of_ok {v : Value} {l : List V} {Q : V → Hp → Prop} (R : HRel D γ H s.heap) (r : Rep D γ s.heap v (.tup l)) (q : Q (.ref H.length) (H ++ [.list l])) :
    wpAny D.M A (call (.type "list") [v]) (PostV D γ s Q) E s := by
  first | refine e3_2 r fun a vs e_78 e_79 rs => ?_ | refine e2_3 r fun a vs e_78 e_79 rs => ?_ | refine e1_4 r fun a vs e_78 e_79 rs => ?_ | obtain ⟨a, vs, e_78, e_79, rs⟩ := r
  obtain rfl := e_78
  obtain ⟨n, e, z⟩ := e_79
  refine call_list_seq a (T := "tuple") (items := vs.toArray) (.inr rfl) e rfl rfl (fun h' c' hk hn => ?_) (by rw [sizeLine_eq]; show vs.length ≤ _; omega)
  exact PostV.addList (tk := s.toks) R rs (by rw [← rs.length]; exact z) hk (none_end _) hn q

/- every call of what is no def of the text's own -/
mutual
theorem toPyT_reads {v : Value} (R : HRel D γ H s.heap) : ∀ {V : V} {d : PyData}, Rep D γ s.heap v V → toPyT H V = some d → ∃ as, Reads s.heap v d as ∧ d.canLay0 = true
  | .none, d, r, e => toPy_reads r e
  | .bool b, d, r, e => toPy_reads r e
  | .int i, d, r, e => toPy_reads r e
  | .str x, d, r, e => toPy_reads r e
  | .ref i, d, r, e => toPyH_reads R r e
  | .tup l, d, r, e => by
    first | refine e3_2 r fun a vs e_80 e_81 rs => ?_ | refine e2_3 r fun a vs e_80 e_81 rs => ?_ | refine e1_4 r fun a vs e_80 e_81 rs => ?_ | obtain ⟨a, vs, e_80, e_81, rs⟩ := r
    obtain rfl := e_80
    obtain ⟨n, q, z⟩ := e_81
    first | refine e2_1 (Option.map_eq_some_iff.mp (show (toPysT H l).map _ = some d from e)) fun ds hd e_82 => ?_ | refine e1_2 (Option.map_eq_some_iff.mp (show (toPysT H l).map _ = some d from e)) fun ds hd e_82 => ?_ | refine e0_3 (Option.map_eq_some_iff.mp (show (toPysT H l).map _ = some d from e)) fun ds hd e_82 => ?_ | obtain ⟨ds, hd, e_82⟩ := Option.map_eq_some_iff.mp (show (toPysT H l).map _ = some d from e)
    obtain rfl := e_82
    first | refine e2_1 (toPysT_reads R rs hd) fun as ra c => ?_ | refine e1_2 (toPysT_reads R rs hd) fun as ra c => ?_ | refine e0_3 (toPysT_reads R rs hd) fun as ra c => ?_ | obtain ⟨as, ra, c⟩ := toPysT_reads R rs hd
    exact ⟨as, .tuple q rfl rfl ra, c⟩
  | .opq i, d, r, e => no_some e
  | .fn i, d, r, e => no_some e
  | .ty i, d, r, e => no_some e
  | .bi i, d, r, e => no_some e
  | .scr i, d, r, e => no_some e
  | .cls _ _, d, r, e => no_some e
theorem toPysT_reads {vs : List Value} (R : HRel D γ H s.heap) : ∀ {l : List V} {ds : List PyData}, Reps D γ s.heap vs l → toPysT H l = some ds → ∃ as, ReadsAll s.heap vs ds as ∧ PyData.canLayAll0 ds = true
  | [], ds, r, e => by obtain rfl := r; obtain rfl := Option.some.inj e; exact ⟨_, .nil, rfl⟩
  | V :: l, ds, r, e => by
    first | refine e3_2 r fun v r' e_83 a b => ?_ | refine e2_3 r fun v r' e_83 a b => ?_ | refine e1_4 r fun v r' e_83 a b => ?_ | obtain ⟨v, r', e_83, a, b⟩ := r
    obtain rfl := e_83
    first | refine e2_1 (Option.bind_eq_some_iff.mp (show (toPyT H V).bind _ = some ds from e)) fun d h1 e => ?_ | refine e1_2 (Option.bind_eq_some_iff.mp (show (toPyT H V).bind _ = some ds from e)) fun d h1 e => ?_ | refine e0_3 (Option.bind_eq_some_iff.mp (show (toPyT H V).bind _ = some ds from e)) fun d h1 e => ?_ | obtain ⟨d, h1, e⟩ := Option.bind_eq_some_iff.mp (show (toPyT H V).bind _ = some ds from e)
    first | refine e2_1 (Option.map_eq_some_iff.mp e) fun ds' h2 e_84 => ?_ | refine e1_2 (Option.map_eq_some_iff.mp e) fun ds' h2 e_84 => ?_ | refine e0_3 (Option.map_eq_some_iff.mp e) fun ds' h2 e_84 => ?_ | obtain ⟨ds', h2, e_84⟩ := Option.map_eq_some_iff.mp e
    obtain rfl := e_84
    first | refine e2_1 (toPyT_reads R a h1) fun as q1 c1 => ?_ | refine e1_2 (toPyT_reads R a h1) fun as q1 c1 => ?_ | refine e0_3 (toPyT_reads R a h1) fun as q1 c1 => ?_ | obtain ⟨as, q1, c1⟩ := toPyT_reads R a h1
    first | refine e2_1 (toPysT_reads R b h2) fun bs q2 c2 => ?_ | refine e1_2 (toPysT_reads R b h2) fun bs q2 c2 => ?_ | refine e0_3 (toPysT_reads R b h2) fun bs q2 c2 => ?_ | obtain ⟨bs, q2, c2⟩ := toPysT_reads R b h2
    exact ⟨_, .cons q1 q2, by show (d.canLay0 && PyData.canLayAll0 ds') = true; rw [c1, c2]; rfl⟩
end
theorem repr_ok {v : Value} {W : V} {d : PyData} {Q : V → Hp → Prop} (hA : AOk D k A) (R : HRel D γ H s.heap) (r : Rep D γ s.heap v W) (hd : toPyT H W = some d) (h1 : d.showable = true) (h2 : d.depth ≤ 60) (h3 : d.shown.length ≤ 1000000) (q : Q (.opq d.shown) H) :
    wpAny D.M A (call (.builtin "repr") [v]) (PostV D γ s Q) E s := by
  have ho : ∀ (h : Heap) (x : Str) (t : Tok), Rep D γ h (.str x t) (.opq x) := fun _ x t => Exists.intro t rfl
  have big : ∀ a, v = .ref a → wpAny D.M A (call (.builtin "repr") [v]) (PostV D γ s Q) E s := by
    rintro a rfl
    first | refine e2_1 (toPyT_reads R r hd) fun as rd c => ?_ | refine e1_2 (toPyT_reads R r hd) fun as rd c => ?_ | refine e0_3 (toPyT_reads R r hd) fun as rd c => ?_ | obtain ⟨as, rd, c⟩ := toPyT_reads R r hd
    refine repr_of_reads' rd h1 (fun h => by rw [PyData.hasDict_of_canLay d c] at h; cases h) hA.guards (by have := hA.units; show _ < 9900; omega) (fun _ _ e => e) (fun h' u tk hk => ?_) (by rw [sizeLine_eq]; omega)
    exact PostV.grown R hk (ho _ _ u) q
  cases W with
  | none => obtain rfl := r; obtain rfl := Option.some.inj hd; exact P.repr_of_none (PostV.now R (ho _ _ _) q)
  | bool b => obtain rfl := r; obtain rfl := Option.some.inj hd; exact P.repr_of_bool (PostV.now R (ho _ _ _) q)
  | int i => obtain ⟨t, rfl⟩ := r; obtain rfl := Option.some.inj hd; exact P.repr_of_int (of_decide_eq_true h1) (PostV.now R (ho _ _ _) q)
  | str x => obtain ⟨t, rfl, f⟩ := r; obtain rfl := Option.some.inj hd; exact P.repr_of_str (PostV.now R (ho _ _ _) q) (by rw [sizeLine_eq]; show (PyData.shown (.str x)).length ≤ _; omega)
  | tup l => obtain ⟨a, vs, rfl, _⟩ := r; exact big a rfl
  | ref i => obtain ⟨a, _, rfl⟩ := r; exact big a rfl
  | _ => exact no_some hd
theorem len_any {v : Value} {W : V} {Q : V → Hp → Prop} (R : HRel D γ H s.heap) (a : Rep D γ s.heap v W) (h : pLen W H Q) : wpAny D.M A (call (.builtin "len") [v]) (PostV D γ s Q) E s := by
  cases W with
  | tup l => exact len_ok R a (.inl ⟨_, rfl, rfl⟩) h
  | ref i =>
    first | refine e2_1 (oK_elim h) fun l hl q => ?_ | refine e1_2 (oK_elim h) fun l hl q => ?_ | refine e0_3 (oK_elim h) fun l hl q => ?_ | obtain ⟨l, hl, q⟩ := oK_elim h
    exact len_ok R a (.inr ⟨_, l, rfl, hl, rfl⟩) q
  | scr ns =>
    first | refine e3_4 a fun x ws e_85 e hz hlen hI => ?_ | obtain ⟨x, ws, e_85, e, hz, hlen, hI⟩ := a
    obtain rfl := e_85
    refine len_list (items := ws.toArray) (let ⟨o, h1, h2, n, h3⟩ := e; ⟨o, R.base _ _ h1, h2, n, h3⟩) (by show (ws.length : Int) < _; omega) (PostV.now R ?_ h)
    exact Exists.intro (s.toks + 1) (by simp [hlen])
  | str x => obtain ⟨t, rfl, f⟩ := a; exact lenStr_ok R f h
  | _ => exact h.elim
theorem ty_ok {b : Ty} {v : Value} {W : V} {Q : V → Hp → Prop} (R : HRel D γ H s.heap) (a : Rep D γ s.heap v W) (h : pTy1 b W H Q) : wpAny D.M A (call (.type b.name) [v]) (PostV D γ s Q) E s := by
  cases b with
  | int =>
    cases W with
    | bool b => exact int_of_bool_ok R a h
    | str x =>
      first | refine e2_1 a fun t e_86 f => ?_ | refine e1_2 a fun t e_86 f => ?_ | refine e0_3 a fun t e_86 f => ?_ | obtain ⟨t, e_86, f⟩ := a
      obtain rfl := e_86
      first | refine e3_1 (oK_elim (show oK (intText? x) _ from h)) fun n hn hl q => ?_ | refine e2_2 (oK_elim (show oK (intText? x) _ from h)) fun n hn hl q => ?_ | refine e1_3 (oK_elim (show oK (intText? x) _ from h)) fun n hn hl q => ?_ | refine e0_4 (oK_elim (show oK (intText? x) _ from h)) fun n hn hl q => ?_ | obtain ⟨n, hn, hl, q⟩ := oK_elim (show oK (intText? x) _ from h)
      exact intStr_ok R hn hl q
    | _ => exact h.elim
  | str =>
    cases W with
    | int i => obtain ⟨t, rfl⟩ := a; exact strInt_ok R h.1 h.2
    | str x => obtain ⟨t, rfl, f⟩ := a; exact strStr_ok R f h
    | _ => exact h.elim
  | tuple =>
    first | refine e2_1 (oK_elim (show oK (refV W) _ from h)) fun i hi h => ?_ | refine e1_2 (oK_elim (show oK (refV W) _ from h)) fun i hi h => ?_ | refine e0_3 (oK_elim (show oK (refV W) _ from h)) fun i hi h => ?_ | obtain ⟨i, hi, h⟩ := oK_elim (show oK (refV W) _ from h)
    rw [refV_some hi] at a
    first | refine e2_1 (oK_elim h) fun l hl q => ?_ | refine e1_2 (oK_elim h) fun l hl q => ?_ | refine e0_3 (oK_elim h) fun l hl q => ?_ | obtain ⟨l, hl, q⟩ := oK_elim h
    exact tuple_of_list_ok R a hl q
  | list =>
    first | refine e2_1 (oK_elim (show oK (tupV W) _ from h)) fun l hi q => ?_ | refine e1_2 (oK_elim (show oK (tupV W) _ from h)) fun l hi q => ?_ | refine e0_3 (oK_elim (show oK (tupV W) _ from h)) fun l hi q => ?_ | obtain ⟨l, hi, q⟩ := oK_elim (show oK (tupV W) _ from h)
    rw [tupV_some hi] at a
    exact list_of_ok R a q
  | _ => exact h.elim
theorem call_ok {Φ : Orc} {f : Value} {vals : List Value} {vs : List V} {Q : V → Hp → Prop} {X : XL} {W : V} (hA : AOk D k A) (R : HRel D γ H s.heap) (rf : Rep D γ s.heap f W) (rv : Reps D γ s.heap vals vs)
    (h : pCall Φ W vs H Q X) (hn : ∀ x, W ≠ .fn x) : wpAny D.M A (call f vals) (PostV D γ s Q) (PostX D γ s X) s := by
  cases W with
  | fn x => exact absurd rfl (hn _)
  | bi b =>
    obtain rfl := rf
    cases b with
    | len =>
      first | refine e2_1 (on1P_elim (show on1P vs _ from h)) fun W e_87 h => ?_ | refine e1_2 (on1P_elim (show on1P vs _ from h)) fun W e_87 h => ?_ | refine e0_3 (on1P_elim (show on1P vs _ from h)) fun W e_87 h => ?_ | obtain ⟨W, e_87, h⟩ := on1P_elim (show on1P vs _ from h)
      obtain rfl := e_87
      first | refine e3_2 rv fun v r e_88 a e_89 => ?_ | refine e2_3 rv fun v r e_88 a e_89 => ?_ | refine e1_4 rv fun v r e_88 a e_89 => ?_ | obtain ⟨v, r, e_88, a, e_89⟩ := rv
      obtain rfl := e_88
      obtain rfl := e_89
      exact len_any R a h
    | isinstance =>
      first | refine e3_1 (on2P_elim (show on2P vs _ from h)) fun W W' e_90 h => ?_ | refine e2_2 (on2P_elim (show on2P vs _ from h)) fun W W' e_90 h => ?_ | refine e1_3 (on2P_elim (show on2P vs _ from h)) fun W W' e_90 h => ?_ | refine e0_4 (on2P_elim (show on2P vs _ from h)) fun W W' e_90 h => ?_ | obtain ⟨W, W', e_90, h⟩ := on2P_elim (show on2P vs _ from h)
      obtain rfl := e_90
      first | refine e4_5 rv fun v r e_91 a u r' e_92 b e_93 => ?_ | obtain ⟨v, r, e_91, a, u, r', e_92, b, e_93⟩ := rv
      obtain rfl := e_91
      obtain rfl := e_92
      obtain rfl := e_93
      first | refine e2_1 (oK_elim h) fun t ht h => ?_ | refine e1_2 (oK_elim h) fun t ht h => ?_ | refine e0_3 (oK_elim h) fun t ht h => ?_ | obtain ⟨t, ht, h⟩ := oK_elim h
      rw [tyV_some ht] at b
      obtain rfl := b
      first | refine e2_1 (oK_elim h) fun c hc q => ?_ | refine e1_2 (oK_elim h) fun c hc q => ?_ | refine e0_3 (oK_elim h) fun c hc q => ?_ | obtain ⟨c, hc, q⟩ := oK_elim h
      exact isi_ok R a hc q
    | all =>
      first | refine e2_1 (on1P_elim (show on1P vs _ from h)) fun W e_94 h => ?_ | refine e1_2 (on1P_elim (show on1P vs _ from h)) fun W e_94 h => ?_ | refine e0_3 (on1P_elim (show on1P vs _ from h)) fun W e_94 h => ?_ | obtain ⟨W, e_94, h⟩ := on1P_elim (show on1P vs _ from h)
      obtain rfl := e_94
      first | refine e3_2 rv fun v r e_95 a e_96 => ?_ | refine e2_3 rv fun v r e_95 a e_96 => ?_ | refine e1_4 rv fun v r e_95 a e_96 => ?_ | obtain ⟨v, r, e_95, a, e_96⟩ := rv
      obtain rfl := e_95
      obtain rfl := e_96
      first | refine e2_1 (oK_elim h) fun i hi h => ?_ | refine e1_2 (oK_elim h) fun i hi h => ?_ | refine e0_3 (oK_elim h) fun i hi h => ?_ | obtain ⟨i, hi, h⟩ := oK_elim h
      rw [refV_some hi] at a
      first | refine e2_1 (oK_elim h) fun l hl h => ?_ | refine e1_2 (oK_elim h) fun l hl h => ?_ | refine e0_3 (oK_elim h) fun l hl h => ?_ | obtain ⟨l, hl, h⟩ := oK_elim h
      first | refine e2_1 (oK_elim h) fun bs hb q => ?_ | refine e1_2 (oK_elim h) fun bs hb q => ?_ | refine e0_3 (oK_elim h) fun bs hb q => ?_ | obtain ⟨bs, hb, q⟩ := oK_elim h
      exact all_ok hA R a hl hb q
    | repr =>
      first | refine e2_1 (on1P_elim (show on1P vs _ from h)) fun W e_97 h => ?_ | refine e1_2 (on1P_elim (show on1P vs _ from h)) fun W e_97 h => ?_ | refine e0_3 (on1P_elim (show on1P vs _ from h)) fun W e_97 h => ?_ | obtain ⟨W, e_97, h⟩ := on1P_elim (show on1P vs _ from h)
      obtain rfl := e_97
      first | refine e3_2 rv fun v r e_98 a e_99 => ?_ | refine e2_3 rv fun v r e_98 a e_99 => ?_ | refine e1_4 rv fun v r e_98 a e_99 => ?_ | obtain ⟨v, r, e_98, a, e_99⟩ := rv
      obtain rfl := e_98
      obtain rfl := e_99
      first | refine e3_1 (oK_elim h) fun d hd h1 q => ?_ | refine e2_2 (oK_elim h) fun d hd h1 q => ?_ | refine e1_3 (oK_elim h) fun d hd h1 q => ?_ | refine e0_4 (oK_elim h) fun d hd h1 q => ?_ | obtain ⟨d, hd, h1, q⟩ := oK_elim h
      exact repr_ok hA R a hd h1.1 h1.2.1 h1.2.2 q
  | ty b =>
    obtain rfl := rf
    first | refine e2_1 (on1P_elim (show on1P vs _ from h)) fun W e_100 h => ?_ | refine e1_2 (on1P_elim (show on1P vs _ from h)) fun W e_100 h => ?_ | refine e0_3 (on1P_elim (show on1P vs _ from h)) fun W e_100 h => ?_ | obtain ⟨W, e_100, h⟩ := on1P_elim (show on1P vs _ from h)
    obtain rfl := e_100
    first | refine e3_2 rv fun v r e_101 a e_102 => ?_ | refine e2_3 rv fun v r e_101 a e_102 => ?_ | refine e1_4 rv fun v r e_101 a e_102 => ?_ | obtain ⟨v, r, e_101, a, e_102⟩ := rv
    obtain rfl := e_101
    obtain rfl := e_102
    exact ty_ok R a h
  | _ => exact h.elim

theorem append_ok {i : Nat} {o v : Value} {l : List V} {Q : V → Hp → Prop} {W : V} (R : HRel D γ H s.heap) (ro : Rep D γ s.heap o (.ref i)) (r : Rep D γ s.heap v W) (hl : listAt H i = some l) (hz : l.length ≤ 1000000)
    (q : Q .none (H.set i (.list (l ++ [W])))) : wpAny D.M A (call (.builtin "list.append") [o, v]) (PostV D γ s Q) E s := by
  first | refine e2_1 ro fun a hi e_103 => ?_ | refine e1_2 ro fun a hi e_103 => ?_ | refine e0_3 ro fun a hi e_103 => ?_ | obtain ⟨a, hi, e_103⟩ := ro
  obtain rfl := e_103
  first | refine e3_2 (R.list hi hl) fun vs n e rs z => ?_ | refine e2_3 (R.list hi hl) fun vs n e rs z => ?_ | refine e1_4 (R.list hi hl) fun vs n e rs z => ?_ | obtain ⟨vs, n, e, rs, z⟩ := R.list hi hl
  have hlen := rs.length
  refine wpAny_list_append_plain (items := vs.toArray) ⟨n, e⟩ (fun h' hp hs => ?_) (by simp [sizeLine_eq]; omega)
  obtain ⟨m, hm⟩ := hp
  have em : vs.toArray.push v = (vs ++ [v]).toArray := by simp
  rw [em] at hm
  exact PostV.setList (tk := s.toks) R hi (rs.append (Reps.one r)) (by simp; omega) (fun b o' hb e' => hs.extBut b o' hb e') hm (show Rep _ _ _ _ .none from rfl) q
end
end Mine

set_option autoImplicit false
/- The expressions' trees. -/
namespace Mine
open PySem PyProof.Rows

section
variable {D : Wd} {Φ : Orc} {k : Nat}

theorem mapO_cons {α β : Type} {f : α → Option β} {a : α} {r : List α} {l : List β} (h : mapO f (a :: r) = some l) : ∃ b bs, l = b :: bs ∧ f a = some b ∧ mapO f r = some bs := by
  first | refine e2_1 (Option.bind_eq_some_iff.mp (show (f a).bind _ = some l from h)) fun b h1 h => ?_ | refine e1_2 (Option.bind_eq_some_iff.mp (show (f a).bind _ = some l from h)) fun b h1 h => ?_ | refine e0_3 (Option.bind_eq_some_iff.mp (show (f a).bind _ = some l from h)) fun b h1 h => ?_ | obtain ⟨b, h1, h⟩ := Option.bind_eq_some_iff.mp (show (f a).bind _ = some l from h)
  first | refine e2_1 (Option.map_eq_some_iff.mp h) fun bs h2 h => ?_ | refine e1_2 (Option.map_eq_some_iff.mp h) fun bs h2 h => ?_ | refine e0_3 (Option.map_eq_some_iff.mp h) fun bs h2 h => ?_ | obtain ⟨bs, h2, h⟩ := Option.map_eq_some_iff.mp h
  exact ⟨b, bs, h.symm, h1, h2⟩
theorem mapO_nil {α β : Type} {f : α → Option β} {l : List β} (h : mapO f ([] : List α) = some l) : l = [] := (Option.some.inj h).symm

theorem starEach_of {env : Env} {pos : Pos} : ∀ {args : List Expr}, args.any isStar = false → backTo pos (starEach args env) = args.map fun e => (false, eval e env)
  | [], _ => rfl
  | e :: r, h => by
    rw [List.any_cons, Bool.or_eq_false_iff] at h
    have ih := starEach_of (env := env) (pos := pos) h.2
    have e1 : starEach (e :: r) env = (false, eval e env) :: starEach r env := by
      cases e <;> first | rfl | exact Bool.noConfusion h.1
    rw [e1]
    show ((false, eval e env) :: backTo pos (starEach r env)) = _
    rw [ih]; rfl

theorem spliced_ok {c : CC} {n : Nat} (ih : ∀ e ie, compE n c e = some ie → SE D Φ k c e ie) {env : Env} {A : Around} {X : XL} (he : EnvOk c env) (hA : AOk D k A) {L : Lc} : ∀ (args : List Expr) (ies : List IE) (γ : List Addr) (H : Hp) (s : Shared) (Q : List V → Hp → Prop),
    mapO (compE n c) args = some ies → HRel D γ H s.heap → LRel D γ env c.slots s.heap L → wpEs Φ ies L H Q X →
    wpAny D.M A (spliced (args.map fun e => (false, eval e env))) (PostL D γ s Q) (PostX D γ s X) s
  | [], ies, γ, H, s, Q, hm, R, _, h => by
    rw [mapO_nil hm] at h
    exact Calls.spliced_nil ⟨γ, [], H, Stp.refl, R, (show Reps _ _ _ [] [] from rfl), h⟩
  | e :: r, ies, γ, H, s, Q, hm, R, l, h => by
    first | refine e3_2 (mapO_cons hm) fun b bs e_104 h1 h2 => ?_ | refine e2_3 (mapO_cons hm) fun b bs e_104 h1 h2 => ?_ | refine e1_4 (mapO_cons hm) fun b bs e_104 h1 h2 => ?_ | obtain ⟨b, bs, e_104, h1, h2⟩ := mapO_cons hm
    obtain rfl := e_104
    refine Calls.spliced_cons (andThen (ih e b h1 env A γ H s L _ X he hA R l h) ?_)
    intro v s1 γ1 V H1 st R1 rv q
    refine wpAny_mono (spliced_ok ih he hA r bs γ1 H1 s1 _ h2 R1 (l.stp R st) q) (fun vs s2 p => ?_) (fun _ _ x => x.back st R1)
    first | refine e3_4 p fun γ2 Vs H2 st2 R2 rvs q2 => ?_ | obtain ⟨γ2, Vs, H2, st2, R2, rvs, q2⟩ := p
    exact ⟨γ2, V :: Vs, H2, st.trans0 R1 st2, R2, Exists.intro v ⟨vs, rfl, rv.stp0 R1 st2, rvs⟩, q2⟩

theorem evalArgs_ok {c : CC} {n : Nat} (ih : ∀ e ie, compE n c e = some ie → SE D Φ k c e ie) {env : Env} {A : Around} {X : XL} (he : EnvOk c env) (hA : AOk D k A) {L : Lc} {args : List Expr} {ies : List IE} {γ : List Addr} {H : Hp} {s : Shared} {Q : List V → Hp → Prop} {f : Value}
    (hm : mapO (compE n c) args = some ies) (R : HRel D γ H s.heap) (l : LRel D γ env c.slots s.heap L) (h : wpEs Φ ies L H Q X) :
    wpAny D.M A (evalArgs f true (args.map fun e => (false, eval e env)) []) (fun a s' => a.kw = [] ∧ PostL D γ s Q a.pos s') (PostX D γ s X) s := by
  have hs := spliced_ok ih he hA args ies γ H s Q hm R l h
  cases args with
  | nil =>
    rw [mapO_nil hm] at h
    exact evalArgs_nil3 ⟨rfl, γ, [], H, Stp.refl, R, (show Reps _ _ _ [] [] from rfl), h⟩
  | cons e r => exact Calls.evalArgs_plain (wpAny_mono hs (fun vs s' p => ⟨rfl, p⟩) fun _ _ x => x)

theorem name_ok {c : CC} {env : Env} {A : Around} {γ : List Addr} {H : Hp} {s : Shared} {L : Lc} {Q : V → Hp → Prop} {X : XL} {x : Str} {pos : Pos} {ie : IE} (g : GOk D c.G) (he : EnvOk c env) (R : HRel D γ H s.heap) (l : LRel D γ env c.slots s.heap L)
    (hc : nameV c x = some ie) (h : (wp2 Φ ie).E L H Q X) : wpAny D.M A (eval (.Name x pos) env) (PostV D γ s Q) (PostX D γ s X) s := by
  first | refine e2_1 (Option.bind_eq_some_iff.mp hc) fun kk hk hc => ?_ | refine e1_2 (Option.bind_eq_some_iff.mp hc) fun kk hk hc => ?_ | refine e0_3 (Option.bind_eq_some_iff.mp hc) fun kk hk hc => ?_ | obtain ⟨kk, hk, hc⟩ := Option.bind_eq_some_iff.mp hc
  obtain ⟨hd, hk⟩ := onlyIf_some hk
  have hd' : (x == ("__debug__" : Str)) = false := bnot hd
  have hkf : env.scope.kind = .function := by rw [he.scope]; exact he.kind
  have hk' : env.kindOf x = some kk := by unfold Env.kindOf; rw [he.scope]; exact hk
  cases kk with
  | globalImplicit =>
    first | refine e2_1 (Option.map_eq_some_iff.mp hc) fun V hV e_105 => ?_ | refine e1_2 (Option.map_eq_some_iff.mp hc) fun V hV e_105 => ?_ | refine e0_3 (Option.map_eq_some_iff.mp hc) fun V hV e_105 => ?_ | obtain ⟨V, hV, e_105⟩ := Option.map_eq_some_iff.mp hc
    obtain rfl := e_105
    first | refine e2_1 (g.val x V hV) fun v hv rv => ?_ | refine e1_2 (g.val x V hV) fun v hv rv => ?_ | refine e0_3 (g.val x V hV) fun v hv rv => ?_ | obtain ⟨v, hv, rv⟩ := g.val x V hV
    refine Calls.Name_function_global hkf hk' ?_ hd'
    have rr : Rep D γ s.heap v V := Rep.mono ⟨[], by simp⟩ (fun _ _ => tupAt_grow R.base) (rv γ)
    rcases hv with hv | ⟨hv1, hv2⟩
    · exact Calls.loadGlobal_global (by rw [he.globals]; exact g.gns.keeps R.base) hv (PostV.here R rr h)
    · exact Calls.loadGlobal_builtin (by rw [he.globals]; exact g.gns.keeps R.base) hv1 (by rw [he.builtins]; exact g.bns.keeps R.base) hv2 (PostV.here R rr h)
  | «local» =>
    first | refine e2_1 (Option.map_eq_some_iff.mp hc) fun i hi e_106 => ?_ | refine e1_2 (Option.map_eq_some_iff.mp hc) fun i hi e_106 => ?_ | refine e0_3 (Option.map_eq_some_iff.mp hc) fun i hi e_106 => ?_ | obtain ⟨i, hi, e_106⟩ := Option.map_eq_some_iff.mp hc
    obtain rfl := e_106
    first | refine e2_1 (oKK_elim h) fun V hL q => ?_ | refine e1_2 (oKK_elim h) fun V hL q => ?_ | refine e0_3 (oKK_elim h) fun V hL q => ?_ | obtain ⟨V, hL, q⟩ := oKK_elim h
    first | refine e2_1 (l.ns) fun m hn f => ?_ | refine e1_2 (l.ns) fun m hn f => ?_ | refine e0_3 (l.ns) fun m hn f => ?_ | obtain ⟨m, hn, f⟩ := l.ns
    first | refine e2_1 (f x i V hk' hi hL) fun v hv rv => ?_ | refine e1_2 (f x i V hk' hi hL) fun v hv rv => ?_ | refine e0_3 (f x i V hk' hi hL) fun v hv rv => ?_ | obtain ⟨v, hv, rv⟩ := f x i V hk' hi hL
    exact wpAny_Name (wpAny_loadName_local hkf hk' hn hv (PostV.here R rv q)) hd'
  | cell =>
    first | refine e2_1 (Option.map_eq_some_iff.mp hc) fun i hi e_107 => ?_ | refine e1_2 (Option.map_eq_some_iff.mp hc) fun i hi e_107 => ?_ | refine e0_3 (Option.map_eq_some_iff.mp hc) fun i hi e_107 => ?_ | obtain ⟨i, hi, e_107⟩ := Option.map_eq_some_iff.mp hc
    obtain rfl := e_107
    first | refine e2_1 (oKK_elim h) fun V hL q => ?_ | refine e1_2 (oKK_elim h) fun V hL q => ?_ | refine e0_3 (oKK_elim h) fun V hL q => ?_ | obtain ⟨V, hL, q⟩ := oKK_elim h
    first | refine e3_3 (l.cel x hk') fun ca u hca hcell _ f => ?_ | refine e2_4 (l.cel x hk') fun ca u hca hcell _ f => ?_ | obtain ⟨ca, u, hca, hcell, _, f⟩ := l.cel x hk'
    first | refine e2_1 (f i V hi hL) fun v e_108 rv => ?_ | refine e1_2 (f i V hi hL) fun v e_108 rv => ?_ | refine e0_3 (f i V hi hL) fun v e_108 rv => ?_ | obtain ⟨v, e_108, rv⟩ := f i V hi hL
    obtain rfl := e_108
    exact wpAny_Name (wpAny_loadName_cell hkf hk' hca hcell (PostV.here R rv q)) hd'
  | _ => exact no_some hc
theorem nameV_T {c : CC} {x : Str} {ie : IE} (hc : nameV c x = some ie) : (wp2 Φ ie).T = fun L H Q X => (wp2 Φ ie).E L H (fun v H1 => tX v fun c => Q c H1) X := by
  first | refine e2_1 (Option.bind_eq_some_iff.mp hc) fun kk _ hc => ?_ | refine e1_2 (Option.bind_eq_some_iff.mp hc) fun kk _ hc => ?_ | refine e0_3 (Option.bind_eq_some_iff.mp hc) fun kk _ hc => ?_ | obtain ⟨kk, _, hc⟩ := Option.bind_eq_some_iff.mp hc
  cases kk with
  | globalImplicit => obtain ⟨_, _, rfl⟩ := Option.map_eq_some_iff.mp hc; rfl
  | «local» => obtain ⟨_, _, rfl⟩ := Option.map_eq_some_iff.mp hc; rfl
  | cell => obtain ⟨_, _, rfl⟩ := Option.map_eq_some_iff.mp hc; rfl
  | _ => exact no_some hc

theorem globV_lit {c : CC} {x : Str} {V : V} (h : globV c x = some V) : nameV c x = some (.lit V) := by
  first | refine e2_1 (Option.bind_eq_some_iff.mp h) fun kk hk h => ?_ | refine e1_2 (Option.bind_eq_some_iff.mp h) fun kk hk h => ?_ | refine e0_3 (Option.bind_eq_some_iff.mp h) fun kk hk h => ?_ | obtain ⟨kk, hk, h⟩ := Option.bind_eq_some_iff.mp h
  unfold nameV
  rw [hk]
  cases kk with
  | globalImplicit => exact Option.map_eq_some_iff.mpr ⟨V, h, rfl⟩
  | _ => exact no_some h

theorem const_ok {env : Env} {A : Around} {γ : List Addr} {H : Hp} {s : Shared} {Q : V → Hp → Prop} {X : XL} {kk : Const} {n : Nat} {pos : Pos} {W : V} (R : HRel D γ H s.heap) (hc : constV kk = some W) (q : Q W H) :
    wpAny D.M A (eval (.Constant kk n pos) env) (PostV D γ s Q) (PostX D γ s X) s := by
  cases kk with
  | none => obtain rfl := Option.some.inj hc; exact Constant_none (PostV.here R (show Rep _ _ _ _ .none from rfl) q)
  | bool b => obtain rfl := Option.some.inj hc; exact Constant_bool (PostV.here R rep_b q)
  | int i => obtain rfl := Option.some.inj hc; exact wpAny_Constant_int (PostV.now R rep_i q)
  | str x =>
    have hc : (if x.length ≤ 2000000 ∧ PyData.strOk x = true then some (V.str x) else none) = some W := hc
    by_cases hf : x.length ≤ 2000000 ∧ PyData.strOk x = true
    · rw [if_pos hf] at hc
      obtain rfl := Option.some.inj hc; exact Calls.Constant_str (PostV.now R (rep_s hf) q)
    · rw [if_neg hf] at hc; exact no_some hc
  | _ => exact no_some hc

theorem orc_call {D : Wd} {A : Around} {γ : List Addr} {H : Hp} {s : Shared} {Q : V → Hp → Prop} {X : XL} {pos : Pos} {f : Value} {W : V} {trees : List (Bool × Sem Value)} {QL : List V → Hp → Prop} (hO : OrcOk D k Φ) (hA : AOk D k A)
    (R : HRel D γ H s.heap) (rf : Rep D γ s.heap f W) (hp : trees.any (·.1) = false)
    (ha : wpAny D.M A (evalArgs f true trees []) (fun a s' => a.kw = [] ∧ PostL D γ s QL a.pos s') (PostX D γ s X) s)
    (hq : ∀ vs H1, QL vs H1 → pCall Φ W vs H1 Q X) : wpAny D.M A (callWith pos f [] trees []) (PostV D γ s Q) (PostX D γ s X) s := by
  have nonfn : (∀ x, W ≠ .fn x) → ∀ (a : Args) (s1 : Shared), (a.kw = [] ∧ PostL D γ s QL a.pos s1) → wpAny D.M A (call f ([] ++ a.pos) a.kw) (PostV D γ s Q) (PostX D γ s X) s1 := by
    rintro hn ⟨ps, kw⟩ s1 ⟨hk, γ1, Vs, H1, st, R1, rv, q⟩
    simp only at hk; subst hk
    exact backV st R1 (call_ok hA R1 (rf.stp0 R st) rv (hq _ _ q) hn)
  have noway : (∀ vs H1, pCall Φ W vs H1 Q X → False) → wpAny D.M A (callWith pos f [] trees []) (PostV D γ s Q) (PostX D γ s X) s := fun hn => by
    unfold callWith
    refine wpAny_bind (wpAny_holding (wpAny_mono ha (fun b s1 hb => ?_) fun _ _ x => x))
    obtain ⟨_, γ1, Vs, H1, _, _, _, q⟩ := hb
    exact (hn _ _ (hq _ _ q)).elim
  cases W with
  | fn x =>
    first | refine e2_1 rf fun a e_109 hx => ?_ | refine e1_2 rf fun a e_109 hx => ?_ | refine e0_3 rf fun a e_109 hx => ?_ | obtain ⟨a, e_109, hx⟩ := rf
    obtain rfl := e_109
    have hfun : ∀ (b : Args) (s1 : Shared), (b.kw = [] ∧ PostL D γ s QL b.pos s1) → (∃ o fd, s1.heap.get? a = some o ∧ o.data = .func fd) ∧ wpAny D.M A (call (.ref a) ([] ++ b.pos) b.kw) (PostV D γ s Q) (PostX D γ s X) s1 := by
      rintro ⟨ps, kw⟩ s1 ⟨hk, γ1, Vs, H1, st, R1, rv, q⟩
      simp only at hk; subst hk
      obtain ⟨⟨o, fd, e1, e2⟩, hc⟩ := hO D.fr x Vs H1 Q X (hq _ _ q) A γ1 s1 ps a hA R1 rv hx
      exact ⟨⟨o, fd, R1.base _ _ e1, e2⟩, backV st R1 hc⟩
    unfold callWith
    refine wpAny_bind (wpAny_holding (wpAny_mono ha (fun b s1 hb => wpAny_bind (wpAny_standAt ?_)) fun _ _ x => x))
    obtain ⟨⟨o, fd, e1, e2⟩, hc⟩ := hfun b s1 hb
    have tail : ∀ {t : Sem Value}, wpAny D.M A t (PostV D γ s Q) (PostX D γ s X) s1 → wpAny D.M A (t >>= fun r => holding [r] point >>= fun _ => pure r) (PostV D γ s Q) (PostX D γ s X) s1 :=
      fun ht => wpAny_bind (wpAny_mono ht (fun r s₂ hr => wpAny_bind (wpAny_holding (wpAny_point (wpAny_pure hr)))) fun _ _ x => x)
    simp only [hp, List.any_nil, Bool.or_false]
    refine wpAny_bind (m := keeperOf (.ref a)) ?_
    unfold keeperOf
    refine wpAny_bind (wpAny_load e1 ?_)
    rw [e2]
    refine wpAny_pure ?_
    refine wpAny_ite ?_
    split
    · exact tail hc
    · exact tail (by unfold callMarked; exact Calls.wpAny_keep hc)
  | ty n =>
    obtain rfl := rf
    exact PyProof.Rows.callWith_type hp (wpAny_mono ha (nonfn (by intro x h; cases h)) fun _ _ x => x)
  | bi n =>
    obtain rfl := rf
    exact Calls.callWith_builtin hp (wpAny_mono ha (nonfn (by intro x h; cases h)) fun _ _ x => x)
  | _ => exact noway fun _ _ q => q

theorem noSlice {i : Expr} {n : Nat} {c : CC} {ie : IE} (h : compE n c i = some ie) : ∀ lo hi st p, i ≠ .Slice lo hi st p := by
  rintro lo hi st p rfl
  cases n <;> exact no_some h

theorem noMarks {r : Expr} {n : Nat} {c : CC} {ie : IE} {op : CmpOp} (h : compE n c r = some ie) : behindInMarks op r = false := by
  cases r <;> first | rfl | (cases n <;> exact no_some h)

theorem ifP_true {A B : Prop} (h : ifP true A B) : A := h
theorem ifP_false {A B : Prop} (h : ifP false A B) : B := h

/- the truth of a tree by its value -/
theorem st_plain {P : Around → Prop} {c : CC} {e : Expr} {ie : IE} (h : SEP P D Φ c e ie) (hT : (wp2 Φ ie).T = fun L H Q X => (wp2 Φ ie).E L H (fun v H1 => tX v fun c => Q c H1) X)
    (he : ∀ env whole, isTrue e env whole = (do let v ← whole; standAt e.pos; holding [v] (truthy v))) : STP P D Φ c e ie := by
  intro env A γ H s L Q X hE hA R l w
  rw [hT] at w
  refine isTrue_plain (andThen (h env A γ H s L _ X hE hA R l w) ?_) (he _ _)
  intro v s1 γ1 V H1 st R1 rv q
  first | refine e2_1 (tX_elim q) fun b e_110 q => ?_ | refine e1_2 (tX_elim q) fun b e_110 q => ?_ | refine e0_3 (tX_elim q) fun b e_110 q => ?_ | obtain ⟨b, e_110, q⟩ := tX_elim q
  obtain rfl := e_110
  exact backB st R1 (truth_ok R1 rv q)
end
end Mine

set_option autoImplicit false
/- The expressions, one tree at a time. -/
namespace Mine
open PySem PyProof.Rows

noncomputable def BothP (P : Around → Prop) (D : Wd) (Φ : Orc) (c : CC) (e : Expr) (ie : IE) : Prop := SEP P D Φ c e ie ∧ STP P D Φ c e ie
noncomputable abbrev Both (D : Wd) (Φ : Orc) (k : Nat) (c : CC) (e : Expr) (ie : IE) : Prop := BothP (AOk D k) D Φ c e ie

section
variable {D : Wd} {Φ : Orc} {k : Nat} {c : CC} {P : Around → Prop}

theorem both_plain {e : Expr} {ie : IE} (h : SEP P D Φ c e ie) (hT : (wp2 Φ ie).T = fun L H Q X => (wp2 Φ ie).E L H (fun v H1 => tX v fun c => Q c H1) X)
    (he : ∀ env whole, isTrue e env whole = (do let v ← whole; standAt e.pos; holding [v] (truthy v))) : BothP P D Φ c e ie := ⟨h, st_plain h hT he⟩

theorem e_name (g : GOk D c.G) {x : Str} {pos : Pos} {ie : IE} (hc : nameV c x = some ie) : BothP P D Φ c (.Name x pos) ie := by
  exact both_plain (fun env A γ H s L Q X hE hA R l w => name_ok g hE R l hc w) (nameV_T hc) (fun _ _ => rfl)

theorem e_const {kk : Const} {n : Nat} {pos : Pos} {W : V} (hc : constV kk = some W) : BothP P D Φ c (.Constant kk n pos) (.lit W) :=
  both_plain (fun _ _ _ _ _ _ _ _ _ _ R _ w => const_ok R hc w) rfl (fun _ _ => rfl)

theorem e_bin {l r : Expr} {op : Operator} {pos : Pos} {a b : IE} (ha : SE D Φ k c l a) (hb : SE D Φ k c r b) : Both D Φ k c (.BinOp l op r pos) (.bin op a b) := by
  refine both_plain (fun env A γ H s L Q X hE hA R lr w => ?_) rfl (fun _ _ => rfl)
  refine wpAny_BinOp (andThen (ha env A γ H s L _ X hE hA R lr w) ?_)
  intro va s1 γ1 Va H1 st R1 ra q
  refine thenV st R1 (hb env A γ1 H1 s1 L _ X hE hA R1 (lr.stp R st) q) ?_
  intro vb s2 γ2 Vb H2 st2 R2 rb q2
  exact backV (st.trans0 R1 st2) R2 (bin_ok R2 (ra.stp0 R1 st2) rb q2)

theorem e_neg {x : Expr} {pos : Pos} {a : IE} (ha : SE D Φ k c x a) : Both D Φ k c (.UnaryOp .USub x pos) (.neg a) := by
  refine both_plain (fun env A γ H s L Q X hE hA R lr w => ?_) rfl (fun _ _ => rfl)
  refine UnaryOp_ (andThen (ha env A γ H s L _ X hE hA R lr w) ?_)
  intro va s1 γ1 Va H1 st R1 ra q
  first | refine e2_1 (oK_elim q) fun i hi q => ?_ | refine e1_2 (oK_elim q) fun i hi q => ?_ | refine e0_3 (oK_elim q) fun i hi q => ?_ | obtain ⟨i, hi, q⟩ := oK_elim q
  rw [intV_some hi] at ra
  exact backV st R1 (neg_ok R1 ra q)

theorem e_not {x : Expr} {pos : Pos} {a : IE} (ha : BothP P D Φ c x a) : BothP P D Φ c (.UnaryOp .Not x pos) (.not a) := by
  refine ⟨fun env A γ H s L Q X hE hA R lr w => ?_, fun env A γ H s L Q X hE hA R lr w => ?_⟩
  · refine UnaryOp_ (andThen (ha.1 env A γ H s L _ X hE hA R lr w) ?_)
    intro va s1 γ1 Va H1 st R1 ra q
    first | refine e2_1 (tX_elim q) fun b e_111 q => ?_ | refine e1_2 (tX_elim q) fun b e_111 q => ?_ | refine e0_3 (tX_elim q) fun b e_111 q => ?_ | obtain ⟨b, e_111, q⟩ := tX_elim q
    obtain rfl := e_111
    obtain rfl := ra
    exact not_of (wpAny_truthy_bool ⟨γ1, _, H1, st, R1, rep_b, q⟩)
  · refine isTrue_not (wpAny_mono (ha.2 env A γ H s L _ X hE hA R lr w) (fun d s2 p => ?_) fun _ _ x => x)
    first | refine e3_2 p fun γ2 H2 st2 R2 q2 => ?_ | refine e2_3 p fun γ2 H2 st2 R2 q2 => ?_ | refine e1_4 p fun γ2 H2 st2 R2 q2 => ?_ | obtain ⟨γ2, H2, st2, R2, q2⟩ := p
    exact ⟨γ2, H2, st2, R2, q2⟩

theorem e_cmp {l r : Expr} {op : CmpOp} {pos : Pos} {a b : IE} (ha : SE D Φ k c l a) (hb : SE D Φ k c r b) (hm : behindInMarks op r = false) : Both D Φ k c (.Compare l [op] [r] pos) (.cmp a op b) := by
  have key : ∀ env A γ H s L Q X, EnvOk c env → AOk D k A → HRel D γ H s.heap → LRel D γ env c.slots s.heap L → (wp2 Φ (.cmp a op b)).E L H Q X →
      wpAny D.M A (eval l env) (fun va s₁ => wpAny D.M A (eval r env) (fun vb s₂ => wpAny D.M A (compareOp op va vb) (PostV D γ s Q) (PostX D γ s X) s₂) (PostX D γ s X) s₁) (PostX D γ s X) s := by
    intro env A γ H s L Q X hE hA R lr w
    refine andThen (ha env A γ H s L _ X hE hA R lr w) ?_
    intro va s1 γ1 Va H1 st R1 ra q
    refine thenV st R1 (hb env A γ1 H1 s1 L _ X hE hA R1 (lr.stp R st) q) ?_
    intro vb s2 γ2 Vb H2 st2 R2 rb q2
    exact backV (st.trans0 R1 st2) R2 (cmp_ok hA R2 (ra.stp0 R1 st2) rb q2)
  refine ⟨fun env A γ H s L Q X hE hA R lr w => wpAny_Compare1 (key env A γ H s L Q X hE hA R lr w) hm, fun env A γ H s L Q X hE hA R lr w => wpAny_isTrue_Compare1 ?_ hm⟩
  refine wpAny_mono (key env A γ H s L _ X hE hA R lr w) (fun va s1 p => wpAny_mono p (fun vb s2 p2 => wpAny_mono p2 (fun v s3 p3 => ?_) fun _ _ x => x) fun _ _ x => x) fun _ _ x => x
  first | refine e3_4 p3 fun γ3 V H3 st3 R3 rv q => ?_ | obtain ⟨γ3, V, H3, st3, R3, rv, q⟩ := p3
  first | refine e2_1 (tX_elim q) fun d e_112 q => ?_ | refine e1_2 (tX_elim q) fun d e_112 q => ?_ | refine e0_3 (tX_elim q) fun d e_112 q => ?_ | obtain ⟨d, e_112, q⟩ := tX_elim q
  obtain rfl := e_112
  exact backB st3 R3 (truth_ok R3 rv q)

theorem cmp2_head {l r : Expr} {op op' : CmpOp} {a b d : IE} (ha : SE D Φ k c l a) (hb : SE D Φ k c r b) {env : Env} {A : Around} {γ : List Addr} {H : Hp} {s : Shared} {L : Lc} {Q : V → Hp → Prop} {X : XL}
    (hE : EnvOk c env) (hA : AOk D k A) (R : HRel D γ H s.heap) (lr : LRel D γ env c.slots s.heap L) (w : (wp2 Φ (.cmp2 a op b op' d)).E L H Q X) :
    wpAny D.M A (eval l env) (fun va s₁ => wpAny D.M A (eval r env) (fun vb s₂ => wpAny D.M A (compareOp op va vb) (fun cv s₃ => wpAny D.M A (truthy cv) (fun t s₄ =>
      ∃ γ4 Vb H4, Stp [] γ γ4 s s₄ ∧ HRel D γ4 H4 s₄.heap ∧ LRel D γ4 env c.slots s₄.heap L ∧ Rep D γ4 s₄.heap vb Vb ∧ cv = .bool t ∧ ifP t ((wp2 Φ d).E L H4 (fun vc H4 => pCmp op' Vb vc H4 Q) X) (Q (.bool t) H4))
        (PostX D γ s X) s₃) (PostX D γ s X) s₂) (PostX D γ s X) s₁) (PostX D γ s X) s := by
  refine andThen (ha env A γ H s L _ X hE hA R lr w) ?_
  intro va s1 γ1 Va H1 st R1 ra q
  refine thenV st R1 (hb env A γ1 H1 s1 L _ X hE hA R1 (lr.stp R st) q) ?_
  intro vb s2 γ2 Vb H2 st2 R2 rb q2
  have st02 := st.trans0 R1 st2
  refine thenV st02 R2 (cmp_ok (Q := _) (E := PostX D γ2 s2 X) hA R2 (ra.stp0 R1 st2) rb q2) ?_
  intro cv s3 γ3 Vc H3 st3 R3 rc q3
  first | refine e2_1 (tX_elim q3) fun t e_113 q3 => ?_ | refine e1_2 (tX_elim q3) fun t e_113 q3 => ?_ | refine e0_3 (tX_elim q3) fun t e_113 q3 => ?_ | obtain ⟨t, e_113, q3⟩ := tX_elim q3
  obtain rfl := e_113
  obtain rfl := rc
  have st03 := st02.trans0 R2 st3
  exact wpAny_truthy_bool ⟨γ3, Vb, H3, st03, R3, lr.stp R st03, rb.stp0 R2 st3, rfl, q3⟩

theorem e_cmp2 {l r r' : Expr} {op op' : CmpOp} {pos : Pos} {a b d : IE} (ha : SE D Φ k c l a) (hb : SE D Φ k c r b) (hd : SE D Φ k c r' d) (hm : behindInMarks op' r' = false) :
    Both D Φ k c (.Compare l [op, op'] [r, r'] pos) (.cmp2 a op b op' d) := by
  have hm' : lastMarks [op, op'] [r, r'] = false := hm
  refine ⟨fun env A γ H s L Q X hE hA R lr w => ?_, fun env A γ H s L Q X hE hA R lr w => ?_⟩
  · refine Compare_chain (wpAny_mono (cmp2_head ha hb hE hA R lr w) (fun va s1 h1 => ?_) fun _ _ x => x) hm'
    refine chain_link (wpAny_mono h1 (fun vb s2 h2 => wpAny_mono h2 (fun cv s3 h3 => wpAny_mono h3 (fun t s4 h4 => ?_) fun _ _ x => x) fun _ _ x => x) fun _ _ x => x)
    first | refine e4_5 h4 fun γ4 Vb H4 st R4 l4 rb e_114 q => ?_ | obtain ⟨γ4, Vb, H4, st, R4, l4, rb, e_114, q⟩ := h4
    obtain rfl := e_114
    cases t with
    | true =>
      refine chain_last (thenV st R4 (hd env A γ4 _ s4 L _ X hE hA R4 l4 q) ?_)
      intro vd s5 γ5 Vd H5 st5 R5 rd q5
      exact backV (st.trans0 R4 st5) R5 (cmp_ok hA R5 (rb.stp0 R4 st5) rd q5)
    | false => exact ⟨γ4, _, H4, st, R4, rep_b, q⟩
  · refine isTrue_chain (wpAny_mono (cmp2_head ha hb hE hA R lr w) (fun va s1 h1 => ?_) fun _ _ x => x) hm'
    refine test_link (wpAny_mono h1 (fun vb s2 h2 => wpAny_mono h2 (fun cv s3 h3 => wpAny_mono h3 (fun t s4 h4 => ?_) fun _ _ x => x) fun _ _ x => x) fun _ _ x => x)
    first | refine e4_5 h4 fun γ4 Vb H4 st R4 l4 rb e_115 q => ?_ | obtain ⟨γ4, Vb, H4, st, R4, l4, rb, e_115, q⟩ := h4
    obtain rfl := e_115
    cases t with
    | true =>
      refine test_last (thenV st R4 (hd env A γ4 _ s4 L _ X hE hA R4 l4 q) ?_)
      intro vd s5 γ5 Vd H5 st5 R5 rd q5
      refine thenV (st.trans0 R4 st5) R5 (cmp_ok (Q := _) (E := PostX D γ5 s5 X) hA R5 (rb.stp0 R4 st5) rd q5) ?_
      intro v s6 γ6 V6 H6 st6 R6 r6 q6
      first | refine e2_1 (tX_elim q6) fun t6 e_116 q6 => ?_ | refine e1_2 (tX_elim q6) fun t6 e_116 q6 => ?_ | refine e0_3 (tX_elim q6) fun t6 e_116 q6 => ?_ | obtain ⟨t6, e_116, q6⟩ := tX_elim q6
      obtain rfl := e_116
      exact backB ((st.trans0 R4 st5).trans0 R5 st6) R6 (truth_ok R6 r6 q6)
    | false => exact ⟨γ4, H4, st, R4, q⟩

theorem e_ite {t a b : Expr} {pos : Pos} {it ia ib : IE} (ht : Both D Φ k c t it) (ha : Both D Φ k c a ia) (hb : Both D Φ k c b ib) : Both D Φ k c (.IfExp t a b pos) (.ite it ia ib) := by
  refine ⟨fun env A γ H s L Q X hE hA R lr w => ?_, fun env A γ H s L Q X hE hA R lr w => ?_⟩
  · refine IfExp_ (andThenB (ht.2 env A γ H s L _ X hE hA R lr w) ?_)
    intro v s1 γ1 H1 st R1 q
    cases v with
    | true => exact backV st R1 (ha.1 env A γ1 H1 s1 L Q X hE hA R1 (lr.stp R st) q)
    | false => exact backV st R1 (hb.1 env A γ1 H1 s1 L Q X hE hA R1 (lr.stp R st) q)
  · refine isTrue_IfExp (andThenB (ht.2 env A γ H s L _ X hE hA R lr w) ?_)
    intro v s1 γ1 H1 st R1 q
    cases v with
    | true => exact backB st R1 (ha.2 env A γ1 H1 s1 L Q X hE hA R1 (lr.stp R st) q)
    | false => exact backB st R1 (hb.2 env A γ1 H1 s1 L Q X hE hA R1 (lr.stp R st) q)

theorem e_and {f : Expr → Option IE} : ∀ {vs : List Expr} {ies : List IE} {pos : Pos} {ie : IE}, (∀ e ie, f e = some ie → BothP P D Φ c e ie) → mapO f vs = some ies → boolGo .and ies = some ie → BothP P D Φ c (.BoolOp .And vs pos) ie
  | [], ies, pos, ie, ih, hm, hb => by rw [mapO_nil hm] at hb; exact no_some hb
  | [e], ies, pos, ie, ih, hm, hb => by
    first | refine e3_2 (mapO_cons hm) fun b bs e_117 h1 h2 => ?_ | refine e2_3 (mapO_cons hm) fun b bs e_117 h1 h2 => ?_ | refine e1_4 (mapO_cons hm) fun b bs e_117 h1 h2 => ?_ | obtain ⟨b, bs, e_117, h1, h2⟩ := mapO_cons hm
    obtain rfl := e_117
    rw [mapO_nil h2] at hb
    obtain rfl := Option.some.inj hb
    have := ih e _ h1
    refine ⟨fun env A γ H s L Q X hE hA R lr w => BoolOp_one (this.1 env A γ H s L Q X hE hA R lr w), fun env A γ H s L Q X hE hA R lr w => ?_⟩
    refine isTrue_and (wpAny_mono (this.2 env A γ H s L Q X hE hA R lr w) (fun t s1 p => ?_) fun _ _ x => x)
    cases t with
    | true => exact isTrue_and_nil p
    | false => exact p
  | e :: e2 :: r, ies, pos, ie, ih, hm, hb => by
    first | refine e3_2 (mapO_cons hm) fun b bs e_118 h1 h2 => ?_ | refine e2_3 (mapO_cons hm) fun b bs e_118 h1 h2 => ?_ | refine e1_4 (mapO_cons hm) fun b bs e_118 h1 h2 => ?_ | obtain ⟨b, bs, e_118, h1, h2⟩ := mapO_cons hm
    obtain rfl := e_118
    first | refine e3_2 (mapO_cons h2) fun b2 bs2 e_119 h3 h4 => ?_ | refine e2_3 (mapO_cons h2) fun b2 bs2 e_119 h3 h4 => ?_ | refine e1_4 (mapO_cons h2) fun b2 bs2 e_119 h3 h4 => ?_ | obtain ⟨b2, bs2, e_119, h3, h4⟩ := mapO_cons h2
    obtain rfl := e_119
    first | refine e2_1 (Option.map_eq_some_iff.mp hb) fun i2 hi2 e_120 => ?_ | refine e1_2 (Option.map_eq_some_iff.mp hb) fun i2 hi2 e_120 => ?_ | refine e0_3 (Option.map_eq_some_iff.mp hb) fun i2 hi2 e_120 => ?_ | obtain ⟨i2, hi2, e_120⟩ := Option.map_eq_some_iff.mp hb
    obtain rfl := e_120
    have rest := e_and (vs := e2 :: r) (pos := pos) ih h2 hi2
    have one := ih e b h1
    refine ⟨fun env A γ H s L Q X hE hA R lr w => ?_, fun env A γ H s L Q X hE hA R lr w => ?_⟩
    · refine BoolOp_and (andThen (one.1 env A γ H s L _ X hE hA R lr w) ?_)
      intro va s1 γ1 Va H1 st R1 ra q
      first | refine e2_1 (tX_elim q) fun t e_121 q => ?_ | refine e1_2 (tX_elim q) fun t e_121 q => ?_ | refine e0_3 (tX_elim q) fun t e_121 q => ?_ | obtain ⟨t, e_121, q⟩ := tX_elim q
      obtain rfl := e_121
      obtain rfl := ra
      refine wpAny_truthy_bool ?_
      cases t with
      | true => exact backV st R1 (rest.1 env A γ1 H1 s1 L Q X hE hA R1 (lr.stp R st) q)
      | false => exact ⟨γ1, _, H1, st, R1, rep_b, q⟩
    · refine isTrue_and (andThenB (one.2 env A γ H s L _ X hE hA R lr w) ?_)
      intro v s1 γ1 H1 st R1 q
      cases v with
      | true => exact backB st R1 (rest.2 env A γ1 H1 s1 L Q X hE hA R1 (lr.stp R st) q)
      | false => exact ⟨γ1, H1, st, R1, q⟩

theorem e_or {f : Expr → Option IE} : ∀ {vs : List Expr} {ies : List IE} {pos : Pos} {ie : IE}, (∀ e ie, f e = some ie → BothP P D Φ c e ie) → mapO f vs = some ies → boolGo .or ies = some ie → BothP P D Φ c (.BoolOp .Or vs pos) ie
  | [], ies, pos, ie, ih, hm, hb => by rw [mapO_nil hm] at hb; exact no_some hb
  | [e], ies, pos, ie, ih, hm, hb => by
    first | refine e3_2 (mapO_cons hm) fun b bs e_122 h1 h2 => ?_ | refine e2_3 (mapO_cons hm) fun b bs e_122 h1 h2 => ?_ | refine e1_4 (mapO_cons hm) fun b bs e_122 h1 h2 => ?_ | obtain ⟨b, bs, e_122, h1, h2⟩ := mapO_cons hm
    obtain rfl := e_122
    rw [mapO_nil h2] at hb
    obtain rfl := Option.some.inj hb
    have := ih e _ h1
    refine ⟨fun env A γ H s L Q X hE hA R lr w => BoolOp_one (this.1 env A γ H s L Q X hE hA R lr w), fun env A γ H s L Q X hE hA R lr w => ?_⟩
    refine isTrue_or (wpAny_mono (this.2 env A γ H s L Q X hE hA R lr w) (fun t s1 p => ?_) fun _ _ x => x)
    cases t with
    | true => exact p
    | false => exact isTrue_or_nil p
  | e :: e2 :: r, ies, pos, ie, ih, hm, hb => by
    first | refine e3_2 (mapO_cons hm) fun b bs e_123 h1 h2 => ?_ | refine e2_3 (mapO_cons hm) fun b bs e_123 h1 h2 => ?_ | refine e1_4 (mapO_cons hm) fun b bs e_123 h1 h2 => ?_ | obtain ⟨b, bs, e_123, h1, h2⟩ := mapO_cons hm
    obtain rfl := e_123
    first | refine e3_2 (mapO_cons h2) fun b2 bs2 e_124 h3 h4 => ?_ | refine e2_3 (mapO_cons h2) fun b2 bs2 e_124 h3 h4 => ?_ | refine e1_4 (mapO_cons h2) fun b2 bs2 e_124 h3 h4 => ?_ | obtain ⟨b2, bs2, e_124, h3, h4⟩ := mapO_cons h2
    obtain rfl := e_124
    first | refine e2_1 (Option.map_eq_some_iff.mp hb) fun i2 hi2 e_125 => ?_ | refine e1_2 (Option.map_eq_some_iff.mp hb) fun i2 hi2 e_125 => ?_ | refine e0_3 (Option.map_eq_some_iff.mp hb) fun i2 hi2 e_125 => ?_ | obtain ⟨i2, hi2, e_125⟩ := Option.map_eq_some_iff.mp hb
    obtain rfl := e_125
    have rest := e_or (vs := e2 :: r) (pos := pos) ih h2 hi2
    have one := ih e b h1
    refine ⟨fun env A γ H s L Q X hE hA R lr w => ?_, fun env A γ H s L Q X hE hA R lr w => ?_⟩
    · refine BoolOp_or (andThen (one.1 env A γ H s L _ X hE hA R lr w) ?_)
      intro va s1 γ1 Va H1 st R1 ra q
      first | refine e2_1 (tX_elim q) fun t e_126 q => ?_ | refine e1_2 (tX_elim q) fun t e_126 q => ?_ | refine e0_3 (tX_elim q) fun t e_126 q => ?_ | obtain ⟨t, e_126, q⟩ := tX_elim q
      obtain rfl := e_126
      obtain rfl := ra
      refine wpAny_truthy_bool ?_
      cases t with
      | false => exact backV st R1 (rest.1 env A γ1 H1 s1 L Q X hE hA R1 (lr.stp R st) q)
      | true => exact ⟨γ1, _, H1, st, R1, rep_b, q⟩
    · refine isTrue_or (andThenB (one.2 env A γ H s L _ X hE hA R lr w) ?_)
      intro v s1 γ1 H1 st R1 q
      cases v with
      | false => exact backB st R1 (rest.2 env A γ1 H1 s1 L Q X hE hA R1 (lr.stp R st) q)
      | true => exact ⟨γ1, H1, st, R1, q⟩

theorem e_tup {es : List Expr} {kk : Nat} {pos : Pos} {ies : List IE} {n : Nat} (ih : ∀ e ie, compE n c e = some ie → SE D Φ k c e ie) (hs : es.any isStar = false) (hm : mapO (compE n c) es = some ies) :
    Both D Φ k c (.Tuple es kk pos) (.tup ies) := by
  refine both_plain (fun env A γ H s L Q X hE hA R lr w => ?_) rfl (fun _ _ => rfl)
  refine wpAny_Tuple (wpAny_mono (by rw [starEach_of hs]; exact spliced_ok ih hE hA es ies γ H s _ hm R lr w) (fun vs s1 p => ?_) fun _ _ x => x)
  obtain ⟨γ1, Vs, H1, st, R1, rv, hz, q⟩ := p
  have hl := rv.length
  exact ⟨by rw [sizeLine_eq]; omega, (PostV.newTuple R1 rv (by omega) q).back st R1⟩

theorem e_lst {es : List Expr} {pos : Pos} {ies : List IE} {n : Nat} (ih : ∀ e ie, compE n c e = some ie → SE D Φ k c e ie) (hs : es.any isStar = false) (hm : mapO (compE n c) es = some ies) :
    Both D Φ k c (.List es pos) (.lst ies) := by
  refine both_plain (fun env A γ H s L Q X hE hA R lr w => ?_) rfl (fun _ _ => rfl)
  refine wpAny_List (wpAny_mono (by rw [starEach_of hs]; exact spliced_ok ih hE hA es ies γ H s _ hm R lr w) (fun vs s1 p => ?_) fun _ _ x => x)
  obtain ⟨γ1, Vs, H1, st, R1, rv, hz, q⟩ := p
  have hl := rv.length
  exact ⟨by rw [sizeLine_eq]; omega, (PostV.newList R1 rv (by omega) q).back st R1⟩

theorem e_sub {o i : Expr} {pos : Pos} {a b : IE} (ha : SE D Φ k c o a) (hb : SE D Φ k c i b) (hs : ∀ lo hi st p, i ≠ .Slice lo hi st p) : Both D Φ k c (.Subscript o i pos) (.sub a b) := by
  refine both_plain (fun env A γ H s L Q X hE hA R lr w => ?_) rfl (fun _ _ => rfl)
  refine Subscript_ (andThen (ha env A γ H s L _ X hE hA R lr w) ?_)
  intro va s1 γ1 Va H1 st R1 ra q
  refine thenV st R1 (hb env A γ1 H1 s1 L _ X hE hA R1 (lr.stp R st) q) ?_
  intro vb s2 γ2 Vb H2 st2 R2 rb q2
  exact backV (st.trans0 R1 st2) R2 (sub_ok R2 (ra.stp0 R1 st2) rb q2 hs)

theorem e_call {f : Str} {fp pos : Pos} {args : List Expr} {W : V} {ies : List IE} {n : Nat} (g : GOk D c.G) (hO : OrcOk D k Φ) (ih : ∀ e ie, compE n c e = some ie → SE D Φ k c e ie) (hs : args.any isStar = false) (hf : globV c f = some W)
    (hm : mapO (compE n c) args = some ies) : Both D Φ k c (.Call (.Name f fp) args [] pos) (.call W ies) := by
  refine both_plain (fun env A γ H s L Q X hE hA R lr w => ?_) rfl (fun _ _ => rfl)
  refine wpAny_Call_ofName (andThen (name_ok (Φ := Φ) (Q := fun V H' => V = W ∧ H' = H) g hE R lr (globV_lit hf) ⟨rfl, rfl⟩) ?_)
  intro vf s1 γ1 Vf H1 st R1 rf q
  obtain ⟨rfl, rfl⟩ := q
  refine backV st R1 ?_
  rw [starEach_of hs]
  refine orc_call (QL := fun vs H' => pCall Φ Vf vs H' Q X) hO hA R1 rf (by simp) (evalArgs_ok ih hE hA hm R1 (lr.stp R st) w) (fun _ _ q => q)

theorem attrBase {o : Expr} {name : Str} {env : Env} (hb : plainBase o = true) : attributeBase o name env (eval o env) = eval o env := by cases o <;> first | rfl | exact Bool.noConfusion hb
theorem e_append {o a : Expr} {apos pos : Pos} {io ia : IE} (ho : SE D Φ k c o io) (ha : SE D Φ k c a ia) (hb : plainBase o = true) (hl : apos.endLine = pos.line) (hs : isStar a = false) :
    Both D Φ k c (.Call (.Attribute o "append" apos) [a] [] pos) (.meth io .append [ia]) := by
  refine both_plain (fun env A γ H s L Q X hE hA R lr w => ?_) rfl (fun _ _ => rfl)
  have e1 : backTo pos (starEach [a] env) = [(false, eval a env)] := by
    rw [starEach_of (by simp [hs])]; rfl
  refine wpAny_Call_append (attrBase hb) (by rw [e1]; rfl) (by simp [hl]) e1 (andThen (ho env A γ H s L _ X hE hA R lr w) ?_)
  intro vo s1 γ1 Vo H1 st R1 ro q
  obtain ⟨hm, q⟩ := q
  have hi : ∃ i, Vo = .ref i := by
    cases Vo with
    | ref i => exact ⟨i, rfl⟩
    | _ => exact hm.elim
  obtain ⟨i, rfl⟩ := hi
  obtain ⟨l0, hl0⟩ := hm
  first | refine e2_1 (id ro) fun x hx e_127 => ?_ | refine e1_2 (id ro) fun x hx e_127 => ?_ | refine e0_3 (id ro) fun x hx e_127 => ?_ | obtain ⟨x, hx, e_127⟩ := id ro
  obtain rfl := e_127
  first | refine e3_2 (R1.list hx hl0) fun vs n e rs z => ?_ | refine e2_3 (R1.list hx hl0) fun vs n e rs z => ?_ | refine e1_4 (R1.list hx hl0) fun vs n e rs z => ?_ | obtain ⟨vs, n, e, rs, z⟩ := R1.list hx hl0
  refine ⟨x, vs.toArray, rfl, ?_, thenV st R1 (ha env A γ1 H1 s1 L _ X hE hA R1 (lr.stp R st) q) ?_⟩
  · exact ⟨_, n, e, rfl, rfl, rfl⟩
  intro va s2 γ2 Va H2 st2 R2 ra q2
  first | refine e2_1 (oK_elim q2) fun l hl' q2 => ?_ | refine e1_2 (oK_elim q2) fun l hl' q2 => ?_ | refine e0_3 (oK_elim q2) fun l hl' q2 => ?_ | obtain ⟨l, hl', q2⟩ := oK_elim q2
  first | refine e3_1 (on1P_elim q2) fun _ e3 hz q2 => ?_ | refine e2_2 (on1P_elim q2) fun _ e3 hz q2 => ?_ | refine e1_3 (on1P_elim q2) fun _ e3 hz q2 => ?_ | refine e0_4 (on1P_elim q2) fun _ e3 hz q2 => ?_ | obtain ⟨_, e3, hz, q2⟩ := on1P_elim q2
  cases e3
  exact backV (st.trans0 R1 st2) R2 (append_ok R2 (ro.stp0 R1 st2) ra hl' hz q2)
theorem e_strm {o a : Expr} {name : Str} {j : Bool} {apos pos : Pos} {io ia : IE} (hj : smOf name = some j) (ho : SE D Φ k c o io) (ha : SE D Φ k c a ia) (hb : plainBase o = true) (hl : apos.endLine = pos.line) (hs : isStar a = false) :
    Both D Φ k c (.Call (.Attribute o name apos) [a] [] pos) (.strm io j ia) := by
  refine both_plain (fun env A γ H s L Q X hE hA R lr w => ?_) rfl (fun _ _ => rfl)
  have e1 : backTo pos (starEach [a] env) = [(false, eval a env)] := by
    rw [starEach_of (by simp [hs])]; rfl
  have run : ∀ (m : String), (∀ {va : Value} {s2 : Shared} {γ2 : List Addr} {H2 : Hp} {Va : V} {x : Str} {t : Tok}, HRel D γ2 H2 s2.heap → StrFine x → Rep D γ2 s2.heap va Va → pStrm j x Va H2 Q → wpAny D.M A (call (.builtin m) [.str x t, va]) (PostV D γ2 s2 Q) (PostX D γ2 s2 X) s2) →
      wpAny D.M A (eval o env) (fun v s₁ => s₁.TypeIs v "str" ∧ (∀ b, v = .ref b → ∃ ob, s₁.heap.get? b = some ob ∧ ob.dict = none) ∧ wpAny D.M A (callWith pos (.builtin m) [v] [(false, eval a env)] []) (PostV D γ s Q) (PostX D γ s X) s₁) (PostX D γ s X) s := by
    intro m hm
    refine andThen (ho env A γ H s L _ X hE hA R lr w) ?_
    intro vo s1 γ1 Vo H1 st R1 ro q
    first | refine e2_1 (oK_elim q) fun x hx q => ?_ | refine e1_2 (oK_elim q) fun x hx q => ?_ | refine e0_3 (oK_elim q) fun x hx q => ?_ | obtain ⟨x, hx, q⟩ := oK_elim q
    rw [strV_some hx] at ro
    first | refine e2_1 ro fun t e_128 f => ?_ | refine e1_2 ro fun t e_128 f => ?_ | refine e0_3 ro fun t e_128 f => ?_ | obtain ⟨t, e_128, f⟩ := ro
    obtain rfl := e_128
    refine ⟨typeIs_str _ _ _, ⟨(fun b e => by cases e), ?_⟩⟩
    refine Calls.callWith_builtin rfl (Calls.evalArgs_plain (Calls.spliced_cons (thenV st R1 (ha env A γ1 H1 s1 L _ X hE hA R1 (lr.stp R st) q) ?_)))
    intro va s2 γ2 Va H2 st2 R2 ra q2
    exact Calls.spliced_nil (backV (st.trans0 R1 st2) R2 (hm R2 f ra q2))
  cases j with
  | true =>
    rw [show name = "join" from smOf_ok hj]
    refine wpAny_Call_method (attrBase hb) (by rw [e1]; rfl) (by simp [hl]) F.plainAttrs_str F.slot_str_join F.type_str_join ?_
    rw [e1]
    refine run _ fun {va s2 γ2 H2 Va x t} R2 f ra q2 => ?_
    have hi : ∃ i, Va = .ref i := by
      cases Va with
      | ref i => exact ⟨i, rfl⟩
      | _ => exact q2.elim
    obtain ⟨i, rfl⟩ := hi
    first | refine e2_1 (oK_elim q2) fun l hl' q2 => ?_ | refine e1_2 (oK_elim q2) fun l hl' q2 => ?_ | refine e0_3 (oK_elim q2) fun l hl' q2 => ?_ | obtain ⟨l, hl', q2⟩ := oK_elim q2
    first | refine e3_1 (oK_elim q2) fun ys hy hz q2 => ?_ | refine e2_2 (oK_elim q2) fun ys hy hz q2 => ?_ | refine e1_3 (oK_elim q2) fun ys hy hz q2 => ?_ | refine e0_4 (oK_elim q2) fun ys hy hz q2 => ?_ | obtain ⟨ys, hy, hz, q2⟩ := oK_elim q2
    exact join_ok R2 f ra hl' hy hz q2
  | false =>
    rw [show name = "split" from smOf_ok hj]
    refine wpAny_Call_method (attrBase hb) (by rw [e1]; rfl) (by simp [hl]) F.plainAttrs_str F.slot_str_split F.type_str_split ?_
    rw [e1]
    refine run _ fun {va s2 γ2 H2 Va x t} R2 f ra q2 => ?_
    first | refine e3_1 (oK_elim q2) fun y hy hz q2 => ?_ | refine e2_2 (oK_elim q2) fun y hy hz q2 => ?_ | refine e1_3 (oK_elim q2) fun y hy hz q2 => ?_ | refine e0_4 (oK_elim q2) fun y hy hz q2 => ?_ | obtain ⟨y, hy, hz, q2⟩ := oK_elim q2
    rw [strV_some hy] at ra
    first | refine e2_1 ra fun u e_129 fy => ?_ | refine e1_2 ra fun u e_129 fy => ?_ | refine e0_3 ra fun u e_129 fy => ?_ | obtain ⟨u, e_129, fy⟩ := ra
    obtain rfl := e_129
    exact split_ok R2 f hz.1 hz.2 q2
end
end Mine

set_option autoImplicit false
set_option maxRecDepth 100000
/- isinstance of an exception of the text's own. -/
namespace Mine
open PySem
open Sem (wp)

namespace F2
theorem lk_class : typeLookup (.type "ValueError") "__class__" = pure (some (.builtin "object.__class__")) := by rw [typeLookup_type, builtinLookup_eq_fast]; kernel_rfl
theorem lk_getattr : typeLookup (.type "ValueError") "__getattr__" = pure none := by rw [typeLookup_type, builtinLookup_eq_fast]; kernel_rfl
theorem typeOf_ve : typeOf (.type "ValueError") = pure (.type "type") := by kernel_rfl
end F2

section
variable {prog : Program} {w : World} {A : Around} {E : Value → Shared → Prop} {h : Heap} {g : Array GenState} {d : Drawn} {t : Nat} {os : OsState} {a C : Addr} {o : Obj} {bm : List Value}

theorem lookupTail {M : Model} {bmB tl : List Value} {n : Str} {y : Option Value} {Q : Option Value → Shared → Prop} (hn : n ∈ qN) (T : TailN h bmB tl) (hrest : lookupAlong bmB n = pure y) (hq : Q y ⟨h, g, d, t, os⟩) :
    wpAny M A (lookupAlong tl n) Q E ⟨h, g, d, t, os⟩ := by
  induction T with
  | base => rw [hrest]; exact wpAny_pure hq
  | own hA hN hni _ ih =>
    rw [lookupAlong_cons]
    refine wpAny_bind (wpAny_classOwn_cls hA hN ?_)
    rw [hni n hn]
    exact ih

theorem lookupOwn {M : Model} {n : Str} {y : Option Value} {Q : Option Value → Shared → Prop} (hn : n ∈ qN) (hC : ClsAt h C bm) (hB : typeLookup (.type "ValueError") n = pure y) (hq : Q y ⟨h, g, d, t, os⟩) : wpAny M A (typeLookup (.ref C) n) Q E ⟨h, g, d, t, os⟩ := by
  obtain ⟨N, nm, q, bs, hdct, sn, sub, ab, col, dd, k0, k1, k2, k3, k5, mN, hC, hN, hmN, T⟩ := hC
  have hrest : lookupAlong bmV n = pure y := by rw [typeLookup_eq, F.excBase_ValueError.mroIs] at hB; exact hB
  rw [typeLookup_eq]
  refine wpAny_bind (wpAny_mroOf_exc hC ?_)
  rw [lookupAlong_cons]
  refine wpAny_bind (wpAny_classOwn_exc hC hN ?_)
  rw [hmN n hn]
  exact lookupTail hn T hrest hq

theorem subOwn {M : Model} {base : Value} {Q : Bool → Shared → Prop} (hC : ClsAt h C bm) (hq : Q ((Value.ref C :: bm).contains base) ⟨h, g, d, t, os⟩) : wpAny M A (isSubtype (.ref C) base) Q E ⟨h, g, d, t, os⟩ := by
  obtain ⟨N, nm, q, bs, hdct, sn, sub, ab, col, dd, k0, k1, k2, k3, k5, mN, hC, hN, hmN, T⟩ := hC
  exact wpAny_isSubtype_exc hC hq
theorem hasT (hC : ClsAt h C bm) {X : String} {b : Bool} (hb : bmV.contains (.type X) = b) : (Value.ref C :: bm).contains (.type X) = b := by
  obtain ⟨N, nm, q, bs, hdct, sn, sub, ab, col, dd, k0, k1, k2, k3, k5, mN, hC, hN, hmN, T⟩ := hC
  rw [List.contains_cons, T.tail.hasType hb]; rfl
theorem partOwn (hC : ClsAt h C bm) : ∃ oC cd, h.get? C = some oC ∧ oC.cls = .type "type" ∧ oC.data = .cls cd := by
  obtain ⟨N, nm, q, bs, hdct, sn, sub, ab, col, dd, k0, k1, k2, k3, k5, mN, hC, hN, hmN, T⟩ := hC
  exact ⟨_, _, hC, rfl, rfl⟩

theorem checkGa {M : Model} {nameV : Value} {Q : Unit → Shared → Prop} (hC : ClsAt h C bm) (hx : h.get? a = some o) (hc : o.cls = .ref C) (hq : Q () ⟨h, g, d, t, os⟩) :
    wpAny M A (checkBuiltinCall "BaseException.__getattribute__" ⟨[.ref a, nameV], []⟩) Q E ⟨h, g, d, t, os⟩ := by
  have hk : builtinKind "BaseException.__getattribute__" = some .slot := by decide +kernel
  have hsplit : splitId "BaseException.__getattribute__" = some ("BaseException", "__getattribute__") := by decide +kernel
  have hcB : (Value.ref C :: bm).contains (.type "BaseException") = true := hasT hC rfl
  have ha := F.args_bexc_ga (.ref a) nameV
  simp only [checkBuiltinCall, hk, hsplit]
  refine wpAny_bind ?_
  · unfold isInstance
    repeat (first | (with_reducible refine wpAny_loadPart_at hx ?_; rw [hc]) | (with_reducible refine subOwn hC ?_; rw [hcB]) | wp_step)
    exact hq

theorem classGet {R : Result → Shared → Prop} (hC : ClsAt h C bm) (hx : h.get? a = some o) (hc : o.cls = .ref C) (hq : R (.ok (.ret (.ref C))) ⟨h, g, d, t, os⟩) :
    codeAny (model prog w) A (.call (.builtin "getset_descriptor.__get__") ⟨[.builtin "object.__class__", .ref a, .ref C], []⟩) R ⟨h, g, d, t, os⟩ := by
  have hT5 : (⟨h, g, d, t, os⟩ : Shared).TypeIs (.builtin "object.__class__") "getset_descriptor" := F.typeOf_object_class
  have hcB : (Value.ref C :: bm).contains (.type (".".intercalate ("object.__class__".cutAt '.').dropLast)) = true := by rw [F.owner_object_class]; exact hasT hC rfl
  refine codeAny_call_builtin F.slot_gs_get.plain F.entry_gs_get (F.slot_gs_get.check _ _ _ _ _ _ _ _ hT5 (F.args_gs_get _ _ _) ?_)
  repeat (any_goals (first | assumption | (with_reducible refine wpAny_loadPart_at hx ?_; rw [hc]) | (with_reducible refine subOwn hC ?_; rw [hcB]) | wp_step))
  refine ⟨Code.quiet_builtin _ (by decide +kernel), codeAny_builtin F.entry_object_class ?_⟩
  repeat (any_goals (first | assumption | (with_reducible refine wpAny_loadPart_at hx ?_; rw [hc]) | wp_step))

theorem classEntry {tk : Tok} {Q : Fin → Shared → Prop} (hC : ClsAt h C bm) (hx : h.get? a = some o) (hc : o.cls = .ref C) (hq : Q (.done (.ret (.ref C))) ⟨h, g, d, t, os⟩) :
    wpAny (model prog w) A (Builtin.«object.__getattribute__» ⟨[.ref a, .str "__class__" tk], []⟩) Q E ⟨h, g, d, t, os⟩ := by
  have hT5 : (⟨h, g, d, t, os⟩ : Shared).TypeIs (.builtin "object.__class__") "getset_descriptor" := F.typeOf_object_class
  have f5 := F.typeOf_object_class
  have f6 := F.slot_gs_get.lookup
  have f7 := F.slot_gs_set.lookup
  have hmA : ("__class__" : Str) ∈ qN := .tail _ (.tail _ (.tail _ (.head _)))
  repeat (any_goals (first | assumption | (with_reducible refine wpAny_loadPart_at hx ?_; rw [hc]) | with_reducible refine lookupOwn hmA hC F2.lk_class ?_ | wp_step))
  refine classGet hC hx hc ?_
  repeat (any_goals (first | assumption | wp_step))

theorem classBy {tk : Tok} {Q : Value → Shared → Prop} (hC : ClsAt h C bm) (hx : h.get? a = some o) (hc : o.cls = .ref C) (hq : Q (.ref C) ⟨h, g, d, t, os⟩) :
    wpAny (model prog w) A (getAttrBy (.ref a) (.str "__class__" tk) false) Q E ⟨h, g, d, t, os⟩ := by
  have FB := F.excAttr_ValueError
  have f3 := FB.ga.bind (.ref a)
  have hx2 : (Value.builtin "BaseException.__getattribute__" == Value.builtin "object.__getattribute__") = false := by decide +kernel
  have hx1 : (onTheHeap (Value.ref C) && Value.builtin "BaseException.__getattribute__" == Value.builtin "object.__getattribute__") = false := by rw [hx2]; rfl
  have hm1 : ("__getattribute__" : Str) ∈ qN := .tail _ (.head _)
  have hm2 : ("__getattr__" : Str) ∈ qN := .tail _ (.tail _ (.head _))
  repeat (any_goals (first | assumption | (with_reducible refine wpAny_loadPart_at hx ?_; rw [hc]) | with_reducible refine lookupOwn hm1 hC FB.ga.lookup ?_ | with_reducible refine lookupOwn hm2 hC F2.lk_getattr ?_ | wp_step))
  refine codeAny_call_builtin FB.ga.plain F.entry_bexc_ga (checkGa hC hx hc (classEntry hC hx hc ?_))
  repeat (any_goals (first | assumption | wp_step))

theorem classAttr {Q : Option Value → Shared → Prop} (hC : ClsAt h C bm) (hx : h.get? a = some o) (hc : o.cls = .ref C) (hq : Q (some (.ref C)) ⟨h, g, d, t + 1, os⟩) : wpAny (model prog w) A (getAttr? (.ref a) "__class__") Q E ⟨h, g, d, t, os⟩ := by
  unfold getAttr? getAttrBy?
  repeat (any_goals (first | assumption | with_reducible apply classBy hC hx hc | wp_step))

/- the text's own class -/
theorem nestedOwn {Cy : Addr} {bmy : List Value} {dep : Int} {tk : Tok} {Q : Fin → Shared → Prop} (hC : ClsAt h C bm) (hCy : ClsAt h Cy bmy) (hx : h.get? a = some o) (hc : o.cls = .ref C)
    (hq : ∀ t', Q (.done (.ret (.bool ((Value.ref C :: bm).contains (.ref Cy))))) ⟨h, g, d, t', os⟩) :
    wpAny (model prog w) A (Builtin.«isinstance.nested» ⟨[.ref a, .ref Cy, .int dep tk], []⟩) Q E ⟨h, g, d, t, os⟩ := by
  first | refine e3_2 (partOwn hCy) fun oy cdy hy1 hy2 hy3 => ?_ | refine e2_3 (partOwn hCy) fun oy cdy hy1 hy2 hy3 => ?_ | refine e1_4 (partOwn hCy) fun oy cdy hy1 hy2 hy3 => ?_ | obtain ⟨oy, cdy, hy1, hy2, hy3⟩ := partOwn hCy
  first | refine e3_2 (partOwn hC) fun oC cdC hC1 hC2 hC3 => ?_ | refine e2_3 (partOwn hC) fun oC cdC hC1 hC2 hC3 => ?_ | refine e1_4 (partOwn hC) fun oC cdC hC1 hC2 hC3 => ?_ | obtain ⟨oC, cdC, hC1, hC2, hC3⟩ := partOwn hC
  by_cases he : C = Cy
  · subst he
    have hb : (Value.ref C :: bm).contains (.ref C) = true := by simp
    rw [hb] at hq
    have hq' := hq t
    have e0 : (Value.ref C == Value.ref C) = true := by simp
    repeat (any_goals (first | assumption | (with_reducible refine wpAny_loadPart_at hx ?_; rw [hc]) | wp_step))
  · have e0 : (Value.ref C == Value.ref Cy) = false := by simpa using he
    cases hb : (Value.ref C :: bm).contains (.ref Cy) with
    | true =>
      rw [hb] at hq
      have hq' := hq t
      repeat (any_goals (first | assumption | (with_reducible refine wpAny_loadPart_at hx ?_; rw [hc]) | (with_reducible refine wpAny_loadPart_at hy1 ?_; rw [hy2]) | (with_reducible refine wpAny_loadPart_at hy1 ?_; rw [hy3]) | (with_reducible refine subOwn hC ?_; rw [hb]) | wp_step))
    | false =>
      rw [hb] at hq
      have hq' := hq (t + 1)
      repeat (any_goals (first | assumption | (with_reducible refine wpAny_loadPart_at hx ?_; rw [hc]) | (with_reducible refine wpAny_loadPart_at hy1 ?_; rw [hy2]) | (with_reducible refine wpAny_loadPart_at hy1 ?_; rw [hy3]) | (with_reducible refine wpAny_loadPart_at hC1 ?_; rw [hC3]) | (with_reducible refine subOwn hC ?_; rw [hb]) | with_reducible apply classAttr hC hx hc | wp_step))

theorem nestedVE {dep : Int} {tk : Tok} {Q : Fin → Shared → Prop} (hC : ClsAt h C bm) (hx : h.get? a = some o) (hc : o.cls = .ref C)
    (hq : Q (.done (.ret (.bool true))) ⟨h, g, d, t, os⟩) : wpAny (model prog w) A (Builtin.«isinstance.nested» ⟨[.ref a, .type "ValueError", .int dep tk], []⟩) Q E ⟨h, g, d, t, os⟩ := by
  have hb : (Value.ref C :: bm).contains (.type "ValueError") = true := hasT hC rfl
  have e0 : (Value.ref C == Value.type "ValueError") = false := by rfl
  have e1 := F2.typeOf_ve
  repeat (any_goals (first | assumption | (with_reducible refine wpAny_loadPart_at hx ?_; rw [hc]) | (with_reducible refine subOwn hC ?_; rw [hb]) | wp_step))

theorem isiOwn {Cy : Addr} {bmy : List Value} {Q : Value → Shared → Prop} {s : Shared} (hC : ClsAt s.heap C bm) (hCy : ClsAt s.heap Cy bmy) (hx : s.heap.get? a = some o) (hc : o.cls = .ref C)
    (hq : ∀ t', Q (.bool ((Value.ref C :: bm).contains (.ref Cy))) { s with toks := t' }) : wpAny (model prog w) A (call (.builtin "isinstance") [.ref a, .ref Cy]) Q E s := by
  first | refine e3_2 s fun h g d t os => ?_ | refine e2_3 s fun h g d t os => ?_ | refine e1_4 s fun h g d t os => ?_ | obtain ⟨h, g, d, t, os⟩ := s
  refine call_function_meets F.kind_isinstance F.plain_isinstance F.entry_isinstance (F.args_isinstance_2 _ _) (S := fun _ R s' => s' = ⟨h, g, d, t, os⟩ ∧ ∀ t', R (.ok (.ret (.bool ((Value.ref C :: bm).contains (.ref Cy))))) ⟨h, g, d, t', os⟩) ?_ ⟨rfl, hq⟩
  intro prog w A R s' hs
  obtain ⟨rfl, hs⟩ := hs
  exact isinstance_outer (nestedOwn hC hCy hx hc hs) (by intro e; cases e)
theorem isiVE {Q : Value → Shared → Prop} {s : Shared} (hC : ClsAt s.heap C bm) (hx : s.heap.get? a = some o) (hc : o.cls = .ref C)
    (hq : Q (.bool true) s) : wpAny (model prog w) A (call (.builtin "isinstance") [.ref a, .type "ValueError"]) Q E s := by
  first | refine e3_2 s fun h g d t os => ?_ | refine e2_3 s fun h g d t os => ?_ | refine e1_4 s fun h g d t os => ?_ | obtain ⟨h, g, d, t, os⟩ := s
  refine call_function_meets F.kind_isinstance F.plain_isinstance F.entry_isinstance (F.args_isinstance_2 _ _) (S := fun _ R s' => s' = ⟨h, g, d, t, os⟩ ∧ R (.ok (.ret (.bool true))) ⟨h, g, d, t, os⟩) ?_ ⟨rfl, hq⟩
  intro prog w A R s' hs
  obtain ⟨rfl, hs⟩ := hs
  exact isinstance_outer (nestedVE hC hx hc hs) (by intro e; cases e)

theorem matchOwn {M : Model} {Cy : Addr} {bmy : List Value} {Q : Bool → Shared → Prop} {s : Shared} (hC : ClsAt s.heap C bm) (hCy : ClsAt s.heap Cy bmy) (hx : s.heap.get? a = some o) (hc : o.cls = .ref C)
    (hq : Q ((Value.ref C :: bm).contains (.ref Cy)) s) : wpAny M A (excMatches (.ref a) (.ref Cy)) Q E s := by
  first | refine e3_2 s fun h g d t os => ?_ | refine e2_3 s fun h g d t os => ?_ | refine e1_4 s fun h g d t os => ?_ | obtain ⟨h, g, d, t, os⟩ := s
  first | refine e3_2 (partOwn hCy) fun oy cdy hy1 hy2 hy3 => ?_ | refine e2_3 (partOwn hCy) fun oy cdy hy1 hy2 hy3 => ?_ | refine e1_4 (partOwn hCy) fun oy cdy hy1 hy2 hy3 => ?_ | obtain ⟨oy, cdy, hy1, hy2, hy3⟩ := partOwn hCy
  have hcB : (Value.ref Cy :: bmy).contains (.type "BaseException") = true := hasT hCy rfl
  have f := tc_notTuple
  unfold excMatches
  cases hb : (Value.ref C :: bm).contains (.ref Cy) with
  | true =>
    rw [hb] at hq
    repeat (any_goals (first | assumption | (with_reducible refine wpAny_loadPart_at hx ?_; rw [hc]) | (with_reducible refine wpAny_loadPart_at hy1 ?_; rw [hy2]) | (with_reducible refine wpAny_loadPart_at hy1 ?_; rw [hy3]) | (with_reducible refine subOwn hCy ?_; rw [hcB]) | (with_reducible refine subOwn hC ?_; rw [hb]) | wp_step))
  | false =>
    rw [hb] at hq
    repeat (any_goals (first | assumption | (with_reducible refine wpAny_loadPart_at hx ?_; rw [hc]) | (with_reducible refine wpAny_loadPart_at hy1 ?_; rw [hy2]) | (with_reducible refine wpAny_loadPart_at hy1 ?_; rw [hy3]) | (with_reducible refine subOwn hCy ?_; rw [hcB]) | (with_reducible refine subOwn hC ?_; rw [hb]) | wp_step))
end
end Mine

set_option autoImplicit false
/- The expressions of handlers. -/
namespace Mine
open PySem PyProof.Rows

theorem glob_ok {D : Wd} {c : CC} {env : Env} {A : Around} {γ : List Addr} {H : Hp} {s : Shared} {Q : Value → Shared → Prop} {E : Value → Shared → Prop} {x : Str} {pos : Pos} {W : V} (g : GOk D c.G) (he : EnvOk c env) (R : HRel D γ H s.heap)
    (hc : globV c x = some W) (h : ∀ v, Rep D γ s.heap v W → Q v s) : wpAny D.M A (eval (.Name x pos) env) Q E s := by
  first | refine e2_1 (Option.bind_eq_some_iff.mp hc) fun kk hk hc => ?_ | refine e1_2 (Option.bind_eq_some_iff.mp hc) fun kk hk hc => ?_ | refine e0_3 (Option.bind_eq_some_iff.mp hc) fun kk hk hc => ?_ | obtain ⟨kk, hk, hc⟩ := Option.bind_eq_some_iff.mp hc
  obtain ⟨hd, hk⟩ := onlyIf_some hk
  have hkf : env.scope.kind = .function := by rw [he.scope]; exact he.kind
  have hk' : env.kindOf x = some kk := by unfold Env.kindOf; rw [he.scope]; exact hk
  cases kk with
  | globalImplicit =>
    first | refine e2_1 (g.val x W hc) fun v hv rv => ?_ | refine e1_2 (g.val x W hc) fun v hv rv => ?_ | refine e0_3 (g.val x W hc) fun v hv rv => ?_ | obtain ⟨v, hv, rv⟩ := g.val x W hc
    refine Calls.Name_function_global hkf hk' ?_ (bnot hd)
    have rr : Rep D γ s.heap v W := Rep.mono ⟨[], by simp⟩ (fun _ _ => tupAt_grow R.base) (rv γ)
    rcases hv with hv | ⟨hv1, hv2⟩
    · exact Calls.loadGlobal_global (by rw [he.globals]; exact g.gns.keeps R.base) hv (h v rr)
    · exact Calls.loadGlobal_builtin (by rw [he.globals]; exact g.gns.keeps R.base) hv1 (by rw [he.builtins]; exact g.bns.keeps R.base) hv2 (h v rr)
  | _ => exact no_some hc

structure RC (D : Wd) (c : CC) (nm : Option Str) (env : Env) (γ : List Addr) (H : Hp) (L : Lc) (x : Exc) (h : Heap) : Prop where
  hE : EnvOk c env
  g : GOk D c.G
  R : HRel D γ H h
  l : LRel D γ env c.slots h L
  ex : (x.cls, x.ups) ∈ D.ex
  as : ∀ y, nm = some y → ∃ a oe C m, h.Ns env.locals m ∧ m y = some (.ref a) ∧ h.get? a = some oe ∧ oe.cls = .ref C ∧ D.mg x.cls = some (.ref C)

noncomputable def SR (D : Wd) (env : Env) (γ : List Addr) (L : Lc) (x : Exc) (h : Heap) (e : Expr) (ie : IE) : Prop := ∀ A E s V, s.heap = h → evR x L ie = some V →
  wpAny D.M A (eval e env) (fun v s' => (∃ tk, s' = { s with toks := tk }) ∧ Rep D γ h v V) E s

section
variable {D : Wd} {c : CC} {nm : Option Str} {env : Env} {γ : List Addr} {H : Hp} {L : Lc} {x : Exc} {h : Heap}

theorem SR.ite {e : Expr} {ie : IE} (hs : SR D env γ L x h e ie) {A : Around} {E : Value → Shared → Prop} {s : Shared} {P : Value → Shared → Prop} {p : Bool} (he : s.heap = h) (hv : evR x L ie = some (.bool p)) (k : ∀ tk, P (.bool p) { s with toks := tk }) :
    wpAny D.M A (eval e env) P E s := wpAny_mono (hs A E s _ he hv) (fun v s' q => by
      obtain ⟨⟨tk, rfl⟩, r⟩ := q
      obtain rfl := r; exact k tk) fun _ _ q => q

theorem r_or {e1 e2 : Expr} {pos : Pos} {a b : IE} (ha : SR D env γ L x h e1 a) (hb : SR D env γ L x h e2 b) : SR D env γ L x h (.BoolOp .Or [e1, e2] pos) (.or a b) := by
  intro A E s V he hv
  first | refine e2_1 (Option.bind_eq_some_iff.mp (show ((evR x L a).bind boolV).bind _ = some V from hv)) fun p hp hv => ?_ | refine e1_2 (Option.bind_eq_some_iff.mp (show ((evR x L a).bind boolV).bind _ = some V from hv)) fun p hp hv => ?_ | refine e0_3 (Option.bind_eq_some_iff.mp (show ((evR x L a).bind boolV).bind _ = some V from hv)) fun p hp hv => ?_ | obtain ⟨p, hp, hv⟩ := Option.bind_eq_some_iff.mp (show ((evR x L a).bind boolV).bind _ = some V from hv)
  refine BoolOp_or (ha.ite he (evB_some hp) fun tk => wpAny_truthy_bool ?_)
  cases p with
  | false => exact BoolOp_one (wpAny_mono (hb A E _ V he hv) (fun v s' q => q) fun _ _ q => q)
  | true => obtain rfl := Option.some.inj hv; exact ⟨⟨tk, rfl⟩, rep_b⟩

theorem r_int {e : Expr} {ie : IE} (hs : SR D env γ L x h e ie) {A : Around} {E : Value → Shared → Prop} {s : Shared} {P : Value → Shared → Prop} {i : Int} (he : s.heap = h) (hv : evR x L ie = some (.int i)) (k : ∀ t tk, P (.int i t) { s with toks := tk }) :
    wpAny D.M A (eval e env) P E s := wpAny_mono (hs A E s _ he hv) (fun v s' q => by
      obtain ⟨⟨tk, rfl⟩, r⟩ := q
      obtain ⟨t, rfl⟩ := r; exact k t tk) fun _ _ q => q

theorem r_lit {kk : Const} {n : Nat} {pos : Pos} {W : V} (hW : litR kk = some W) : SR D env γ L x h (.Constant kk n pos) (.lit W) := by
  intro A E s V he hv
  obtain rfl := Option.some.inj hv
  cases kk with
  | bool b => obtain rfl := Option.some.inj hW; exact Constant_bool ⟨⟨s.toks, rfl⟩, rep_b⟩
  | int i => obtain rfl := Option.some.inj hW; exact wpAny_Constant_int ⟨⟨_, rfl⟩, rep_i⟩
  | _ => exact no_some hW
theorem r_name (rc : RC D c nm env γ H L x h) {y : Str} {pos : Pos} {i : Nat} (h1 : c.scope.names.lookup y = some .local) (h3 : (y == ("__debug__" : Str)) = false) (hi : c.slots.lookup y = some i) : SR D env γ L x h (.Name y pos) (.loc i) := by
  intro A E s V he hv
  subst he
  first | refine e2_1 (Option.bind_eq_some_iff.mp (show L[i]?.bind id = some V from hv)) fun o0 hL hv => ?_ | refine e1_2 (Option.bind_eq_some_iff.mp (show L[i]?.bind id = some V from hv)) fun o0 hL hv => ?_ | refine e0_3 (Option.bind_eq_some_iff.mp (show L[i]?.bind id = some V from hv)) fun o0 hL hv => ?_ | obtain ⟨o0, hL, hv⟩ := Option.bind_eq_some_iff.mp (show L[i]?.bind id = some V from hv)
  have hL : L[i]? = some (some V) := by rw [hL]; exact congrArg some hv
  have hkf : env.scope.kind = .function := by rw [rc.hE.scope]; exact rc.hE.kind
  have hk' : env.kindOf y = some .local := by unfold Env.kindOf; rw [rc.hE.scope]; exact h1
  first | refine e2_1 (rc.l.ns) fun m hn f => ?_ | refine e1_2 (rc.l.ns) fun m hn f => ?_ | refine e0_3 (rc.l.ns) fun m hn f => ?_ | obtain ⟨m, hn, f⟩ := rc.l.ns
  first | refine e2_1 (f y i _ hk' hi hL) fun v hv rv => ?_ | refine e1_2 (f y i _ hk' hi hL) fun v hv rv => ?_ | refine e0_3 (f y i _ hk' hi hL) fun v hv rv => ?_ | obtain ⟨v, hv, rv⟩ := f y i _ hk' hi hL
  exact wpAny_Name (wpAny_loadName_local hkf hk' hn hv ⟨⟨s.toks, rfl⟩, rv⟩) h3

theorem isIsi_some {o : Option V} (h : isIsi o = true) : o = some (.bi .isinstance) := by
  cases o with
  | none => exact Bool.noConfusion h
  | some v => cases v with
    | bi t => cases t with
      | isinstance => rfl
      | _ => exact Bool.noConfusion h
    | _ => exact Bool.noConfusion h
theorem isVE_some {o : Option V} (h : isVE o = true) : o = some (.ty .valueError) := by
  cases o with
  | none => exact Bool.noConfusion h
  | some v => cases v with
    | ty t => cases t with
      | valueError => rfl
      | _ => exact Bool.noConfusion h
    | _ => exact Bool.noConfusion h
theorem r_isi (rc : RC D c nm env γ H L x h) {f y z : Str} {fp xp yp pos : Pos} (h1 : isIsi (globV c f) = true) (h2 : nm = some y) (h3 : c.scope.names.lookup y = some .local) (h4 : (y == ("__debug__" : Str)) = false) (h5 : isVE (globV c z) = true) :
    SR D env γ L x h (.Call (.Name f fp) [.Name y xp, .Name z yp] [] pos) (.excIs "ValueError") := by
  intro A E s V he hv
  subst he
  obtain rfl := Option.some.inj hv
  have hf := isIsi_some h1
  have hkf : env.scope.kind = .function := by rw [rc.hE.scope]; exact rc.hE.kind
  have hk' : env.kindOf y = some .local := by unfold Env.kindOf; rw [rc.hE.scope]; exact h3
  first | refine e4_5 (rc.as y h2) fun a oe C m hn hm hx hc hmg => ?_ | obtain ⟨a, oe, C, m, hn, hm, hx, hc, hmg⟩ := rc.as y h2
  first | refine e3_3 (rc.g.exs _ _ rc.ex) fun C' bm hmg' hat _ hve => ?_ | refine e2_4 (rc.g.exs _ _ rc.ex) fun C' bm hmg' hat _ hve => ?_ | obtain ⟨C', bm, hmg', hat, _, hve⟩ := rc.g.exs _ _ rc.ex
  rw [hmg] at hmg'; cases hmg'
  refine wpAny_Call_ofName (glob_ok rc.g rc.hE rc.R hf fun v r => ?_)
  obtain rfl := r
  rw [starEach_of (by rfl)]
  refine Calls.callWith_builtin rfl (Calls.evalArgs_plain (Calls.spliced_cons (wpAny_Name (wpAny_loadName_local hkf hk' hn hm (Calls.spliced_cons ?_)) h4)))
  have hatH : ClsAt s.heap C bm := hat.keeps rc.R.base
  refine glob_ok rc.g rc.hE rc.R (isVE_some h5) fun v r => Calls.spliced_nil ?_
  obtain rfl := r
  refine isiVE hatH hx hc ⟨⟨s.toks, rfl⟩, ?_⟩
  rw [hve]
  exact rep_b

theorem eqMarks (r : Expr) : behindInMarks .Eq r = false := by
  cases r with
  | Set es k p =>
    show (k == 0 && false && _) = false
    rw [Bool.and_false, Bool.false_and]
  | _ => rfl
theorem r_cmp {l r : Expr} {op : CmpOp} {pos : Pos} {a b : IE} (hop : cmpR op = true) (ha : SR D env γ L x h l a) (hb : SR D env γ L x h r b) : SR D env γ L x h (.Compare l [op] [r] pos) (.cmp a op b) := by
  intro A E s V he hv
  first | refine e2_1 (Option.bind_eq_some_iff.mp (show ((evR x L a).bind intV).bind _ = some V from hv)) fun i h1 hv => ?_ | refine e1_2 (Option.bind_eq_some_iff.mp (show ((evR x L a).bind intV).bind _ = some V from hv)) fun i h1 hv => ?_ | refine e0_3 (Option.bind_eq_some_iff.mp (show ((evR x L a).bind intV).bind _ = some V from hv)) fun i h1 hv => ?_ | obtain ⟨i, h1, hv⟩ := Option.bind_eq_some_iff.mp (show ((evR x L a).bind intV).bind _ = some V from hv)
  first | refine e2_1 (Option.bind_eq_some_iff.mp hv) fun j h2 hv => ?_ | refine e1_2 (Option.bind_eq_some_iff.mp hv) fun j h2 hv => ?_ | refine e0_3 (Option.bind_eq_some_iff.mp hv) fun j h2 hv => ?_ | obtain ⟨j, h2, hv⟩ := Option.bind_eq_some_iff.mp hv
  cases op with
  | Eq =>
    obtain rfl := Option.some.inj hv
    refine wpAny_Compare1 (r_int ha he (evI_some h1) fun t tk => r_int hb he (evI_some h2) fun u tk' => ?_) (eqMarks r)
    exact wpAny_eq_int ⟨⟨tk', rfl⟩, (show Rep _ _ _ (.bool (decide (i = j))) _ from rfl)⟩
  | _ => exact Bool.noConfusion hop
theorem r_bin {l r : Expr} {op : Operator} {pos : Pos} {a b : IE} (hop : binR op = true) (ha : SR D env γ L x h l a) (hb : SR D env γ L x h r b) : SR D env γ L x h (.BinOp l op r pos) (.bin op a b) := by
  intro A E s V he hv
  first | refine e2_1 (Option.bind_eq_some_iff.mp (show ((evR x L a).bind intV).bind _ = some V from hv)) fun i h1 hv => ?_ | refine e1_2 (Option.bind_eq_some_iff.mp (show ((evR x L a).bind intV).bind _ = some V from hv)) fun i h1 hv => ?_ | refine e0_3 (Option.bind_eq_some_iff.mp (show ((evR x L a).bind intV).bind _ = some V from hv)) fun i h1 hv => ?_ | obtain ⟨i, h1, hv⟩ := Option.bind_eq_some_iff.mp (show ((evR x L a).bind intV).bind _ = some V from hv)
  first | refine e2_1 (Option.bind_eq_some_iff.mp hv) fun j h2 hv => ?_ | refine e1_2 (Option.bind_eq_some_iff.mp hv) fun j h2 hv => ?_ | refine e0_3 (Option.bind_eq_some_iff.mp hv) fun j h2 hv => ?_ | obtain ⟨j, h2, hv⟩ := Option.bind_eq_some_iff.mp hv
  cases op with
  | Mod =>
    by_cases hj : 0 < j ∧ j < 2 ^ 128
    · rw [show binRV .Mod i j = some (.int (i % j)) from if_pos hj] at hv
      obtain rfl := Option.some.inj hv
      refine wpAny_BinOp (r_int ha he (evI_some h1) fun t tk => r_int hb he (evI_some h2) fun u tk' => ?_)
      refine mod_int' (Int.ne_of_gt hj.1) ⟨⟨_, rfl⟩, ?_⟩
      rw [Int.fmod_eq_emod_of_nonneg _ (Int.le_of_lt hj.1)]
      exact rep_i
    · rw [show binRV .Mod i j = none from if_neg hj] at hv
      exact no_some hv
  | _ => exact Bool.noConfusion hop

theorem soundR (rc : RC D c nm env γ H L x h) : ∀ (n : Nat) (e : Expr) (ie : IE), compR n c nm e = some ie → SR D env γ L x h e ie := by
  intro n
  induction n with
  | zero => intro e ie hc; exact no_some hc
  | succ n ih =>
    intro e ie hc
    cases e with
    | BoolOp o vs p =>
      obtain ⟨h0, hc⟩ := onlyIf_some (show onlyIf (isOr o) _ = some ie from hc)
      first | refine e3_1 (on2_some hc) fun e1 e2 e_130 hc => ?_ | refine e2_2 (on2_some hc) fun e1 e2 e_130 hc => ?_ | refine e1_3 (on2_some hc) fun e1 e2 e_130 hc => ?_ | refine e0_4 (on2_some hc) fun e1 e2 e_130 hc => ?_ | obtain ⟨e1, e2, e_130, hc⟩ := on2_some hc
      obtain rfl := e_130
      first | refine e3_2 (oTwo_some hc) fun a b h1 h2 e_131 => ?_ | refine e2_3 (oTwo_some hc) fun a b h1 h2 e_131 => ?_ | refine e1_4 (oTwo_some hc) fun a b h1 h2 e_131 => ?_ | obtain ⟨a, b, h1, h2, e_131⟩ := oTwo_some hc
      obtain rfl := e_131
      cases o with
      | Or => exact r_or (ih _ _ h1) (ih _ _ h2)
      | And => exact Bool.noConfusion h0
    | Compare l ops rs p =>
      first | refine e2_1 (on1_some (show on1 ops _ = some ie from hc)) fun op e_132 hc => ?_ | refine e1_2 (on1_some (show on1 ops _ = some ie from hc)) fun op e_132 hc => ?_ | refine e0_3 (on1_some (show on1 ops _ = some ie from hc)) fun op e_132 hc => ?_ | obtain ⟨op, e_132, hc⟩ := on1_some (show on1 ops _ = some ie from hc)
      obtain rfl := e_132
      first | refine e2_1 (on1_some hc) fun r e_133 hc => ?_ | refine e1_2 (on1_some hc) fun r e_133 hc => ?_ | refine e0_3 (on1_some hc) fun r e_133 hc => ?_ | obtain ⟨r, e_133, hc⟩ := on1_some hc
      obtain rfl := e_133
      obtain ⟨h0, hc⟩ := onlyIf_some hc
      first | refine e3_2 (oTwo_some hc) fun a b h1 h2 e_134 => ?_ | refine e2_3 (oTwo_some hc) fun a b h1 h2 e_134 => ?_ | refine e1_4 (oTwo_some hc) fun a b h1 h2 e_134 => ?_ | obtain ⟨a, b, h1, h2, e_134⟩ := oTwo_some hc
      obtain rfl := e_134
      exact r_cmp h0 (ih _ _ h1) (ih _ _ h2)
    | BinOp l op r p =>
      obtain ⟨h0, hc⟩ := onlyIf_some (show onlyIf (binR op) _ = some ie from hc)
      first | refine e3_2 (oTwo_some hc) fun a b h1 h2 e_135 => ?_ | refine e2_3 (oTwo_some hc) fun a b h1 h2 e_135 => ?_ | refine e1_4 (oTwo_some hc) fun a b h1 h2 e_135 => ?_ | obtain ⟨a, b, h1, h2, e_135⟩ := oTwo_some hc
      obtain rfl := e_135
      exact r_bin h0 (ih _ _ h1) (ih _ _ h2)
    | Call f as ks p =>
      obtain ⟨h0, hc⟩ := onlyIf_some (show onlyIf ks.isEmpty (callR c nm f as) = some ie from hc)
      obtain rfl : ks = [] := List.isEmpty_iff.mp h0
      first | refine e3_1 (onName_some hc) fun x1 q1 e_136 hc => ?_ | refine e2_2 (onName_some hc) fun x1 q1 e_136 hc => ?_ | refine e1_3 (onName_some hc) fun x1 q1 e_136 hc => ?_ | refine e0_4 (onName_some hc) fun x1 q1 e_136 hc => ?_ | obtain ⟨x1, q1, e_136, hc⟩ := onName_some hc
      obtain rfl := e_136
      first | refine e3_1 (on2_some hc) fun ex ey e_137 hc => ?_ | refine e2_2 (on2_some hc) fun ex ey e_137 hc => ?_ | refine e1_3 (on2_some hc) fun ex ey e_137 hc => ?_ | refine e0_4 (on2_some hc) fun ex ey e_137 hc => ?_ | obtain ⟨ex, ey, e_137, hc⟩ := on2_some hc
      obtain rfl := e_137
      first | refine e3_1 (onName_some hc) fun x2 q2 e_138 hc => ?_ | refine e2_2 (onName_some hc) fun x2 q2 e_138 hc => ?_ | refine e1_3 (onName_some hc) fun x2 q2 e_138 hc => ?_ | refine e0_4 (onName_some hc) fun x2 q2 e_138 hc => ?_ | obtain ⟨x2, q2, e_138, hc⟩ := onName_some hc
      obtain rfl := e_138
      first | refine e3_1 (onName_some hc) fun y q3 e_139 hc => ?_ | refine e2_2 (onName_some hc) fun y q3 e_139 hc => ?_ | refine e1_3 (onName_some hc) fun y q3 e_139 hc => ?_ | refine e0_4 (onName_some hc) fun y q3 e_139 hc => ?_ | obtain ⟨y, q3, e_139, hc⟩ := onName_some hc
      obtain rfl := e_139
      obtain ⟨h0, hc⟩ := onlyIf_some hc
      obtain rfl := Option.some.inj hc
      rw [Bool.and_eq_true, Bool.and_eq_true, Bool.and_eq_true, Bool.and_eq_true] at h0
      exact r_isi rc h0.1.1.1.1 (eq_of_beq h0.1.1.1.2) (eq_of_beq h0.1.1.2) (bnot h0.1.2) h0.2
    | Constant k m p =>
      first | refine e2_1 (Option.map_eq_some_iff.mp hc) fun W hW e_140 => ?_ | refine e1_2 (Option.map_eq_some_iff.mp hc) fun W hW e_140 => ?_ | refine e0_3 (Option.map_eq_some_iff.mp hc) fun W hW e_140 => ?_ | obtain ⟨W, hW, e_140⟩ := Option.map_eq_some_iff.mp hc
      obtain rfl := e_140
      exact r_lit hW
    | Name y p =>
      obtain ⟨h0, hc⟩ := onlyIf_some hc
      first | refine e2_1 (Option.map_eq_some_iff.mp hc) fun i hi e_141 => ?_ | refine e1_2 (Option.map_eq_some_iff.mp hc) fun i hi e_141 => ?_ | refine e0_3 (Option.map_eq_some_iff.mp hc) fun i hi e_141 => ?_ | obtain ⟨i, hi, e_141⟩ := Option.map_eq_some_iff.mp hc
      obtain rfl := e_141
      rw [Bool.and_eq_true, Bool.and_eq_true] at h0
      exact r_name rc (eq_of_beq h0.1.1) (bnot h0.2) hi
    | _ => exact no_some hc
end
end Mine

set_option autoImplicit false
/- Slices of lists and tuples. -/
namespace Mine
open PySem PyProof.Rows

section
variable {prog : Program} {w : World} {A : Around} {E : Value → Shared → Prop} {s : Shared}

theorem part_at {v : Value} {k : Option Int} {Q : Option Int → Shared → Prop} (p : IsPart v k) (h : Q k s) : wpAny (model prog w) A (Builtin.Slice.slicePartIndex v) Q E s := by
  cases p with
  | none => exact slicePart_none h
  | int i t => exact slicePart_int h
theorem adj {k m : Nat} (h : k ≤ m) : Builtin.Slice.sliceAdjust (some (k : Int)) none 1 (m : Int) = ((k : Int), (m : Int)) := by
  have e : (PySem.W.kms_lo (some (k : Int)) m) = k := by
    unfold PySem.W.kms_lo
    simp only
    split <;> omega
  have h1 : ¬ ((1 : Int) < 0) := by decide
  refine Prod.ext ?_ rfl
  simp only [Builtin.Slice.sliceAdjust, h1, if_false]
  split <;> omega
theorem places_one {a b : Nat} : Builtin.Slice.slicePlaces (a : Int) (b : Int) 1 = b - a := by
  unfold Builtin.Slice.slicePlaces
  have h1 : (1 : Int) > 0 := by omega
  simp only [h1, if_true, Int.ediv_one]
  split <;> omega
theorem applied_at {sl : Addr} {vl : Value} {k n : Nat} {Q : Int × Int × Nat → Shared → Prop} (hs : s.heap.IsSliceOf sl vl .none .none) (pl : IsPart vl (some (k : Int))) (hk : k ≤ n) (h : Q ((k : Int), 1, n - k) s) :
    wpAny (model prog w) A (Builtin.Slice.sliceApplied (.ref sl) (pure (n : Int))) Q E s := by
  first | refine e3_1 (id hs) fun os hos hcs hds => ?_ | refine e2_2 (id hs) fun os hos hcs hds => ?_ | refine e1_3 (id hs) fun os hos hcs hds => ?_ | refine e0_4 (id hs) fun os hos hcs hds => ?_ | obtain ⟨os, hos, hcs, hds⟩ := id hs
  unfold Builtin.Slice.sliceApplied Builtin.Slice.sliceFields
  refine wpAny_bind (wpAny_bind (wpAny_field hos hds (x := vl) rfl (wpAny_bind (wpAny_field hos hds (x := .none) rfl (wpAny_bind (wpAny_field hos hds (x := .none) rfl (wpAny_pure ?_)))))))
  refine wpAny_bind (slicePart_none (wpAny_bind (part_at pl (wpAny_bind (slicePart_none (wpAny_bind (wpAny_pure (wpAny_pure ?_))))))))
  have e := adj hk
  show Q ((Builtin.Slice.sliceAdjust (some (k : Int)) none 1 (n : Int)).1, 1, Builtin.Slice.slicePlaces (Builtin.Slice.sliceAdjust (some (k : Int)) none 1 (n : Int)).1 (Builtin.Slice.sliceAdjust (some (k : Int)) none 1 (n : Int)).2 1) s
  rw [e, places_one]
  exact h
theorem fm_congr {α β : Type} {f g : α → Option β} : ∀ {l : List α}, (∀ x ∈ l, f x = g x) → l.filterMap f = l.filterMap g
  | [], _ => rfl
  | a :: r, h => by
    rw [List.filterMap_cons, List.filterMap_cons, h a List.mem_cons_self, fm_congr fun x hx => h x (List.mem_cons_of_mem _ hx)]
theorem pick_drop (xs : List Value) (k : Nat) : ((List.range (xs.length - k)).filterMap fun (j : Nat) => xs.toArray[((k : Int) + (j : Int) * 1).toNat]?) = xs.drop k := by
  have := pick_run xs.toArray k (xs.length - k)
  rw [List.filterMap_map] at this
  refine (fm_congr fun j _ => ?_).trans (this.trans ?_)
  · have : ((k : Int) + (j : Int) * 1).toNat = k + j := by omega
    rw [this]; rfl
  · exact List.take_of_length_le (by rw [List.length_drop]; exact Nat.le_refl _)
theorem getItem_tup {t sl : Addr} {vs : List Value} {vl : Value} {k : Nat} {Q : Value → Shared → Prop} (ht : IsTup s.heap t vs.toArray) (hs : s.heap.IsSliceOf sl vl .none .none) (pl : IsPart vl (some ((k + 1 : Nat) : Int))) (hk : k + 1 ≤ vs.length) (hsz : vs.length ≤ sizeLine)
    (h2 : Q (.ref s.heap.objs.size) { s with heap := s.heap.push { cls := .type "tuple", data := .seq (vs.drop (k + 1)).toArray } }) :
    wpAny (model prog w) A (getItem (.ref t) (.ref sl)) Q E s := by
  have hdrop : sizeOk (.seq (vs.drop (k + 1)).toArray) := by
    show (vs.drop (k + 1)).toArray.size ≤ sizeLine
    rw [List.size_toArray, List.length_drop]; exact Nat.le_trans (Nat.sub_le _ _) hsz
  first | refine e3_1 (id hs) fun os hos hcs hds => ?_ | refine e2_2 (id hs) fun os hos hcs hds => ?_ | refine e1_3 (id hs) fun os hos hcs hds => ?_ | refine e0_4 (id hs) fun os hos hcs hds => ?_ | obtain ⟨os, hos, hcs, hds⟩ := id hs
  have hTs : s.TypeIs (.ref sl) "slice" := ⟨os, hos, hcs⟩
  unfold getItem
  try with_reducible refine wpAny_holding ?_
  first | refine wpAny_bind (wpAny_pure ?_) | skip
  refine wpAny_bind (wpAny_sequenceKey ht.typeIs (by decide) ?_)
  refine wpAny_bind (wpAny_callSpecial?_slot (name := Str.ofString "__getitem__") ht.typeIs slot_tuple_getitem
    (wpAny_call_entry slot_tuple_getitem ht.typeIs entry_tuple_getitem ?_ (args_tuple_getitem _ _)))
  show wpAny _ _ (Builtin.Tuple.tupleItemsOf (.ref t) >>= _) _ _ s
  refine wpAny_bind (tupleItemsOf_ ht ?_)
  refine wpAny_bind (wpAny_typeOf hTs ?_)
  rw [if_pos (by decide)]
  refine wpAny_bind (applied_at hs pl hk ?_)
  show wpAny _ _ (if ((((k + 1 : Nat) : Int) == 0) && _ && _) = true then _ else _) _ _ s
  rw [show (((k + 1 : Nat) : Int) == 0) = false from beq_false_of_ne (by omega), Bool.false_and, Bool.false_and, if_neg Bool.false_ne_true]
  have hz := pick_drop vs (k + 1)
  show wpAny _ _ (Builtin.Tuple.tupleExact (((List.range (vs.length - (k + 1))).filterMap fun (j : Nat) => vs.toArray[(((k + 1 : Nat) : Int) + (j : Int) * 1).toNat]?).toArray) >>= _) _ _ s
  rw [hz]
  first
    | exact wpAny_bind (m := Builtin.Tuple.tupleExact _) (wpAny_newObj_type (wpAny_pure ⟨_, rfl, wpAny_pure h2⟩) hdrop)
    | exact wpAny_bind (m := Builtin.Tuple.tupleExact _) (wpAny_newObj_type (wpAny_bind (wpAny_pure (wpAny_pure ⟨_, rfl, wpAny_pure h2⟩))) hdrop)
    | exact wpAny_bind (wpAny_bind (m := Builtin.Tuple.tupleExact _) (wpAny_newObj_type (wpAny_pure (wpAny_pure ⟨_, rfl, wpAny_pure h2⟩)) hdrop))
    | exact wpAny_bind (wpAny_bind (m := Builtin.Tuple.tupleExact _) (wpAny_newObj_type (wpAny_pure ⟨_, rfl, wpAny_pure h2⟩) hdrop))
end

theorem pick_same {vs : List Value} {k : Nat} (h : k ≤ vs.length) : PySem.W.kms_pick vs (some (k : Int)) none = vs.drop k := by
  have e : PySem.W.kms_lo (some (k : Int)) vs.length = k := by
    unfold PySem.W.kms_lo
    simp only
    split <;> omega
  unfold PySem.W.kms_pick
  rw [e]
  exact List.take_of_length_le (by rw [List.length_drop]; exact Nat.le_refl _)
theorem dropS_some : ∀ {n : Nat} {l m : List V}, dropS n l = some m → m = l.drop n ∧ n ≤ l.length
  | 0, _, _, h => ⟨(Option.some.inj h).symm, Nat.zero_le _⟩
  | _ + 1, [], _, h => no_some h
  | n + 1, a :: l, m, h => by
    obtain ⟨h1, h2⟩ := dropS_some (n := n) (l := l) h
    exact ⟨h1, Nat.succ_le_succ h2⟩
theorem cutL_some {lo hi : V} {l m : List V} (h : cutL lo hi l = some m) : ∃ k : Nat, lo = .int ((k + 1 : Nat) : Int) ∧ hi = .none ∧ m = l.drop (k + 1) ∧ k + 1 ≤ l.length := by
  unfold cutL at h
  cases e : cutN lo hi with
  | zero => rw [e] at h; exact no_some h
  | succ n =>
    rw [e] at h
    have hn : lo = .int ((n + 1 : Nat) : Int) ∧ hi = .none := by
      cases hi with
      | none =>
        cases lo with
        | int k =>
          have e : k.toNat = n + 1 := e
          exact ⟨congrArg V.int (by omega), rfl⟩
        | _ => exact Nat.noConfusion e
      | _ => exact Nat.noConfusion e
    exact ⟨n, hn.1, hn.2, dropS_some h⟩
section
variable {D : Wd} {γ : List Addr} {H : Hp} {s : Shared} {A : Around} {E : Value → Shared → Prop}
theorem rep_int {h : Heap} {v : Value} {i : Int} (r : Rep D γ h v (.int i)) : IsPart v (some i) := by
  simp only [Rep] at r; obtain ⟨t, rfl⟩ := r; exact .int i t
theorem rep_none {h : Heap} {v : Value} (r : Rep D γ h v .none) : v = .none := by
  simp only [Rep] at r; exact r
/- a slice behind the slice object: a list or a tuple is made -/
theorem post_list {vl vu vt : Value} {zs : List Value} {l : List V} {Q : V → Hp → Prop} (R : HRel D γ H s.heap) (rs : Reps D γ s.heap zs l) (hz : l.length ≤ 2000000) (q : Q (.ref H.length) (H ++ [.list l])) :
    PostV D γ s Q (.ref (s.heap.objs.size + 1)) { s with heap := (s.heap.push { cls := .type "slice", data := .fields #[vl, vu, vt] }).push { cls := .type "list", data := .seq zs.toArray } } := by
  have e1 := Heap.get?_push_size (s.heap.push { cls := .type "slice", data := .fields #[vl, vu, vt] }) (o := { cls := .type "list", data := .seq zs.toArray }) rfl
  rw [Heap.size_push] at e1
  have hn1 : s.heap.get? (s.heap.objs.size + 1) = none := by
    cases q : s.heap.get? (s.heap.objs.size + 1) with
    | none => rfl
    | some o => exact absurd (Heap.lt_size q) (Nat.not_lt.mpr (Nat.le_succ _))
  exact PostV.addList (tk := s.toks) R rs hz (fun b o e => Heap.get?_push_of_some _ (Heap.get?_push_of_some _ e)) hn1 e1 q
theorem post_tup {vl vu vt : Value} {zs : List Value} {l : List V} {Q : V → Hp → Prop} (R : HRel D γ H s.heap) (rs : Reps D γ s.heap zs l) (hz : l.length ≤ 2000000) (q : Q (.tup l) H) :
    PostV D γ s Q (.ref (s.heap.objs.size + 1)) { s with heap := (s.heap.push { cls := .type "slice", data := .fields #[vl, vu, vt] }).push { cls := .type "tuple", data := .seq zs.toArray } } := by
  have e1 := Heap.get?_push_size (s.heap.push { cls := .type "slice", data := .fields #[vl, vu, vt] }) (o := { cls := .type "tuple", data := .seq zs.toArray }) rfl
  rw [Heap.size_push] at e1
  have hk : ∀ b o, s.heap.get? b = some o → ((s.heap.push { cls := .type "slice", data := .fields #[vl, vu, vt] }).push { cls := .type "tuple", data := .seq zs.toArray }).get? b = some o := fun b o e => Heap.get?_push_of_some _ (Heap.get?_push_of_some _ e)
  refine PostV.grown (tk := s.toks) R hk ?_ q
  simp only [Rep]
  exact ⟨_, zs, rfl, ⟨0, e1, by rw [rs.length]; exact hz⟩, Reps.mono ⟨[], by simp⟩ (fun _ _ => tupAt_grow hk) rs⟩
theorem part_val {v : Value} {W : V} {l : Option Int} (r : Rep D γ s.heap v W) (h : optInt W = some l) : ∃ p : Option (Int × Tok), v = partValue p ∧ p.map (·.1) = l := by
  cases W <;> first | cases h | skip
  · simp only [Rep] at r; subst r; exact ⟨none, rfl, rfl⟩
  · simp only [Rep] at r; obtain ⟨t, rfl⟩ := r; exact ⟨some (_, t), rfl, rfl⟩
theorem slice_ok {value : Expr} {lo hi : Option Expr} {p : Pos} {o vl vh : Value} {Vo Vl Vh : V} {Q : V → Hp → Prop} (R : HRel D γ H s.heap) (ro : Rep D γ s.heap o Vo) (rl : Rep D γ s.heap vl Vl) (rh : Rep D γ s.heap vh Vh) (h : pSlice Vo Vl Vh H Q) :
    wpAny D.M A (subscriptTail value (.Slice lo hi none p) o (.ref s.heap.objs.size)) (PostV D γ s Q) E { s with heap := s.heap.push { cls := .type "slice", data := .fields #[vl, vh, .none] } } := by
  cases Vo with
  | ref i =>
    first | refine e2_1 (oK_elim h) fun xs h1 h => ?_ | refine e1_2 (oK_elim h) fun xs h1 h => ?_ | refine e0_3 (oK_elim h) fun xs h1 h => ?_ | obtain ⟨xs, h1, h⟩ := oK_elim h
    first | refine e2_1 (oK_elim h) fun ys h2 q => ?_ | refine e1_2 (oK_elim h) fun ys h2 q => ?_ | refine e0_3 (oK_elim h) fun ys h2 q => ?_ | obtain ⟨ys, h2, q⟩ := oK_elim h
    first | refine e3_2 (cutL_some h2) fun k e_142 e_143 e_144 hk => ?_ | refine e2_3 (cutL_some h2) fun k e_142 e_143 e_144 hk => ?_ | refine e1_4 (cutL_some h2) fun k e_142 e_143 e_144 hk => ?_ | obtain ⟨k, e_142, e_143, e_144, hk⟩ := cutL_some h2
    obtain rfl := e_142
    obtain rfl := e_143
    obtain rfl := e_144
    cases rep_none rh
    simp only [Rep] at ro
    first | refine e2_1 ro fun a hi3 e_145 => ?_ | refine e1_2 ro fun a hi3 e_145 => ?_ | refine e0_3 ro fun a hi3 e_145 => ?_ | obtain ⟨a, hi3, e_145⟩ := ro
    obtain rfl := e_145
    first | refine e3_2 (R.list hi3 h1) fun vs m e rs z => ?_ | refine e2_3 (R.list hi3 h1) fun vs m e rs z => ?_ | refine e1_4 (R.list hi3 h1) fun vs m e rs z => ?_ | obtain ⟨vs, m, e, rs, z⟩ := R.list hi3 h1
    have hL : s.heap.IsList a vs.toArray := ⟨_, e, rfl, m, rfl⟩
    have hl := rs.length
    refine tail_any (ops := [.ref s.heap.objs.size, .ref a]) (s := { s with heap := s.heap.push { cls := .type "slice", data := .fields #[vl, .none, .none] } }) (hL.push _).typeIs slot_list_getitem.lookup (wpAny_getItem_list_slice (hL.push _) (Heap.IsSliceOf.new ..) (rep_int rl) .none .none (by simp) ?_ (by simp [sizeLine_eq]; omega)) rfl
    rw [Heap.size_push, PySem.W.kms_pick_eq, pick_same (vs := vs) (by omega)]
    exact post_list R (rs.drop _) (by rw [List.length_drop]; omega) q
  | tup xs =>
    first | refine e2_1 (oK_elim h) fun ys h2 q => ?_ | refine e1_2 (oK_elim h) fun ys h2 q => ?_ | refine e0_3 (oK_elim h) fun ys h2 q => ?_ | obtain ⟨ys, h2, q⟩ := oK_elim h
    first | refine e3_2 (cutL_some h2) fun k e_146 e_147 e_148 hk => ?_ | refine e2_3 (cutL_some h2) fun k e_146 e_147 e_148 hk => ?_ | refine e1_4 (cutL_some h2) fun k e_146 e_147 e_148 hk => ?_ | obtain ⟨k, e_146, e_147, e_148, hk⟩ := cutL_some h2
    obtain rfl := e_146
    obtain rfl := e_147
    obtain rfl := e_148
    cases rep_none rh
    simp only [Rep] at ro
    first | refine e3_2 ro fun a vs e_149 ta rs => ?_ | refine e2_3 ro fun a vs e_149 ta rs => ?_ | refine e1_4 ro fun a vs e_149 ta rs => ?_ | obtain ⟨a, vs, e_149, ta, rs⟩ := ro
    obtain rfl := e_149
    have hl := rs.length
    have hz := ta.size
    have tp := tupAt_grow (h' := s.heap.push { cls := .type "slice", data := .fields #[vl, .none, .none] }) (fun _ _ e => Heap.get?_push_of_some _ e) ta
    refine tail_any (ops := [.ref s.heap.objs.size, .ref a]) (s := { s with heap := s.heap.push { cls := .type "slice", data := .fields #[vl, .none, .none] } }) tp.isTup.typeIs slot_tuple_getitem.lookup (getItem_tup tp.isTup (Heap.IsSliceOf.new ..) (rep_int rl) (by omega) (by rw [sizeLine_eq]; omega) ?_) rfl
    rw [Heap.size_push]
    exact post_tup R (rs.drop _) (by rw [List.length_drop]; omega) q
  | str x =>
    first | refine e2_1 (oK_elim h) fun l h2 h => ?_ | refine e1_2 (oK_elim h) fun l h2 h => ?_ | refine e0_3 (oK_elim h) fun l h2 h => ?_ | obtain ⟨l, h2, h⟩ := oK_elim h
    first | refine e2_1 (oK_elim h) fun h' h3 q => ?_ | refine e1_2 (oK_elim h) fun h' h3 q => ?_ | refine e0_3 (oK_elim h) fun h' h3 q => ?_ | obtain ⟨h', h3, q⟩ := oK_elim h
    simp only [Rep] at ro
    first | refine e2_1 ro fun t e_150 f => ?_ | refine e1_2 ro fun t e_150 f => ?_ | refine e0_3 ro fun t e_150 f => ?_ | obtain ⟨t, e_150, f⟩ := ro
    obtain rfl := e_150
    first | refine e2_1 (part_val rl h2) fun pl e_151 e_152 => ?_ | refine e1_2 (part_val rl h2) fun pl e_151 e_152 => ?_ | refine e0_3 (part_val rl h2) fun pl e_151 e_152 => ?_ | obtain ⟨pl, e_151, e_152⟩ := part_val rl h2
    obtain rfl := e_151
    obtain rfl := e_152
    first | refine e2_1 (part_val rh h3) fun ph e_153 e_154 => ?_ | refine e1_2 (part_val rh h3) fun ph e_153 e_154 => ?_ | refine e0_3 (part_val rh h3) fun ph e_153 e_154 => ?_ | obtain ⟨ph, e_153, e_154⟩ := part_val rh h3
    obtain rfl := e_153
    obtain rfl := e_154
    refine tail_any (s := { s with heap := s.heap.push { cls := .type "slice", data := .fields #[partValue pl, partValue ph, .none] } }) (typeIs_str _ _ _) F.slot_str_getitem.lookup (wpAny_getItem_str_slice (l := pl) (u := ph) (st := none) ⟨_, Heap.get?_push_size _ rfl, rfl, rfl⟩ rfl
      (post_val_or_str ⟨Nat.le_trans (Txt.slice_le x _ _) (by have := f.1; rw [sizeLine_eq]; omega), fun t' k => ?_⟩)) rfl
    exact PostV.grown R (fun _ _ e => Heap.get?_push_of_some _ e) (by simp only [Rep]; exact ⟨_, rfl, fine_slice f _ _⟩) q
  | _ => exact h.elim
end
end Mine

set_option autoImplicit false
/- What is iterated over: the iterator's state, abstractly. -/
namespace Mine
open PySem PyProof.Rows

structure Itr (D : Wd) (A : Around) (I : Addr) (fp : List Addr) (l : List V) (st : Hp → Prop) (Inv : List Addr → Nat → Heap → Prop) : Prop where
  mem : I ∈ fp
  frame : ∀ γ γ' i h h', Inv γ i h → (∃ δ, γ' = γ ++ δ) → (∀ b ∈ fp, ∀ o, h.get? b = some o → h'.get? b = some o) → (∀ a ws, TupAt h a ws → TupAt h' a ws) → Inv γ' i h'
  notTup : ∀ γ i h ws, Inv γ i h → ¬ TupAt h I ws
  nd : ∀ γ i h, Inv γ i h → ∀ b ∈ fp, ∀ o, h.get? b = some o → NotD o
  next : ∀ γ H (s : Shared) (i : Nat) (W : V) (Q : Option Value → Shared → Prop) (E : Value → Shared → Prop), l[i]? = some W → HRel D γ H s.heap → I ∉ γ → st H → Inv γ i s.heap →
    (∀ v h' tk, (∃ o, h'.get? I = some o) → (∀ b o, b ≠ I → s.heap.get? b = some o → h'.get? b = some o) → Inv γ (i + 1) h' → Rep D γ h' v W → Q (some v) { s with heap := h', toks := tk }) → wpAny D.M A (pyNext (.ref I)) Q E s
  done : ∀ γ H (s : Shared) (Q : Option Value → Shared → Prop) (E : Value → Shared → Prop), HRel D γ H s.heap → st H → Inv γ l.length s.heap →
    (∀ h' tk, (∀ b o, b ≠ I → s.heap.get? b = some o → h'.get? b = some o) → Q none { s with heap := h', toks := tk }) → wpAny D.M A (pyNext (.ref I)) Q E s
  self : ∀ γ i (s : Shared) (Q : Value → Shared → Prop) (E : Value → Shared → Prop), Inv γ i s.heap → Q (.ref I) s → wpAny D.M A (pyIter (.ref I)) Q E s

section
variable {D : Wd} {A : Around} {k : Nat}

theorem tupAt_but {h h' : Heap} {I : Addr} (hk : ∀ b o, b ≠ I → h.get? b = some o → h'.get? b = some o) (hn : ∀ ws, ¬ TupAt h I ws) {a : Addr} {ws : List Value} (x : TupAt h a ws) : TupAt h' a ws := by
  first | refine e2_1 (id x) fun n e z => ?_ | refine e1_2 (id x) fun n e z => ?_ | refine e0_3 (id x) fun n e z => ?_ | obtain ⟨n, e, z⟩ := id x
  exact ⟨n, hk _ _ (by rintro rfl; exact hn _ x) e, z⟩

theorem HRel.but {γ : List Addr} {H : Hp} {h h' : Heap} {I : Addr} (R : HRel D γ H h) (hk : ∀ b o, b ≠ I → h.get? b = some o → h'.get? b = some o) (hI : I ∉ γ) (hB : D.hB.get? I = none) (hn : ∀ ws, ¬ TupAt h I ws) (hF : (∃ o, h.get? I = some o ∧ NotD o) ∨ (∃ o, h'.get? I = some o ∧ ¬ NotD o)) : HRel D γ H h' where
  len := R.len
  nodup := R.nodup
  objs := fun i a o e1 e2 => by
    have := R.objs i a o e1 e2
    have ha : a ≠ I := by rintro rfl; exact hI (List.mem_of_getElem? e1)
    cases o with
    | list xs =>
      first | refine e3_2 this fun vs n e r z => ?_ | refine e2_3 this fun vs n e r z => ?_ | refine e1_4 this fun vs n e r z => ?_ | obtain ⟨vs, n, e, r, z⟩ := this
      exact ⟨vs, n, hk _ _ ha e, Reps.mono ⟨[], by simp⟩ (fun _ _ => tupAt_but hk hn) r, z⟩
  fresh := R.fresh
  base := fun b o e => hk _ _ (by rintro rfl; rw [hB] at e; cases e) (R.base b o e)
  frs := R.frs.but hk hF

theorem HRel.butN {γ : List Addr} {H : Hp} {h h' : Heap} {I : Addr} (R : HRel D γ H h) (hk : ∀ b o, b ≠ I → h.get? b = some o → h'.get? b = some o) (hI : I ∉ γ) (hB : D.hB.get? I = none) (hn : ∀ ws, ¬ TupAt h I ws) (hF : ∀ e ∈ D.fr, e.frame ≠ some I) : HRel D γ H h' where
  len := R.len
  nodup := R.nodup
  objs := fun i a o e1 e2 => by
    have := R.objs i a o e1 e2
    have ha : a ≠ I := by rintro rfl; exact hI (List.mem_of_getElem? e1)
    cases o with
    | list xs =>
      first | refine e3_2 this fun vs n e r z => ?_ | refine e2_3 this fun vs n e r z => ?_ | refine e1_4 this fun vs n e r z => ?_ | obtain ⟨vs, n, e, r, z⟩ := this
      exact ⟨vs, n, hk _ _ ha e, Reps.mono ⟨[], by simp⟩ (fun _ _ => tupAt_but hk hn) r, z⟩
  fresh := R.fresh
  base := fun b o e => hk _ _ (by rintro rfl; rw [hB] at e; cases e) (R.base b o e)
  frs := R.frs.butN hk hF

noncomputable def rangeInv (I : Addr) (a : Int) (n : Nat) (_ : List Addr) (i : Nat) (h : Heap) : Prop := IsRangeIter h I (a + (i : Int)) ((n : Int) - (i : Int)) 1

theorem itr_range (hA : AOk D k A) (I : Addr) (a : Int) (n : Nat) : Itr D A I [I] ((List.range n).map fun (j : Nat) => V.int (a + (j : Int))) (fun _ => True) (rangeInv I a n) where
  mem := by simp
  frame := fun γ γ' i h h' iv _ hk _ => hk I (by simp) _ iv
  notTup := fun γ i h ws iv t => by
    first | refine e2_1 t fun m e _ => ?_ | refine e1_2 t fun m e _ => ?_ | refine e0_3 t fun m e _ => ?_ | obtain ⟨m, e, _⟩ := t
    have iv' : h.get? I = some _ := iv
    rw [iv'] at e; simp at e
  nd := fun γ i h iv b hb o e => by
    have iv' : h.get? I = some _ := iv
    rw [List.mem_singleton.mp hb, iv'] at e; cases e; exact notD_fields rfl
  next := fun γ H s i W Q E hl R hI _ iv hQ => by
    have hi : i < n := by
      have := (List.getElem?_eq_some_iff.mp hl).1; simpa using this
    rw [List.getElem?_map, List.getElem?_range hi] at hl
    simp at hl
    refine wpAny_pyNext_range_item iv (by omega) fun h' hit hs => hQ _ h' _ ⟨_, hit⟩ (fun b o hb e => hs.extBut b o hb e) ?_ ?_
    · show IsRangeIter h' I (a + ((i + 1 : Nat) : Int)) ((n : Int) - ((i + 1 : Nat) : Int)) 1
      have e1 : a + ((i + 1 : Nat) : Int) = a + (i : Int) + 1 := by omega
      have e2 : (n : Int) - ((i + 1 : Nat) : Int) = (n : Int) - (i : Int) - 1 := by omega
      rw [e1, e2]; exact hit
    · subst hl; exact rep_i
  done := fun γ H s Q E R _ iv hQ => by
    have iv' : IsRangeIter s.heap I (a + (n : Int)) ((n : Int) - (n : Int)) 1 := by
      have : ((List.range n).map fun (j : Nat) => V.int (a + (j : Int))).length = n := by simp
      rw [this] at iv; exact iv
    exact wpAny_pyNext_range_end hA.handled iv' (by omega) fun h' he => hQ h' s.toks fun b o hb e => he b o hb e
  self := fun γ i s Q E iv q => (Walks.range (prog := D.prog) (w := D.w) (A := A) hA.handled I a 1 n).self i s Q E (by
    show IsRangeIter s.heap I (a + (i : Nat) * 1) ((n : Int) - (i : Nat)) 1
    rw [Int.mul_one]; exact iv) q

noncomputable def tupInv (mg : Wd) (I t : Addr) (vs : List Value) (l : List V) (γ : List Addr) (i : Nat) (h : Heap) : Prop :=
  h.IsTupleIter I t i ∧ TupAt h t vs ∧ Reps mg γ h vs l

theorem itr_tup (hA : AOk D k A) (I t : Addr) (hne : t ≠ I) (vs : List Value) (l : List V) : Itr D A I [I, t] l (fun _ => True) (tupInv D I t vs l) where
  mem := by simp
  frame := fun γ γ' i h h' iv hg hk ht => by
    first | refine e2_1 iv fun e_155 b r => ?_ | refine e1_2 iv fun e_155 b r => ?_ | refine e0_3 iv fun e_155 b r => ?_ | obtain ⟨e_155, b, r⟩ := iv
    obtain ⟨o, e, c, d⟩ := e_155
    exact ⟨⟨o, hk I (by simp) o e, c, d⟩, ht _ _ b, Reps.mono hg ht r⟩
  notTup := fun γ i h ws iv x => by
    obtain ⟨⟨o, e, c, d⟩, _⟩ := iv
    first | refine e2_1 x fun m e' _ => ?_ | refine e1_2 x fun m e' _ => ?_ | refine e0_3 x fun m e' _ => ?_ | obtain ⟨m, e', _⟩ := x
    rw [e] at e'; cases e'; simp at c
  nd := fun γ i h iv b hb o e => by
    first | refine e2_1 iv fun e_156 e_157 _ => ?_ | refine e1_2 iv fun e_156 e_157 _ => ?_ | refine e0_3 iv fun e_156 e_157 _ => ?_ | obtain ⟨e_156, e_157, _⟩ := iv
    obtain ⟨o', e', c, d⟩ := e_156
    obtain ⟨n, e2, _⟩ := e_157
    rcases List.mem_cons.mp hb with q | q
    · rw [q, e'] at e; cases e; exact notD_fields d
    · rw [List.mem_singleton.mp q, e2] at e; cases e; exact notD_seq rfl
  next := fun γ H s i W Q E hl R hI _ iv hQ => by
    first | refine e2_1 iv fun it ta rs => ?_ | refine e1_2 iv fun it ta rs => ?_ | refine e0_3 iv fun it ta rs => ?_ | obtain ⟨it, ta, rs⟩ := iv
    have hnt : ∀ ws, ¬ TupAt s.heap I ws := fun ws x => by
      first | refine e3_1 it fun o e c d => ?_ | refine e2_2 it fun o e c d => ?_ | refine e1_3 it fun o e c d => ?_ | refine e0_4 it fun o e c d => ?_ | obtain ⟨o, e, c, d⟩ := it
      first | refine e2_1 x fun m e' _ => ?_ | refine e1_2 x fun m e' _ => ?_ | refine e0_3 x fun m e' _ => ?_ | obtain ⟨m, e', _⟩ := x
      rw [e] at e'; cases e'; simp at c
    first | refine e2_1 (rs.get hl) fun v hv rv => ?_ | refine e1_2 (rs.get hl) fun v hv rv => ?_ | refine e0_3 (rs.get hl) fun v hv rv => ?_ | obtain ⟨v, hv, rv⟩ := rs.get hl
    refine wpAny_pyNext_tuple_item it ta.isTuple (x := v) (by simpa using hv) fun h' hit hs => ?_
    have hk : ∀ b o, b ≠ I → s.heap.get? b = some o → h'.get? b = some o := fun b o hb e => hs.extBut b o hb e
    have ht : ∀ a ws, TupAt s.heap a ws → TupAt h' a ws := fun _ _ => tupAt_but hk hnt
    exact hQ v h' s.toks (let ⟨o, e, _⟩ := hit; ⟨o, e⟩) hk ⟨hit, ht _ _ ta, Reps.mono ⟨[], by simp⟩ ht rs⟩ (Rep.mono ⟨[], by simp⟩ ht rv)
  done := fun γ H s Q E R _ iv hQ => by
    first | refine e2_1 iv fun it ta rs => ?_ | refine e1_2 iv fun it ta rs => ?_ | refine e0_3 iv fun it ta rs => ?_ | obtain ⟨it, ta, rs⟩ := iv
    exact wpAny_pyNext_tuple_end hA.handled it ta.isTuple (by simp [rs.length]) fun h' he => hQ h' s.toks fun b o hb e => he b o hb e
  self := fun γ i s Q E iv q => (Walks.tuple (prog := D.prog) (w := D.w) (A := A) hA.handled I t hne vs.toArray).self i s Q E ⟨iv.1, iv.2.1.isTuple⟩ q

noncomputable def lstInv (I a : Addr) (j : Nat) (γ : List Addr) (i : Nat) (h : Heap) : Prop := h.IsListIter I a i ∧ γ[j]? = some a

theorem itr_list (hA : AOk D k A) (I a : Addr) (j : Nat) (l : List V) : Itr D A I [I] l (fun H => listAt H j = some l) (lstInv I a j) where
  mem := by simp
  frame := fun γ γ' i h h' iv hg hk ht => by
    obtain ⟨⟨o, e, c, d⟩, b⟩ := iv
    exact ⟨⟨o, hk I (by simp) o e, c, d⟩, getElem?_ext hg b⟩
  notTup := fun γ i h ws iv x => by
    obtain ⟨⟨o, e, c, d⟩, _⟩ := iv
    first | refine e2_1 x fun m e' _ => ?_ | refine e1_2 x fun m e' _ => ?_ | refine e0_3 x fun m e' _ => ?_ | obtain ⟨m, e', _⟩ := x
    rw [e] at e'; cases e'; simp at c
  nd := fun γ i h iv b hb o e => by
    obtain ⟨⟨o', e', c, d⟩, _⟩ := iv
    rw [List.mem_singleton.mp hb, e'] at e; cases e; exact notD_fields d
  next := fun γ H s i W Q E hl R hI hst iv hQ => by
    obtain ⟨it, hj⟩ := iv
    have hnt : ∀ ws, ¬ TupAt s.heap I ws := fun ws x => by
      first | refine e3_1 it fun o e c d => ?_ | refine e2_2 it fun o e c d => ?_ | refine e1_3 it fun o e c d => ?_ | refine e0_4 it fun o e c d => ?_ | obtain ⟨o, e, c, d⟩ := it
      first | refine e2_1 x fun m e' _ => ?_ | refine e1_2 x fun m e' _ => ?_ | refine e0_3 x fun m e' _ => ?_ | obtain ⟨m, e', _⟩ := x
      rw [e] at e'; cases e'; simp at c
    first | refine e3_2 (R.list hj hst) fun vs n e rs z => ?_ | refine e2_3 (R.list hj hst) fun vs n e rs z => ?_ | refine e1_4 (R.list hj hst) fun vs n e rs z => ?_ | obtain ⟨vs, n, e, rs, z⟩ := R.list hj hst
    first | refine e2_1 (rs.get hl) fun v hv rv => ?_ | refine e1_2 (rs.get hl) fun v hv rv => ?_ | refine e0_3 (rs.get hl) fun v hv rv => ?_ | obtain ⟨v, hv, rv⟩ := rs.get hl
    refine wpAny_pyNext_list_item it (items := vs.toArray) ⟨_, e, rfl, n, rfl⟩ (x := v) (by simpa using hv) fun h' hit hs => ?_
    have hk : ∀ b o, b ≠ I → s.heap.get? b = some o → h'.get? b = some o := fun b o hb e => hs.extBut b o hb e
    have ht : ∀ a ws, TupAt s.heap a ws → TupAt h' a ws := fun _ _ => tupAt_but hk hnt
    exact hQ v h' s.toks (let ⟨o, e, _⟩ := hit; ⟨o, e⟩) hk ⟨hit, hj⟩ (Rep.mono ⟨[], by simp⟩ ht rv)
  done := fun γ H s Q E R hst iv hQ => by
    obtain ⟨it, hj⟩ := iv
    first | refine e3_2 (R.list hj hst) fun vs n e rs z => ?_ | refine e2_3 (R.list hj hst) fun vs n e rs z => ?_ | refine e1_4 (R.list hj hst) fun vs n e rs z => ?_ | obtain ⟨vs, n, e, rs, z⟩ := R.list hj hst
    exact wpAny_pyNext_list_end hA.handled it (items := vs.toArray) ⟨_, e, rfl, n, rfl⟩ (by simp [rs.length]) fun h' he => hQ h' s.toks fun b o hb e => he b o hb e
  self := fun γ i s Q E iv q => wpAny_pyIter_listiter iv.1 q

noncomputable def revInv (I a : Addr) (j : Nat) (l : List V) (γ : List Addr) (i : Nat) (h : Heap) : Prop := h.IsRevIter I a ((l.length : Int) - 1 - (i : Int)) ∧ γ[j]? = some a

theorem itr_rev (hA : AOk D k A) (I a : Addr) (j : Nat) (l : List V) : Itr D A I [I] l.reverse (fun H => listAt H j = some l) (revInv I a j l) where
  mem := by simp
  frame := fun γ γ' i h h' iv hg hk ht => by
    obtain ⟨⟨o, e, c, d⟩, b⟩ := iv
    exact ⟨⟨o, hk I (by simp) o e, c, d⟩, getElem?_ext hg b⟩
  notTup := fun γ i h ws iv x => by
    obtain ⟨⟨o, e, c, d⟩, _⟩ := iv
    first | refine e2_1 x fun m e' _ => ?_ | refine e1_2 x fun m e' _ => ?_ | refine e0_3 x fun m e' _ => ?_ | obtain ⟨m, e', _⟩ := x
    rw [e] at e'; cases e'; simp at c
  nd := fun γ i h iv b hb o e => by
    obtain ⟨⟨o', e', c, d⟩, _⟩ := iv
    rw [List.mem_singleton.mp hb, e'] at e; cases e; exact notD_fields d
  next := fun γ H s i W Q E hl R hI hst iv hQ => by
    obtain ⟨it, hj⟩ := iv
    have hnt : ∀ ws, ¬ TupAt s.heap I ws := fun ws x => by
      first | refine e3_1 it fun o e c d => ?_ | refine e2_2 it fun o e c d => ?_ | refine e1_3 it fun o e c d => ?_ | refine e0_4 it fun o e c d => ?_ | obtain ⟨o, e, c, d⟩ := it
      first | refine e2_1 x fun m e' _ => ?_ | refine e1_2 x fun m e' _ => ?_ | refine e0_3 x fun m e' _ => ?_ | obtain ⟨m, e', _⟩ := x
      rw [e] at e'; cases e'; simp at c
    first | refine e3_2 (R.list hj hst) fun vs n e rs z => ?_ | refine e2_3 (R.list hj hst) fun vs n e rs z => ?_ | refine e1_4 (R.list hj hst) fun vs n e rs z => ?_ | obtain ⟨vs, n, e, rs, z⟩ := R.list hj hst
    have hi : i < l.length := by have := (List.getElem?_eq_some_iff.mp hl).1; simpa using this
    rw [List.getElem?_reverse hi] at hl
    first | refine e2_1 (rs.get hl) fun v hv rv => ?_ | refine e1_2 (rs.get hl) fun v hv rv => ?_ | refine e0_3 (rs.get hl) fun v hv rv => ?_ | obtain ⟨v, hv, rv⟩ := rs.get hl
    have e1 : (l.length : Int) - 1 - (i : Int) = ((l.length - 1 - i : Nat) : Int) := by omega
    rw [e1] at it
    refine wpAny_pyNext_rev_item it (items := vs.toArray) ⟨_, e, rfl, n, rfl⟩ (x := v) (by simpa using hv) fun h' hit hs => ?_
    have hk : ∀ b o, b ≠ I → s.heap.get? b = some o → h'.get? b = some o := fun b o hb e => hs.extBut b o hb e
    have ht : ∀ a ws, TupAt s.heap a ws → TupAt h' a ws := fun _ _ => tupAt_but hk hnt
    refine hQ v h' s.toks (let ⟨o, e, _⟩ := hit; ⟨o, e⟩) hk ⟨?_, hj⟩ (Rep.mono ⟨[], by simp⟩ ht rv)
    have e2 : (l.length : Int) - 1 - ((i + 1 : Nat) : Int) = ((l.length - 1 - i : Nat) : Int) - 1 := by omega
    rw [e2]; exact hit
  done := fun γ H s Q E R hst iv hQ => by
    obtain ⟨it, hj⟩ := iv
    have e1 : (l.length : Int) - 1 - ((l.reverse.length : Nat) : Int) = -1 := by simp; omega
    rw [e1] at it
    exact wpAny_pyNext_rev_end hA.handled it fun h' he => hQ h' s.toks fun b o hb e => he b o hb e
  self := fun γ i s Q E iv q => wpAny_pyIter_revIter iv.1 q

/- what a source hands to a loop -/
noncomputable def SrcPost (D : Wd) (A : Around) (γ : List Addr) (s : Shared) (K : List V → (Hp → Prop) → Hp → Prop) (it : Value) (s2 : Shared) : Prop :=
  ∃ γ2 H2 I fp l st Inv, it = .ref I ∧ Stp [] γ γ2 s s2 ∧ HRel D γ2 H2 s2.heap ∧ Itr D A I fp l st Inv ∧ Inv γ2 0 s2.heap ∧ (∀ b ∈ fp, b ∉ γ2 ∧ (∃ o, s2.heap.get? b = some o) ∧ (b = I ∨ ∃ ws, TupAt s2.heap b ws)) ∧ s.heap.get? I = none ∧ st H2 ∧ l.length ≤ 2000000 ∧ K l st H2

theorem itr_str (hA : AOk D k A) (I : Addr) (x : Str) (t : Tok) (ha : x.cps.all (· < 128) = true) : Itr D A I [I] (x.cps.toList.map fun c => V.str ⟨#[c]⟩) (fun _ => True) (fun _ i h => h.IsStrIter I "str_ascii_iterator" x t i) where
  mem := by simp
  frame := fun γ γ' i h h' iv _ hk _ => by
    first | refine e3_1 iv fun o e c d => ?_ | refine e2_2 iv fun o e c d => ?_ | refine e1_3 iv fun o e c d => ?_ | refine e0_4 iv fun o e c d => ?_ | obtain ⟨o, e, c, d⟩ := iv
    exact ⟨o, hk I (by simp) o e, c, d⟩
  notTup := fun γ i h ws iv q => by
    first | refine e3_1 iv fun o e c d => ?_ | refine e2_2 iv fun o e c d => ?_ | refine e1_3 iv fun o e c d => ?_ | refine e0_4 iv fun o e c d => ?_ | obtain ⟨o, e, c, d⟩ := iv
    first | refine e2_1 q fun m e' _ => ?_ | refine e1_2 q fun m e' _ => ?_ | refine e0_3 q fun m e' _ => ?_ | obtain ⟨m, e', _⟩ := q
    rw [e] at e'; cases e'; simp at c
  nd := fun γ i h iv b hb o e => by
    first | refine e3_1 iv fun o' e' c d => ?_ | refine e2_2 iv fun o' e' c d => ?_ | refine e1_3 iv fun o' e' c d => ?_ | refine e0_4 iv fun o' e' c d => ?_ | obtain ⟨o', e', c, d⟩ := iv
    rw [List.mem_singleton.mp hb, e'] at e; cases e; exact notD_fields d
  next := fun γ H s i W Q E hl R hI _ iv hQ => by
    rw [List.getElem?_map, Option.map_eq_some_iff] at hl
    first | refine e2_1 hl fun c hc e_158 => ?_ | refine e1_2 hl fun c hc e_158 => ?_ | refine e0_3 hl fun c hc e_158 => ?_ | obtain ⟨c, hc, e_158⟩ := hl
    obtain rfl := e_158
    have hc' : x.cps[i]? = some c := by simpa using hc
    refine wpAny_pyNext_ascii_item iv hc' fun h' hit hs => ?_
    refine hQ _ h' _ (let ⟨o, e, _⟩ := hit; ⟨o, e⟩) (fun b o hb e => hs.extBut b o hb e) hit ?_
    have hlt : c < 128 := by simpa using (Array.all_eq_true'.mp ha) c (Array.mem_of_getElem? hc')
    exact rep_s ⟨by show 1 ≤ 2000000; decide, strOk_iff.mpr fun d hd => by simp at hd; omega⟩
  done := fun γ H s Q E R _ iv hQ => wpAny_pyNext_ascii_end hA.handled iv (by simp) fun h' he => hQ h' s.toks fun b o hb e => he b o hb e
  self := fun γ i s Q E iv q => wpAny_pyIter_striter_ascii iv q
theorem grow_push {s : Shared} (o : Obj) : ∀ b o', s.heap.get? b = some o' → (s.heap.push o).get? b = some o' := fun b o' e => Heap.get?_push_of_some _ e
theorem nin_end {γ : List Addr} {H : Hp} {s : Shared} (R : HRel D γ H s.heap) : s.heap.objs.size ∉ γ := fun hm => by
  first | refine e2_1 (R.alive hm) fun o e _ => ?_ | refine e1_2 (R.alive hm) fun o e _ => ?_ | refine e0_3 (R.alive hm) fun o e _ => ?_ | obtain ⟨o, e, _⟩ := R.alive hm
  exact absurd (Heap.lt_size e) (Nat.lt_irrefl _)
theorem none_back {γ γ0 : List Addr} {H : Hp} {s s0 : Shared} (st : Stp [] γ0 γ s0 s) (R : HRel D γ H s.heap) : s0.heap.get? s.heap.objs.size = none := by
  cases q : s0.heap.get? s.heap.objs.size with
  | none => rfl
  | some o =>
    by_cases hg : s.heap.objs.size ∈ γ0
    · first | refine e2_1 (st.ext) fun δ e _ => ?_ | refine e1_2 (st.ext) fun δ e _ => ?_ | refine e0_3 (st.ext) fun δ e _ => ?_ | obtain ⟨δ, e, _⟩ := st.ext
      exact absurd (by rw [e]; exact List.mem_append_left _ hg) (nin_end R)
    · exact absurd (Heap.lt_size (st.live hg (by simp) q).choose_spec) (Nat.lt_irrefl _)
theorem stp_push {γ : List Addr} {s : Shared} {o : Obj} : Stp [] γ γ s { s with heap := s.heap.push o } := Stp.of ⟨_, s.toks, rfl⟩ (fun b o' _ _ e => grow_push o b o' e) ⟨[], by simp, by simp⟩
theorem fp_one {γ : List Addr} {H : Hp} {s : Shared} {o : Obj} (R : HRel D γ H s.heap) (ho : o.isFreed = false) : ∀ b ∈ [s.heap.objs.size], b ∉ γ ∧ (∃ o', (s.heap.push o).get? b = some o') ∧ (b = s.heap.objs.size ∨ ∃ ws, TupAt (s.heap.push o) b ws) := fun b hb => by
  rw [List.mem_singleton.mp hb]
  exact ⟨nin_end R, ⟨_, Heap.get?_push_size _ ho⟩, .inl rfl⟩
theorem val_src {γ : List Addr} {H : Hp} {s : Shared} {v : Value} {W : V} {K : List V → (Hp → Prop) → Hp → Prop} {E : Value → Shared → Prop} (hA : AOk D k A) (R : HRel D γ H s.heap) (r : Rep D γ s.heap v W)
    (h : pVal W H (fun l st => K l st H)) : wpAny D.M A (pyIter v) (SrcPost D A γ s K) E s := by
  cases W with
  | tup l =>
    replace h : K l (fun _ => True) H := h
    first | refine e3_2 r fun t vs e_159 ta rs => ?_ | refine e2_3 r fun t vs e_159 ta rs => ?_ | refine e1_4 r fun t vs e_159 ta rs => ?_ | obtain ⟨t, vs, e_159, ta, rs⟩ := r
    obtain rfl := e_159
    have hlt : t < s.heap.objs.size := by obtain ⟨n, e, _⟩ := ta; exact Heap.lt_size e
    have htg : t ∉ γ := fun hm => by
      first | refine e3_1 (R.alive hm) fun o e nt _ => ?_ | refine e2_2 (R.alive hm) fun o e nt _ => ?_ | refine e1_3 (R.alive hm) fun o e nt _ => ?_ | refine e0_4 (R.alive hm) fun o e nt _ => ?_ | obtain ⟨o, e, nt, _⟩ := R.alive hm
      first | refine e2_1 ta fun n e' _ => ?_ | refine e1_2 ta fun n e' _ => ?_ | refine e0_3 ta fun n e' _ => ?_ | obtain ⟨n, e', _⟩ := ta
      rw [e'] at e; cases e; exact nt rfl
    refine wpAny_pyIter_tuple ta.isTuple ?_
    refine ⟨γ, H, s.heap.objs.size, [s.heap.objs.size, t], l, fun _ => True, tupInv D s.heap.objs.size t vs l, rfl, stp_push, R.grow (grow_push _), itr_tup hA _ t (Nat.ne_of_lt hlt) vs l, ?_, ?_, none_end _, trivial, by rw [← rs.length]; exact ta.size, h⟩
    · exact ⟨⟨_, Heap.get?_push_size _ rfl, rfl, rfl⟩, tupAt_grow (grow_push _) ta, Reps.mono ⟨[], by simp⟩ (fun _ _ => tupAt_grow (grow_push _)) rs⟩
    · intro b hb
      simp at hb
      rcases hb with rfl | rfl
      · exact ⟨nin_end R, ⟨_, Heap.get?_push_size _ rfl⟩, .inl rfl⟩
      · have ta' := tupAt_grow (grow_push { cls := .type "tuple_iterator", data := .fields #[.ref b, .int 0 0] }) ta
        first | refine e2_1 (id ta') fun n e _ => ?_ | refine e1_2 (id ta') fun n e _ => ?_ | refine e0_3 (id ta') fun n e _ => ?_ | obtain ⟨n, e, _⟩ := id ta'
        exact ⟨htg, ⟨_, e⟩, .inr ⟨vs, ta'⟩⟩
  | str x =>
    obtain ⟨ha, h⟩ := h
    first | refine e2_1 r fun t e_160 f => ?_ | refine e1_2 r fun t e_160 f => ?_ | refine e0_3 r fun t e_160 f => ?_ | obtain ⟨t, e_160, f⟩ := r
    obtain rfl := e_160
    refine wpAny_pyIter_strU ?_
    have ety : strIterType x = "str_ascii_iterator" := by unfold strIterType; rw [ha]; rfl
    rw [ety]
    refine ⟨γ, H, s.heap.objs.size, [s.heap.objs.size], _, fun _ => True, fun _ i h => h.IsStrIter s.heap.objs.size "str_ascii_iterator" x t i, rfl, stp_push, R.grow (grow_push _), itr_str hA _ x t ha, ?_, ?_, none_end _, trivial, by simpa using (show x.cps.size ≤ 2000000 from f.1), h⟩
    · exact ⟨_, Heap.get?_push_size _ rfl, rfl, rfl⟩
    · exact fp_one R rfl
  | ref j =>
    first | refine e2_1 (oK_elim (show oK (listAt H j) _ from h)) fun l hl h => ?_ | refine e1_2 (oK_elim (show oK (listAt H j) _ from h)) fun l hl h => ?_ | refine e0_3 (oK_elim (show oK (listAt H j) _ from h)) fun l hl h => ?_ | obtain ⟨l, hl, h⟩ := oK_elim (show oK (listAt H j) _ from h)
    first | refine e2_1 r fun a hj e_161 => ?_ | refine e1_2 r fun a hj e_161 => ?_ | refine e0_3 r fun a hj e_161 => ?_ | obtain ⟨a, hj, e_161⟩ := r
    obtain rfl := e_161
    first | refine e3_2 (R.list hj hl) fun vs n e rs z => ?_ | refine e2_3 (R.list hj hl) fun vs n e rs z => ?_ | refine e1_4 (R.list hj hl) fun vs n e rs z => ?_ | obtain ⟨vs, n, e, rs, z⟩ := R.list hj hl
    refine wpAny_pyIter_list (items := vs.toArray) ⟨_, e, rfl, n, rfl⟩ ?_
    refine ⟨γ, H, s.heap.objs.size, [s.heap.objs.size], l, fun H' => listAt H' j = some l, lstInv s.heap.objs.size a j, rfl, stp_push, R.grow (grow_push _), itr_list hA _ a j l, ?_, ?_, none_end _, hl, by rw [← rs.length]; exact z, h⟩
    · exact ⟨⟨_, Heap.get?_push_size _ rfl, rfl, rfl⟩, hj⟩
    · exact fp_one R rfl
  | _ => exact h.elim

theorem range_src {γ : List Addr} {H : Hp} {s s0 : Shared} {r : Addr} {b : Int} {t u v : Tok} {K : List V → (Hp → Prop) → Hp → Prop} {E : Value → Shared → Prop} {γ0 : List Addr} (hA : AOk D k A) (st : Stp [] γ0 γ s0 s) (R : HRel D γ H s.heap)
    (hr : IsRange s.heap r 0 b 1 t u v) (hb : -(2 ^ 62) ≤ b) (hz : b ≤ 1000000) (h : K (rangeL 0 b) (fun _ => True) H) : wpAny D.M A (pyIter (.ref r)) (SrcPost D A γ0 s0 K) E s := by
  refine wpAny_pyIter_range hr (small_one (by decide) (by decide) hb (by omega)) ?_
  have hsz : Builtin.Range.rangeSize 0 b 1 = (((b - 0).toNat : Nat) : Int) := by rw [rangeSize_one]; split <;> omega
  refine ⟨γ, H, s.heap.objs.size, [s.heap.objs.size], rangeL 0 b, fun _ => True, rangeInv s.heap.objs.size 0 (b - 0).toNat, rfl, st.trans0 R stp_push, R.grow (grow_push _), itr_range hA _ 0 _, ?_, ?_, none_back st R, trivial, by simp [rangeL]; omega, h⟩
  · show (s.heap.push _).get? s.heap.objs.size = some _
    rw [Heap.get?_push_size _ rfl, hsz]
    simp
  · exact fp_one R rfl

theorem rev_src {γ : List Addr} {H : Hp} {s s0 : Shared} {x : Value} {j : Nat} {l : List V} {K : List V → (Hp → Prop) → Hp → Prop} {E : Value → Shared → Prop} {γ0 : List Addr} (hA : AOk D k A) (st : Stp [] γ0 γ s0 s) (R : HRel D γ H s.heap)
    (rv : Rep D γ s.heap x (.ref j)) (hl : listAt H j = some l) (h : K l.reverse (fun H' => listAt H' j = some l) H) : wpAny D.M A (call (.type "reversed") [x]) (fun x s1 => wpAny D.M A (pyIter x) (SrcPost D A γ0 s0 K) E s1) E s := by
  first | refine e2_1 rv fun a hj e_162 => ?_ | refine e1_2 rv fun a hj e_162 => ?_ | refine e0_3 rv fun a hj e_162 => ?_ | obtain ⟨a, hj, e_162⟩ := rv
  obtain rfl := e_162
  first | refine e3_2 (R.list hj hl) fun vs n e rs z => ?_ | refine e2_3 (R.list hj hl) fun vs n e rs z => ?_ | refine e1_4 (R.list hj hl) fun vs n e rs z => ?_ | obtain ⟨vs, n, e, rs, z⟩ := R.list hj hl
  refine call_reversed_list (items := vs.toArray) ⟨_, e, rfl, n, rfl⟩ ?_
  have hit : (s.heap.push (revObj a ((vs.toArray.size : Int) - 1))).IsRevIter s.heap.objs.size a ((l.length : Int) - 1 - ((0 : Nat) : Int)) := by
    refine ⟨_, Heap.get?_push_size _ rfl, rfl, ?_⟩
    simp [revObj, rs.length]
  refine wpAny_pyIter_revIter hit ?_
  refine ⟨γ, H, s.heap.objs.size, [s.heap.objs.size], l.reverse, fun H' => listAt H' j = some l, revInv s.heap.objs.size a j l, rfl, st.trans0 R stp_push, R.grow (grow_push _), itr_rev hA _ a j l, ⟨hit, hj⟩, fp_one R rfl, none_back st R, hl, by rw [List.length_reverse, ← rs.length]; exact z, h⟩

theorem SrcPost.back {γ γ1 : List Addr} {H1 : Hp} {s s1 s2 : Shared} {K : List V → (Hp → Prop) → Hp → Prop} {it : Value} (t : Stp [] γ γ1 s s1) (R : HRel D γ1 H1 s1.heap) (h : SrcPost D A γ1 s1 K it s2) : SrcPost D A γ s K it s2 := by
  obtain ⟨γ2, H2, I, fp, l, st, Inv, e, t2, R2, it, iv, hf, hn, hs, hK⟩ := h
  refine ⟨γ2, H2, I, fp, l, st, Inv, e, t.trans0 R t2, R2, it, iv, hf, ?_, hs, hK⟩
  cases q : s.heap.get? I with
  | none => rfl
  | some o =>
    by_cases hg : I ∈ γ
    · first | refine e2_1 ((t.trans0 R t2).ext) fun δ e1 _ => ?_ | refine e1_2 ((t.trans0 R t2).ext) fun δ e1 _ => ?_ | refine e0_3 ((t.trans0 R t2).ext) fun δ e1 _ => ?_ | obtain ⟨δ, e1, _⟩ := (t.trans0 R t2).ext
      exact absurd (by rw [e1]; exact List.mem_append_left _ hg) (hf I it.mem).1
    · obtain ⟨_, this⟩ := t.live hg (by simp) q
      rw [hn] at this; cases this
end

section
variable {D : Wd} {Φ : Orc} {k : Nat} {c : CC}

theorem src_val {n : Nat} {iter : Expr} {ie : IE} {env : Env} {A : Around} {γ : List Addr} {H : Hp} {s : Shared} {L : Lc} {X : XL} {K : List V → (Hp → Prop) → Hp → Prop} (ih : SE D Φ k c iter ie) (hE : EnvOk c env) (hA : AOk D k A) (R : HRel D γ H s.heap)
    (lr : LRel D γ env c.slots s.heap L) (w : (wp2 Φ ie).E L H (fun v H1 => pVal v H1 (fun l st => K l st H1)) X) :
    wpAny D.M A (eval iter env) (fun x s1 => wpAny D.M A (pyIter x) (SrcPost D A γ s K) (PostX D γ s X) s1) (PostX D γ s X) s := by
  refine andThen (ih env A γ H s L _ X hE hA R lr w) ?_
  intro v s1 γ1 V H1 st R1 rv q
  exact wpAny_mono (val_src hA R1 rv q) (fun it s2 p => p.back st R1) fun _ _ x => x
theorem src_call {n : Nat} {g0 : Str} {gp pos : Pos} {a : Expr} {ie : IE} {T : Ty} {env : Env} {A : Around} {γ : List Addr} {H : Hp} {s : Shared} {L : Lc} {X : XL} {P : V → Hp → Prop} {R' : Value → Shared → Prop} (g : GOk D c.G) (ih : ∀ e ie, compE n c e = some ie → SE D Φ k c e ie)
    (hW : globV c g0 = some (.ty T)) (hs : isStar a = false) (ha : compE n c a = some ie) (hE : EnvOk c env) (hA : AOk D k A) (R : HRel D γ H s.heap) (lr : LRel D γ env c.slots s.heap L) (w : (wp2 Φ ie).E L H P X)
    (hq : ∀ γ2 H2 s2 x W, Stp [] γ γ2 s s2 → HRel D γ2 H2 s2.heap → Rep D γ2 s2.heap x W → P W H2 → wpAny D.M A (call (.type T.name) [x]) R' (PostX D γ s X) s2) :
    wpAny D.M A (eval (.Call (.Name g0 gp) [a] [] pos) env) R' (PostX D γ s X) s := by
  refine wpAny_Call_ofName (andThen (name_ok (Φ := Φ) (Q := fun V H' => V = .ty T ∧ H' = H) g hE R lr (globV_lit hW) ⟨rfl, rfl⟩) ?_)
  intro vf s1 γ1 Vf H1 st R1 rf q
  obtain ⟨rfl, rfl⟩ := q
  obtain rfl := rf
  rw [starEach_of (args := [a]) (by rw [List.any_cons, hs]; rfl)]
  refine PyProof.Rows.callWith_type (by simp) (wpAny_mono (evalArgs_ok (ies := [ie]) (Q := fun vs H' => on1P vs fun v => P v H') ih hE hA (by show (compE n c a).bind _ = _; rw [ha]; rfl) R1 (lr.stp R st) w) (fun b s2 hb => ?_) fun _ _ x => x.back st R1)
  obtain ⟨ps, kw⟩ := b
  obtain ⟨hkw, γ2, Vs, H2, st2, R2, rv, q⟩ := hb
  obtain rfl : kw = [] := hkw
  first | refine e2_1 (on1P_elim q) fun W e_163 q => ?_ | refine e1_2 (on1P_elim q) fun W e_163 q => ?_ | refine e0_3 (on1P_elim q) fun W e_163 q => ?_ | obtain ⟨W, e_163, q⟩ := on1P_elim q
  obtain rfl := e_163
  first | refine e3_2 rv fun x r e_164 rx e_165 => ?_ | refine e2_3 rv fun x r e_164 rx e_165 => ?_ | refine e1_4 rv fun x r e_164 rx e_165 => ?_ | obtain ⟨x, r, e_164, rx, e_165⟩ := rv
  obtain rfl := e_164
  obtain rfl := e_165
  exact hq γ2 H2 s2 x W (st.trans0 R1 st2) R2 rx q
theorem srcK_some {W : V} {kk : SrcK} (h : srcK W = some kk) : (W = .ty .range ∧ kk = .range) ∨ (W = .ty .reversed ∧ kk = .rev) := by
  cases W with
  | ty t => cases t with
    | range => exact .inl ⟨rfl, (Option.some.inj h).symm⟩
    | reversed => exact .inr ⟨rfl, (Option.some.inj h).symm⟩
    | _ => exact no_some h
  | _ => exact no_some h

theorem src_ok {n : Nat} {iter : Expr} {kk : SrcK} {ie : IE} {env : Env} {A : Around} {γ : List Addr} {H : Hp} {s : Shared} {L : Lc} {X : XL} {K : List V → (Hp → Prop) → Hp → Prop} (g : GOk D c.G) (ih : ∀ e ie, compE n c e = some ie → SE D Φ k c e ie)
    (hc : compSrc (compE n c) c iter = some (kk, ie)) (hE : EnvOk c env) (hA : AOk D k A) (R : HRel D γ H s.heap)
    (lr : LRel D γ env c.slots s.heap L) (w : (wp2 Φ ie).E L H (fun v H1 => pSrc kk v H1 (fun l st => K l st H1)) X) :
    wpAny D.M A (eval iter env) (fun x s1 => wpAny D.M A (pyIter x) (SrcPost D A γ s K) (PostX D γ s X) s1) (PostX D γ s X) s := by
  unfold compSrc at hc
  cases hs : srcE c iter with
  | none =>
    rw [hs] at hc
    first | refine e2_1 (Option.map_eq_some_iff.mp hc) fun v hv he => ?_ | refine e1_2 (Option.map_eq_some_iff.mp hc) fun v hv he => ?_ | refine e0_3 (Option.map_eq_some_iff.mp hc) fun v hv he => ?_ | obtain ⟨v, hv, he⟩ := Option.map_eq_some_iff.mp hc
    cases he
    exact src_val (n := n) (ih _ _ hv) hE hA R lr w
  | some ka =>
    rw [hs] at hc
    first | refine e2_1 (Option.map_eq_some_iff.mp hc) fun v hv he => ?_ | refine e1_2 (Option.map_eq_some_iff.mp hc) fun v hv he => ?_ | refine e0_3 (Option.map_eq_some_iff.mp hc) fun v hv he => ?_ | obtain ⟨v, hv, he⟩ := Option.map_eq_some_iff.mp hc
    cases he
    first | refine e3_2 (onCall_some hs) fun f as p e_166 hs => ?_ | refine e2_3 (onCall_some hs) fun f as p e_166 hs => ?_ | refine e1_4 (onCall_some hs) fun f as p e_166 hs => ?_ | obtain ⟨f, as, p, e_166, hs⟩ := onCall_some hs
    obtain rfl := e_166
    first | refine e3_1 (onName_some hs) fun g0 px e_167 hs => ?_ | refine e2_2 (onName_some hs) fun g0 px e_167 hs => ?_ | refine e1_3 (onName_some hs) fun g0 px e_167 hs => ?_ | refine e0_4 (onName_some hs) fun g0 px e_167 hs => ?_ | obtain ⟨g0, px, e_167, hs⟩ := onName_some hs
    obtain rfl := e_167
    first | refine e2_1 (on1_some hs) fun a e_168 hs => ?_ | refine e1_2 (on1_some hs) fun a e_168 hs => ?_ | refine e0_3 (on1_some hs) fun a e_168 hs => ?_ | obtain ⟨a, e_168, hs⟩ := on1_some hs
    obtain rfl := e_168
    obtain ⟨hst, hs⟩ := onlyIf_some hs
    first | refine e2_1 (Option.map_eq_some_iff.mp hs) fun k' hk e_169 => ?_ | refine e1_2 (Option.map_eq_some_iff.mp hs) fun k' hk e_169 => ?_ | refine e0_3 (Option.map_eq_some_iff.mp hs) fun k' hk e_169 => ?_ | obtain ⟨k', hk, e_169⟩ := Option.map_eq_some_iff.mp hs
    obtain rfl := e_169
    first | refine e2_1 (Option.bind_eq_some_iff.mp hk) fun W hW hk => ?_ | refine e1_2 (Option.bind_eq_some_iff.mp hk) fun W hW hk => ?_ | refine e0_3 (Option.bind_eq_some_iff.mp hk) fun W hW hk => ?_ | obtain ⟨W, hW, hk⟩ := Option.bind_eq_some_iff.mp hk
    rcases srcK_some hk with ⟨rfl, rfl⟩ | ⟨rfl, rfl⟩
    · refine src_call g ih hW (bnot hst) hv hE hA R lr w fun γ2 H2 s2 x W st R2 rx q => ?_
      first | refine e3_1 (oK_elim (show oK (intV W) _ from q)) fun b hb q h => ?_ | refine e2_2 (oK_elim (show oK (intV W) _ from q)) fun b hb q h => ?_ | refine e1_3 (oK_elim (show oK (intV W) _ from q)) fun b hb q h => ?_ | refine e0_4 (oK_elim (show oK (intV W) _ from q)) fun b hb q h => ?_ | obtain ⟨b, hb, q, h⟩ := oK_elim (show oK (intV W) _ from q)
      rw [intV_some hb] at rx
      obtain ⟨t, rfl⟩ := rx
      refine call_range_1 ?_
      exact range_src (s0 := s) (γ0 := γ) (γ := γ2) (H := H2) hA (st.trans0 R2 (Stp.of ⟨_, _, rfl⟩ (fun b o _ _ e => grow_push _ b o e) ⟨[], by simp, by simp⟩)) (R2.grow (grow_push _)) (IsRange.new _ _ _ _ _ _ _) q.1 q.2 h
    · refine src_call g ih hW (bnot hst) hv hE hA R lr w fun γ2 H2 s2 x W st R2 rx q => ?_
      first | refine e2_1 (oK_elim (show oK (refV W) _ from q)) fun j hj q => ?_ | refine e1_2 (oK_elim (show oK (refV W) _ from q)) fun j hj q => ?_ | refine e0_3 (oK_elim (show oK (refV W) _ from q)) fun j hj q => ?_ | obtain ⟨j, hj, q⟩ := oK_elim (show oK (refV W) _ from q)
      rw [refV_some hj] at rx
      first | refine e2_1 (oK_elim q) fun l hl q => ?_ | refine e1_2 (oK_elim q) fun l hl q => ?_ | refine e0_3 (oK_elim q) fun l hl q => ?_ | obtain ⟨l, hl, q⟩ := oK_elim q
      exact rev_src hA st R2 rx hl q
end
end Mine

set_option autoImplicit false
/- Comprehensions. -/
namespace Mine
open PySem PyProof.Rows

noncomputable def closGo (env : Env) : List (Str × NameKind) → List (Str × Addr) → List (Str × Addr)
  | [], acc => acc
  | (n, k) :: r, acc => if k == .free then (match env.cells.lookup n with | some a => closGo env r ((n, a) :: acc) | none => closGo env r acc) else closGo env r acc

theorem closGo_eq {env : Env} : ∀ (names : List (Str × NameKind)) (acc : List (Str × Addr)), (∀ x ∈ names, x.2 = .free → ∃ a, env.cells.lookup x.1 = some a) →
    (forIn names acc (fun (x : Str × NameKind) (cs : List (Str × Addr)) => (if x.2 == .free then (do let c ← cellOf env x.1; pure (ForInStep.yield ((x.1, c) :: cs))) else pure (ForInStep.yield cs) : Sem (ForInStep (List (Str × Addr)))))) = pure (closGo env names acc)
  | [], acc, _ => rfl
  | (n, k) :: r, acc, h => by
    have hr : ∀ x ∈ r, x.2 = .free → ∃ a, env.cells.lookup x.1 = some a := fun x hx => h x (List.mem_cons_of_mem _ hx)
    rw [List.forIn_cons, closGo]
    cases hk : (k == NameKind.free) with
    | true =>
      have hk' : k = .free := by simpa using hk
      obtain ⟨a, ha⟩ := h (n, k) List.mem_cons_self hk'
      have : cellOf env n = pure a := by unfold cellOf; simp only at ha; rw [ha]
      simp only at ha
      simp only [if_true, this, ha, pure_bind]
      exact closGo_eq r _ hr
    | false =>
      simp only [Bool.false_eq_true, if_false, pure_bind]
      exact closGo_eq r _ hr

theorem closureFor_go {env : Env} {scope : Scope} (h : ∀ x ∈ scope.names, x.2 = .free → ∃ a, env.cells.lookup x.1 = some a) : closureFor scope env = pure (closGo env scope.names []) := by
  have := closGo_eq scope.names [] h
  unfold closureFor
  have e : (forIn scope.names ([] : List (Str × Addr)) fun x r => (do if (x.2 == NameKind.free) = true then (do let c ← cellOf env x.1; pure (ForInStep.yield ((x.1, c) :: r))) else pure (ForInStep.yield r) : Sem (ForInStep (List (Str × Addr))))) = pure (closGo env scope.names []) := this
  exact (congrArg (fun m : Sem (List (Str × Addr)) => m >>= fun cs => pure cs) e)

theorem closGo_mem {env : Env} : ∀ (names : List (Str × NameKind)) (acc : List (Str × Addr)), (∀ n a, (n, a) ∈ acc → env.cells.lookup n = some a) → ∀ n a, (n, a) ∈ closGo env names acc → env.cells.lookup n = some a
  | [], acc, h, n, a, hm => h n a hm
  | (m, k) :: r, acc, h, n, a, hm => by
    rw [closGo] at hm
    split at hm
    · split at hm
      · rename_i b hb
        refine closGo_mem r _ ?_ n a hm
        intro n' a' hm'
        rcases List.mem_cons.mp hm' with q | q
        · cases q; exact hb
        · exact h n' a' q
      · exact closGo_mem r _ h n a hm
    · exact closGo_mem r _ h n a hm
theorem closGo_keep {env : Env} : ∀ (names : List (Str × NameKind)) (acc : List (Str × Addr)) n a, (n, a) ∈ acc → (n, a) ∈ closGo env names acc
  | [], _, _, _, h => h
  | (m, k) :: r, acc, n, a, h => by
    rw [closGo]
    split
    · split
      · exact closGo_keep r _ n a (List.mem_cons_of_mem _ h)
      · exact closGo_keep r _ n a h
    · exact closGo_keep r _ n a h
theorem closGo_has {env : Env} : ∀ (names : List (Str × NameKind)) (acc : List (Str × Addr)) n a, (n, NameKind.free) ∈ names → env.cells.lookup n = some a → (n, a) ∈ closGo env names acc
  | (m, k) :: r, acc, n, a, h, hl => by
    rw [closGo]
    rcases List.mem_cons.mp h with q | q
    · cases q
      simp only [beq_self_eq_true, if_true, hl]
      exact closGo_keep r _ _ _ List.mem_cons_self
    · split
      · split
        · exact closGo_has r _ n a q hl
        · exact closGo_has r _ n a q hl
      · exact closGo_has r _ n a q hl

theorem lookup_of_mem {l : List (Str × Addr)} {n : Str} {a : Addr} (h : (n, a) ∈ l) : ∃ b, l.lookup n = some b := by
  cases e : l.lookup n with
  | some b => exact ⟨b, rfl⟩
  | none =>
    have := List.lookup_eq_none_iff.mp e (n, a) h
    simp at this

theorem closGo_lookup {env : Env} {names : List (Str × NameKind)} {n : Str} (h : (n, NameKind.free) ∈ names) {a : Addr} (hl : env.cells.lookup n = some a) : (closGo env names []).lookup n = some a := by
  obtain ⟨b, hb⟩ := lookup_of_mem (closGo_has names [] n a h hl)
  have := closGo_mem names [] (by simp) n b (mem_of_lookup hb)
  rw [hl] at this; cases this; exact hb

/- a name of the relabelled block that is a cell was free, and is one outside -/
theorem relab_cell {scope outer : Scope} {y : Str} (hno : ∀ x ∈ scope.names, x.2 ≠ .cell) (h : (relab scope outer).names.lookup y = some .cell) : (y, NameKind.free) ∈ scope.names ∧ outer.names.lookup y = some .cell := by
  unfold relab at h
  simp only at h
  revert h
  generalize scope.names = l at hno
  induction l with
  | nil => intro h; simp at h
  | cons p r ih =>
    obtain ⟨n, k⟩ := p
    intro h
    simp only [List.map_cons] at h
    have ih' := ih (fun x hx => hno x (List.mem_cons_of_mem _ hx))
    by_cases hc : (k == NameKind.free && outer.kind == .function && outer.names.lookup n == some .cell) = true
    · rw [if_pos hc] at h
      rw [List.lookup_cons] at h
      cases hy : y == n with
      | true =>
        have : y = n := by simpa using hy
        subst this
        simp only [Bool.and_eq_true, beq_iff_eq] at hc
        exact ⟨by rw [hc.1.1]; exact List.mem_cons_self, hc.2⟩
      | false =>
        rw [hy] at h
        obtain ⟨a, b⟩ := ih' h
        exact ⟨List.mem_cons_of_mem _ a, b⟩
    · rw [if_neg hc] at h
      rw [List.lookup_cons] at h
      cases hy : y == n with
      | true =>
        rw [hy] at h
        simp only at h
        cases h
        exact absurd rfl (hno (n, .cell) List.mem_cons_self)
      | false =>
        rw [hy] at h
        obtain ⟨a, b⟩ := ih' h
        exact ⟨List.mem_cons_of_mem _ a, b⟩
theorem relab_local {scope outer : Scope} {y : Str} (h : (relab scope outer).names.lookup y = some .local) : (y, NameKind.local) ∈ scope.names := by
  unfold relab at h
  simp only at h
  revert h
  generalize scope.names = l
  induction l with
  | nil => intro h; simp at h
  | cons p r ih =>
    obtain ⟨n, k⟩ := p
    intro h
    simp only [List.map_cons] at h
    by_cases hc : (k == NameKind.free && outer.kind == .function && outer.names.lookup n == some .cell) = true
    · rw [if_pos hc] at h
      rw [List.lookup_cons] at h
      cases hy : y == n with
      | true => rw [hy] at h; simp at h
      | false => rw [hy] at h; exact List.mem_cons_of_mem _ (ih h)
    · rw [if_neg hc] at h
      rw [List.lookup_cons] at h
      cases hy : y == n with
      | true =>
        rw [hy] at h
        have : y = n := by simpa using hy
        subst this
        simp only at h
        cases h
        exact List.mem_cons_self
      | false => rw [hy] at h; exact List.mem_cons_of_mem _ (ih h)

end Mine

set_option autoImplicit false
/- What is raised: it is noted in a frame. -/
namespace Mine
open PySem PyProof.Rows

theorem base_none {D : Wd} {γ : List Addr} {H : Hp} {s : Shared} (R : HRel D γ H s.heap) {z : Addr} (h : s.heap.get? z = none) : D.hB.get? z = none := by
  cases e : D.hB.get? z with
  | none => rfl
  | some o => have := R.base _ _ e; rw [h] at this; cases this

noncomputable def frA (D : Wd) : List Addr := D.fr.filterMap (·.frame)
theorem FrsOk.at {D : Wd} {h : Heap} (f : FrsOk D h) {b : Addr} (hb : b ∈ frA D) : D.hB.get? b = none ∧ ∃ o, h.get? b = some o ∧ ¬ NotD o := by
  first | refine e2_1 (List.mem_filterMap.mp hb) fun e he hf => ?_ | refine e1_2 (List.mem_filterMap.mp hb) fun e he hf => ?_ | refine e0_3 (List.mem_filterMap.mp hb) fun e he hf => ?_ | obtain ⟨e, he, hf⟩ := List.mem_filterMap.mp hb
  first | refine e3_4 (f e he) fun k L o a b' c d => ?_ | obtain ⟨k, L, o, a, b', c, d⟩ := f e he
  rw [hf] at a; cases a
  exact ⟨b', o, c, d⟩
theorem frsFun {h base : Heap} : ∀ {l : List Env}, (∀ e ∈ l, e.scope.kind = .function ∧ ∃ (L : Addr) (o : Obj), e.frame = some L ∧ base.get? L = none ∧ h.get? L = some o ∧ ¬ NotD o) → h.FunFrames base l
  | [], _ => trivial
  | e :: r, f => by
    first | refine e3_4 (f e List.mem_cons_self) fun k L o a b c d => ?_ | obtain ⟨k, L, o, a, b, c, d⟩ := f e List.mem_cons_self
    exact ⟨(by rw [k]; intro q; cases q), ⟨L, o, a, b, c, fun vs q => d (notD_fields q)⟩, frsFun fun e he => f e (List.mem_cons_of_mem _ he)⟩

structure Land (ex : List Addr) (h h' : Heap) : Prop where
  stays : ∀ b o, b ∉ ex → h.get? b = some o → h'.get? b = some o
  up : h.UpToSlots h'
structure ExF (D : Wd) (s : Shared) (h : Heap) (ex : List Addr) : Prop where
  each : ∀ b ∈ ex, b ∈ frA D ∨ (s.heap.get? b = none ∧ D.hB.get? b = none ∧ ∃ o vs, h.get? b = some o ∧ o.data = .fields vs)
  frs : ∀ b ∈ frA D, b ∈ ex

theorem Land.of {ex : List Addr} {h h' : Heap} (st : (PySem.W.hideAll h ex).StaysIn h') (up : h.UpToSlots h') : Land ex h h' := ⟨fun b o hb e => st b o (PySem.W.hideAll_get _ e hb), up⟩

section
variable {D : Wd} {γ γ1 γ0 : List Addr} {H H1 H0 : Hp} {s s1 : Shared} {env : Env} {slots : List (Str × Nat)} {L : Lc} {ex : List Addr} {h h' : Heap}

theorem Land.same (l : Land ex h h') (F : FrsOk D h) (X : ExF D s h ex) {b : Addr} {o : Obj} (nd : NotD o) (nf : ∀ vs, o.data ≠ .fields vs) (e : h.get? b = some o) : h'.get? b = some o :=
  l.stays b o (fun hb => by
    rcases X.each b hb with q | ⟨_, _, o', vs, e', d⟩
    · first | refine e3_1 (F.at q) fun _ o' e' d => ?_ | refine e2_2 (F.at q) fun _ o' e' d => ?_ | refine e1_3 (F.at q) fun _ o' e' d => ?_ | refine e0_4 (F.at q) fun _ o' e' d => ?_ | obtain ⟨_, o', e', d⟩ := F.at q
      rw [e] at e'; cases e'; exact d nd
    · rw [e] at e'; cases e'; exact nf vs d) e
theorem Land.tup (l : Land ex h h') (F : FrsOk D h) (X : ExF D s h ex) {a : Addr} {vs : List Value} (t : TupAt h a vs) : TupAt h' a vs := by
  first | refine e2_1 t fun n e z => ?_ | refine e1_2 t fun n e z => ?_ | refine e0_3 t fun n e z => ?_ | obtain ⟨n, e, z⟩ := t
  exact ⟨n, l.same F X (notD_seq rfl) (fun vs q => by cases q) e, z⟩
theorem Land.frs (l : Land ex h h') (F : FrsOk D h) : FrsOk D h' := fun e he => by
  first | refine e3_4 (F e he) fun k L o a b c d => ?_ | obtain ⟨k, L, o, a, b, c, d⟩ := F e he
  obtain ⟨sl, e'⟩ := l.up L o c fun vs q => d (notD_fields q)
  exact ⟨k, L, _, a, b, e', fun q => d q⟩
theorem Land.base (l : Land ex h h') (R : HRel D γ H h) (X : ExF D s h ex) : ∀ b o, D.hB.get? b = some o → h'.get? b = some o := fun b o e => l.stays b o (fun hb => by
    rcases X.each b hb with q | ⟨_, q, _⟩
    · obtain ⟨q, _⟩ := R.frs.at q; rw [e] at q; cases q
    · rw [e] at q; cases q) (R.base b o e)
theorem Land.rep (l : Land ex h h') (F : FrsOk D h) (X : ExF D s h ex) {v : Value} {V : V} (r : Rep D γ h v V) : Rep D γ h' v V := Rep.mono ⟨[], by simp⟩ (fun _ _ => l.tup F X) r
theorem Land.rel (l : Land ex h h') (R : HRel D γ H h) (X : ExF D s h ex) : HRel D γ H h' where
  len := R.len
  nodup := R.nodup
  objs := fun i a o e1 e2 => by
    have := R.objs i a o e1 e2
    cases o with
    | list xs =>
      first | refine e3_2 this fun vs n e r z => ?_ | refine e2_3 this fun vs n e r z => ?_ | refine e1_4 this fun vs n e r z => ?_ | obtain ⟨vs, n, e, r, z⟩ := this
      exact ⟨vs, n, l.same R.frs X (notD_seq rfl) (fun vs q => by cases q) e, Reps.mono ⟨[], by simp⟩ (fun _ _ => l.tup R.frs X) r, z⟩
  fresh := R.fresh
  base := l.base R X
  frs := l.frs R.frs
theorem Land.stp {wr : List Addr} (l : Land ex s1.heap h') (F : FrsOk D s1.heap) (X : ExF D s s1.heap ex) (st : Stp wr γ γ1 s s1) : Stp wr γ γ1 s { s1 with heap := h' } where
  same := by
    first | refine e2_1 (st.same) fun h1 t1 e => ?_ | refine e1_2 (st.same) fun h1 t1 e => ?_ | refine e0_3 (st.same) fun h1 t1 e => ?_ | obtain ⟨h1, t1, e⟩ := st.same
    exact ⟨h', t1, by rw [e]⟩
  keepS := fun b o hb hw e => by
    first | refine e2_1 (st.keepS b o hb hw e) fun sl e1 q => ?_ | refine e1_2 (st.keepS b o hb hw e) fun sl e1 q => ?_ | refine e0_3 (st.keepS b o hb hw e) fun sl e1 q => ?_ | obtain ⟨sl, e1, q⟩ := st.keepS b o hb hw e
    by_cases nd : NotD o
    · refine ⟨sl, l.stays b _ (fun hx => ?_) e1, q⟩
      rcases X.each b hx with q' | ⟨q', _⟩
      · first | refine e3_1 (F.at q') fun _ o' e' d => ?_ | refine e2_2 (F.at q') fun _ o' e' d => ?_ | refine e1_3 (F.at q') fun _ o' e' d => ?_ | refine e0_4 (F.at q') fun _ o' e' d => ?_ | obtain ⟨_, o', e', d⟩ := F.at q'
        rw [e1] at e'; cases e'; exact d nd
      · rw [e] at q'; cases q'
    · obtain ⟨sl2, e2⟩ := l.up b _ e1 fun vs q => nd (notD_fields q)
      exact ⟨sl2, e2, fun q => absurd q nd⟩
  ext := st.ext
end

/- noted, whatever stands at the place of the flight -/
noncomputable def Held (base : Heap) (l : List Env) (e : Addr) (cls a0 : Value) (h : Heap) : Prop :=
  base.StaysIn h ∧ base.get? e = none ∧ h.FunFrames base l ∧ ∃ fl, h.TracedAtW base e cls a0 fl
section
variable {M : Model} {A : Around} {E : Value → Shared → Prop} {s : Shared} {base : Heap} {l : List Env} {e La : Addr} {cls a0 : Value} {Q : Unit → Shared → Prop}

theorem flies (o : Option Addr) (hh : Held base l e cls a0 s.heap) (hQ : ∀ h', Held base l e cls a0 h' → s.heap.UpToSlots h' → Q () { s with heap := h' }) : wpAny M A (setFlight (.ref e) o) Q E s := by
  obtain ⟨f1, f2, f3, fl, oe, vs, T, oT, ts, he, hcls, hd, h1, hnT, hTe, hT, hdT, h3⟩ := hh
  have hz : 3 < ts.size := (Array.getElem?_eq_some_iff.mp h3).1
  have ot : ∀ b, b ≠ T → (s.heap.update T (Obj.mapFields (·.setIfInBounds 3 (o.elim Value.none fun f => rawInt f)))).get? b = s.heap.get? b := fun b hb => Heap.get?_update_other _ _ (Ne.symm hb)
  have nr : ∀ b ob, s.heap.get? b = some ob → (∀ vs, ob.data ≠ .fields vs) → b ≠ T := fun b ob hb hn q => by
    rw [q, hT] at hb; cases hb; exact hn ts hdT
  unfold setFlight
  refine wpAny_bind (wpAny_field he hd h1 ?_)
  rw [if_pos (show (Value.ref T != Value.none) = true from by simp)]
  refine wpAny_setField hT hdT hz (hQ _ ⟨fun b ob hb => (ot b fun q => by rw [q, hnT] at hb; cases hb).trans (f1 b ob hb), f2, f3.of_keeps fun b ob hb hn => ⟨ob, (ot b (nr b ob hb hn)).trans hb, rfl⟩,
    _, oe, vs, T, _, _, (ot e (Ne.symm hTe)).trans he, hcls, hd, h1, hnT, hTe, Heap.get?_update_self _ hT (Obj.isFreed_of_fields (Obj.data_mapFields hdT _)), Obj.data_mapFields hdT _, Array.getElem?_setIfInBounds_self_of_lt hz⟩
    fun b ob hb hn => ⟨ob.slots, (ot b (nr b ob hb hn)).trans hb⟩)
theorem lands (hh : Held base l e cls a0 s.heap) (hQ : ∀ h', Heap.FlyingW base l e cls a0 h' → s.heap.UpToSlots h' → Q () { s with heap := h' }) : wpAny M A (setFlight (.ref e) none) Q E s := by
  first | refine e3_2 hh fun f1 f2 f3 fl f4 => ?_ | refine e2_3 hh fun f1 f2 f3 fl f4 => ?_ | refine e1_4 hh fun f1 f2 f3 fl f4 => ?_ | obtain ⟨f1, f2, f3, fl, f4⟩ := hh
  exact wpAny_setFlight_noneW f1 f3 f4 fun h' k1 k2 k3 k4 => hQ h' ⟨k1, f2, k2, k3⟩ fun b o hb hn => ⟨o.slots, k4 b o hb hn⟩
theorem came {env : Env} (hh : Held base l e cls a0 s.heap) (hQ : ∀ h', Held base l e cls a0 h' → s.heap.UpToSlots h' → E (.ref e) { s with heap := h' }) : cameBackBy M A env E (.ref e) s := by
  obtain ⟨oe, vs, T, oT, ts, he, hcls, hd, h1, _⟩ := hh.2.2.2.choose_spec
  unfold cameBackBy
  refine wpAny_bind (wpAny_field he hd h1 ?_)
  rw [if_neg (show ¬ ((Value.ref T == Value.none) = true) from by simp)]
  first
    | exact wpAny_bind (wpAny_pure (flies _ hh hQ))
    | exact flies _ hh hQ
theorem noteFrame_same {v : Value} {env cenv : Env} (h : cenv.frame = env.frame) : noteFrame v cenv = noteFrame v env := by
  unfold noteFrame PySem.frameOf
  rw [h]
theorem note_at {env : Env} {outer : List Env} {fl : Value} (hfr : A.frames = some (env :: outer)) (hl : s.heap.FunFrames base (env :: outer)) (hf : env.frame = some La) (ht : s.heap.TracedAtW base e cls a0 fl) (hkb : base.StaysIn s.heap) (hen : base.get? e = none)
    (h : ∀ h', Held base (env :: outer) e cls a0 h' → s.heap.UpToSlots h' → Q () { s with heap := h' }) : wpAny M A (noteFrame (.ref e) env) Q E s := by
  have ht0 := ht
  first | refine e5_9 ht fun oe vs T oT ts he e_170 hd h1 hnT hTe hT hdT h3 => ?_ | obtain ⟨oe, vs, T, oT, ts, he, e_170, hd, h1, hnT, hTe, hT, hdT, h3⟩ := ht
  obtain ⟨hcls, h0⟩ := e_170
  unfold noteFrame
  simp only [hf]
  refine wpAny_bind (wpAny_field he hd h1 ?_)
  rw [if_pos (show (Value.ref T != Value.none) = true from by simp)]
  refine wpAny_bind (wpAny_field hT hdT h3 ?_)
  cases hq : (fl == rawInt La) with
  | true =>
    rw [if_pos rfl]
    exact wpAny_pure (h s.heap ⟨hkb, hen, hl, fl, ht0⟩ (Heap.UpToSlots.refl _))
  | false =>
    rw [if_neg (by decide)]
    subst hcls
    refine wpAny_bind (wpAny_setField hT hdT (Array.getElem?_eq_some_iff.mp h3).1 ?_)
    have ot : ∀ b, b ≠ T → (s.heap.update T (Obj.mapFields (·.setIfInBounds 3 Value.none))).get? b = s.heap.get? b := fun b hb => Heap.get?_update_other _ _ (Ne.symm hb)
    have nr : ∀ b ob, s.heap.get? b = some ob → (∀ vs, ob.data ≠ .fields vs) → b ≠ T := fun b ob hb hn q => by
      rw [q, hT] at hb; cases hb; exact hn ts hdT
    refine wpAny_entryW hfr (hl.of_keeps fun b o hb hn => ⟨o, (ot b (nr b o hb hn)).trans hb, rfl⟩) hf ((ot e (Ne.symm hTe)).trans he)
      (fun b o hb => (ot b fun q => by rw [q, hnT] at hb; cases hb).trans (hkb b o hb)) hen hd (Array.getElem?_eq_some_iff.mp h1).1 h0
      fun h' ⟨x1, x2, x3, x4⟩ => h h' ⟨x1, hen, x2, _, x3⟩ fun b o hb hn => x4 b o ((ot b (nr b o hb hn)).trans hb) hn
end

section
variable {D : Wd} {γ γ0 : List Addr} {H H0 : Hp} {s s1 : Shared} {env : Env} {outer : List Env} {A : Around} {E : Value → Shared → Prop} {v : Value} {x : Exc} {La : Addr} {Q : Unit → Shared → Prop}

/- what is known of the raised thing, whether new or noted -/
theorem ex_of (R0 : HRel D γ0 H0 s.heap) (R : HRel D γ H s1.heap) (hx : XNew D s s1.heap v x ∨ XFly D s s1.heap v x) :
    ∃ a oe vs C a0 ex, v = .ref a ∧ D.mg x.cls = some (.ref C) ∧ s.heap.get? a = none ∧ a ∈ ex ∧ ExF D s s1.heap ex ∧ s1.heap.get? a = some oe ∧ oe.cls = .ref C ∧ oe.data = .fields vs ∧ vs[0]? = some a0 ∧
      (vs[1]? = some .none ∨ ∃ fl, s1.heap.TracedAtW (PySem.W.hideAll s1.heap ex) a (.ref C) a0 fl) := by
  rcases hx with ⟨a, oe, vs, C, a0, e1, e2, e3, e4, e5, e6, e7, e8⟩ | ⟨a, oe, vs, C, a0, T, oT, ts, e1, e2, e3, e4, e5, e6, e7, e8, e9, e10, e11, e12, fl, e13⟩
  · refine ⟨a, oe, vs, C, a0, frA D ++ [a], e1, e5, e2, by simp, ⟨fun b hb => ?_, fun b hb => List.mem_append_left _ hb⟩, e3, e4, e6, e7, .inl e8⟩
    rcases List.mem_append.mp hb with q | q
    · exact .inl q
    · simp at q; subst q; exact .inr ⟨e2, base_none R0 e2, oe, vs, e3, e6⟩
  · refine ⟨a, oe, vs, C, a0, frA D ++ [a, T], e1, e5, e2, by simp, ⟨fun b hb => ?_, fun b hb => List.mem_append_left _ hb⟩, e3, e4, e6, e7, .inr ⟨fl, oe, vs, T, oT, ts, e3, ⟨e4, e7⟩, e6, e8, PySem.W.hideAll_none _ (by simp), e10, e11, e12, e13⟩⟩
    rcases List.mem_append.mp hb with q | q
    · exact .inl q
    · simp at q
      rcases q with q | q
      · subst q; exact .inr ⟨e2, base_none R0 e2, oe, vs, e3, e6⟩
      · subst q; exact .inr ⟨e9, base_none R0 e9, oT, ts, e11, e12⟩

theorem base_stays {h : Heap} {ex : List Addr} : (PySem.W.hideAll h ex).StaysIn h := fun _ _ e => PySem.W.of_hideAll _ e
theorem frs_fun {h : Heap} {ex : List Addr} (F : FrsOk D h) (X : ExF D s h ex) : h.FunFrames (PySem.W.hideAll h ex) D.fr := frsFun fun e he => by
  first | refine e3_4 (F e he) fun k L o a b c d => ?_ | obtain ⟨k, L, o, a, b, c, d⟩ := F e he
  exact ⟨k, L, o, a, PySem.W.hideAll_none _ (X.frs L (List.mem_filterMap.mpr ⟨e, he, a⟩)), c, d⟩

theorem note_any (hfr : A.frames = some D.fr) (R0 : HRel D γ0 H0 s.heap) (R : HRel D γ H s1.heap) (htop : D.fr = env :: outer) (hf : env.frame = some La) (hx : XNew D s s1.heap v x ∨ XFly D s s1.heap v x)
    (h : ∀ a C a0 ex h', v = .ref a → D.mg x.cls = some (.ref C) → s.heap.get? a = none → a ∈ ex → ExF D s s1.heap ex → s1.heap.UpToSlots h' → Held (PySem.W.hideAll s1.heap ex) D.fr a (.ref C) a0 h' → Q () { s1 with heap := h' }) :
    wpAny D.M A (noteFrame v env) Q E s1 := by
  obtain ⟨a, oe, vs, C, a0, ex, rfl, hm, hn, hax, X, he, hc, hd, h0, h1⟩ := ex_of R0 R hx
  have F := frs_fun R.frs X
  have hen : (PySem.W.hideAll s1.heap ex).get? a = none := PySem.W.hideAll_none _ hax
  have fin : ∀ h', Held (PySem.W.hideAll s1.heap ex) D.fr a (.ref C) a0 h' → s1.heap.UpToSlots h' → Q () { s1 with heap := h' } := fun h' k1 k2 => h a C a0 ex h' rfl hm hn hax X k2 k1
  rw [htop] at F fin hfr
  rcases h1 with h1 | ⟨fl, h1⟩
  · unfold noteFrame
    simp only [hf]
    refine wpAny_bind (wpAny_field he hd h1 ?_)
    rw [if_neg (by decide)]
    exact wpAny_entryW hfr F hf he base_stays hen hd (Array.getElem?_eq_some_iff.mp h1).1 h0 (by rw [hc]; exact fun h' ⟨k1, k2, k3, k4⟩ => fin h' ⟨k1, hen, k2, _, k3⟩ k4)
  · exact note_at hfr F hf h1 base_stays hen fin

theorem fly_of {ex : List Addr} {h' : Heap} {a C : Addr} {a0 fl : Value} (back : ∀ b, s1.heap.get? b = none → s.heap.get? b = none) (F : FrsOk D s1.heap) (X : ExF D s s1.heap ex) (l : Land ex s1.heap h') (hm : D.mg x.cls = some (.ref C)) (hn : s.heap.get? a = none)
    (t : h'.TracedAtW (PySem.W.hideAll s1.heap ex) a (.ref C) a0 fl) : XFly D s h' (.ref a) x := by
  first | refine e5_9 t fun oe vs T oT ts e1 e_172 e4 e5 e6 e7 e8 e9 e10 => ?_ | obtain ⟨oe, vs, T, oT, ts, e1, e_172, e4, e5, e6, e7, e8, e9, e10⟩ := t
  obtain ⟨e2, e3⟩ := e_172
  refine ⟨a, oe, vs, C, a0, T, oT, ts, rfl, hn, e1, e2, hm, e4, e3, e5, ?_, e7, e8, e9, fl, e10⟩
  by_cases hT : T ∈ ex
  · rcases X.each T hT with q | ⟨q, _⟩
    · first | refine e3_1 (F.at q) fun _ o e d => ?_ | refine e2_2 (F.at q) fun _ o e d => ?_ | refine e1_3 (F.at q) fun _ o e d => ?_ | refine e0_4 (F.at q) fun _ o e d => ?_ | obtain ⟨_, o, e, d⟩ := F.at q
      obtain ⟨sl, e'⟩ := l.up T o e fun vs q => d (notD_fields q)
      rw [e8] at e'
      have hd : oT.data = o.data := by rw [Option.some.inj e']
      exact absurd (notD_fields (hd ▸ e9)) d
    · exact q
  · refine back T ?_
    cases e : s1.heap.get? T with
    | none => rfl
    | some o => rw [PySem.W.hideAll_get _ e hT] at e6; cases e6
end
end Mine

set_option autoImplicit false
/- Comprehensions: the loop. -/
namespace Mine
open PySem PyProof.Rows

structure CInv (D : Wd) (γ : List Addr) (s : Shared) (Dd C : Addr) (fp : List Addr) (Inv : List Addr → Nat → Heap → Prop) (st : Hp → Prop) (i : Nat) (acc : List V) (γ' : List Addr) (H' : Hp) (s' : Shared) : Prop where
  stp : Stp [] γ γ' s s'
  rel : HRel D γ' H' s'.heap
  out : ∃ ys n, s'.heap.get? Dd = some { cls := .type "list", data := .seq ys.toArray n } ∧ Reps D γ' s'.heap ys acc
  dnin : Dd ∉ γ'
  loc : ∃ m, s'.heap.Ns C m
  cnin : C ∉ γ'
  inv : Inv γ' i s'.heap
  stb : st H'
  fps : ∀ b ∈ fp, b ∉ γ' ∧ ∃ o, s'.heap.get? b = some o

structure CFix (D : Wd) (s : Shared) (Dd C I : Addr) (fp : List Addr) : Prop where
  d0 : s.heap.get? Dd = none
  c0 : s.heap.get? C = none
  i0 : s.heap.get? I = none
  dc : Dd ≠ C
  df : Dd ∉ fp
  cf : C ∉ fp

theorem notTup_dict {h : Heap} {C : Addr} {m : Str → Option Value} (n : h.Ns C m) (ws : List Value) : ¬ TupAt h C ws := fun x => by
  first | refine e3_3 n fun o es ep e d _ => ?_ | refine e2_4 n fun o es ep e d _ => ?_ | obtain ⟨o, es, ep, e, d, _⟩ := n
  first | refine e2_1 x fun k e' _ => ?_ | refine e1_2 x fun k e' _ => ?_ | refine e0_3 x fun k e' _ => ?_ | obtain ⟨k, e', _⟩ := x
  rw [e] at e'; cases e'; cases d
theorem notTup_list {h : Heap} {C : Addr} {vs : List Value} {n : Nat} (e : h.get? C = some { cls := .type "list", data := .seq vs.toArray n }) (ws : List Value) : ¬ TupAt h C ws := fun x => by
  first | refine e2_1 x fun k e' _ => ?_ | refine e1_2 x fun k e' _ => ?_ | refine e0_3 x fun k e' _ => ?_ | obtain ⟨k, e', _⟩ := x
  rw [e] at e'; simp at e'

theorem Stp.change {γ γ' : List Addr} {s s' : Shared} {h' : Heap} {tk : Nat} {z : Addr} (t : Stp [] γ γ' s s') (hk : ∀ b o, b ≠ z → s'.heap.get? b = some o → h'.get? b = some o) (hz : s.heap.get? z = none) : Stp [] γ γ' s { s' with heap := h', toks := tk } := by
  refine ⟨?_, fun b o hb hw e => let ⟨sl, e', q⟩ := t.keepS b o hb hw e; ⟨sl, hk b _ (by rintro rfl; rw [hz] at e; cases e) e', q⟩, t.ext⟩
  first | refine e2_1 (t.same) fun h1 t1 e_173 => ?_ | refine e1_2 (t.same) fun h1 t1 e_173 => ?_ | refine e0_3 (t.same) fun h1 t1 e_173 => ?_ | obtain ⟨h1, t1, e_173⟩ := t.same
  obtain rfl := e_173
  exact ⟨_, _, rfl⟩

section
variable {D : Wd} {Φ : Orc} {k : Nat} {c : CC}

theorem comp_loop {n : Nat} {elt iter : Expr} {x : Str} {px pos : Pos} {scope : Scope} {ielt : IE} {c' : CC} {env cenv : Env} {A : Around} {L : Lc} {γ : List Addr} {H : Hp} {s : Shared} {Dd C I : Addr} {fp : List Addr}
    {l : List V} {st : Hp → Prop} {Inv : List Addr → Nat → Heap → Prop} {K : List V → Hp → Prop} {Rr : Result → Shared → Prop} {slot : Nat} {X : XL}
    (hE' : EnvOk c' cenv) (hA : AOk D k A) (R0 : HRel D γ H s.heap) (lr : LRel D γ env c.slots s.heap L) (hloc : cenv.locals = C) (hx : cenv.kindOf x = some .local)
    (ihe : ∀ e ie, compE n c' e = some ie → Both D Φ k c' e ie) (hce : compE n c' elt = some ielt)
    (F : CFix D s Dd C I fp) (it : Itr D A I fp l st Inv)
    (mkL : ∀ γ' h m W v, h.Ns C m → m x = some v → Rep D γ' h v W → LRel D γ' env c.slots h L → C ∉ γ' → LRel D γ' cenv c'.slots h (L.set slot (some W)))
    (err : ∀ γ' H' x e s', Stp [] γ γ' s s' → HRel D γ' H' s'.heap → XFly D s s'.heap e x → (x.cls, x.ups) ∈ D.ex → X x H' → C ∉ γ' → (∃ m, s'.heap.Ns C m) → notedBy D.M A cenv (fun e s' => Rr (.error e) s') e s')
    (fin : ∀ γ' H' s' acc, CInv D γ s Dd C fp Inv st l.length acc γ' H' s' → K acc H' → ∀ h' tk, (∀ b o, b ≠ I → s'.heap.get? b = some o → h'.get? b = some o) → Rr (.ok .next) { s' with heap := h', toks := tk }) :
    ∀ (i : Nat) (acc : List V) (γ' : List Addr) (H' : Hp) (s' : Shared), i ≤ l.length → acc.length ≤ i → l.length ≤ 2000000 → CInv D γ s Dd C fp Inv st i acc γ' H' s' →
      compGo (fun L' H' K => (wp2 Φ ielt).E L' H' K X) st slot L (l.drop i) acc H' K →
      codeAny D.M A (.compLoop (.ListComp elt [⟨.Name x px, iter, [], 0⟩] scope pos) 0 (.ref I) (.ref Dd) cenv) Rr s' := by
  intro i acc γ' H' s' hi hacc hlen ci cg
  have hkind : cenv.scope.kind = .function := by rw [hE'.scope]; exact hE'.kind
  refine codeAny_compLoop_tests (fun m s' => ∃ i acc γ' H', m = l.length - i ∧ i ≤ l.length ∧ acc.length ≤ i ∧ CInv D γ s Dd C fp Inv st i acc γ' H' s' ∧
    compGo (fun L' H' K => (wp2 Φ ielt).E L' H' K X) st slot L (l.drop i) acc H' K) ?_ (l.length - i) ⟨i, acc, γ', H', rfl, hi, hacc, ci, cg⟩
  clear cg ci hacc hi i acc γ' H' s'
  rintro m s' ⟨i, acc, γ', H', rfl, hi, hacc, ci, cg⟩
  have hIg : I ∉ γ' := (ci.fps I it.mem).1
  have hIB := base_none R0 F.i0
  have hCB := base_none R0 F.c0
  have hDB := base_none R0 F.d0
  have hCI : C ≠ I := fun q => F.cf (q ▸ it.mem)
  have hDI : Dd ≠ I := fun q => F.df (q ▸ it.mem)
  by_cases hlt : i < l.length
  · have hW : l[i]? = some l[i] := by simp [hlt]
    have hdrop : l.drop i = l[i] :: l.drop (i + 1) := List.drop_eq_getElem_cons hlt
    rw [hdrop] at cg
    refine it.next γ' H' s' i _ _ _ hW ci.rel hIg ci.stb ci.inv fun v h1 tk1 hI1 hk1 iv1 rv1 => ?_
    have nt1 := fun ws => it.notTup γ' i s'.heap ws ci.inv
    have ndI : ∃ o, s'.heap.get? I = some o ∧ NotD o := let ⟨o, e⟩ := (ci.fps I it.mem).2; ⟨o, e, it.nd γ' i s'.heap ci.inv I it.mem o e⟩
    have R1 : HRel D γ' H' h1 := ci.rel.but hk1 hIg hIB nt1 (.inl ndI)
    obtain ⟨m0, hm0⟩ := ci.loc
    have hm1 : h1.Ns C m0 := hm0.at' fun o e => hk1 _ o hCI e
    refine wpAny_assign_Name (wpAny_storeName_local hx (hloc ▸ hm1) (fun h2 hn2 hs2 => ?_) (by rw [hkind]; rfl))
    rw [hloc] at hn2 hs2
    dsimp only at hn2 hs2 ⊢
    have hk2 : ∀ b o, b ≠ C → h1.get? b = some o → h2.get? b = some o := fun b o hb e => hs2.extBut b o hb e
    have nt2 := notTup_dict hm1
    have R2 : HRel D γ' H' h2 := R1.but hk2 ci.cnin hCB nt2 (.inr (isD_ns hn2))
    have t2 : ∀ a ws, TupAt s'.heap a ws → TupAt h2 a ws := fun a ws q => tupAt_but hk2 nt2 (tupAt_but hk1 nt1 q)
    have stp2 : Stp [] γ γ' s { s' with heap := h2, toks := tk1 + 1 } := ((ci.stp.change (tk := tk1) hk1 F.i0).change (tk := tk1 + 1) hk2 F.c0)
    have lrs : LRel D γ' env c.slots h2 L := lr.stp R0 stp2
    have rv2 : Rep D γ' h2 v l[i] := Rep.mono ⟨[], by simp⟩ (fun a ws q => tupAt_but hk2 nt2 q) rv1
    have l2 := mkL γ' h2 _ l[i] v hn2 (by simp) rv2 lrs ci.cnin
    have iv2 : Inv γ' (i + 1) h2 := it.frame γ' γ' (i + 1) h1 h2 iv1 ⟨[], by simp⟩ (fun b hb o e => hk2 b o (fun q => F.cf (q ▸ hb)) e) (fun a ws q => tupAt_but hk2 nt2 q)
    have fp2 : ∀ b ∈ fp, b ∉ γ' ∧ ∃ o, h2.get? b = some o := fun b hb => by
      refine ⟨(ci.fps b hb).1, ?_⟩
      obtain ⟨o, e⟩ := (ci.fps b hb).2
      by_cases hbI : b = I
      · subst hbI; obtain ⟨o', e'⟩ := hI1; exact ⟨o', hk2 _ _ (Ne.symm hCI) e'⟩
      · exact ⟨o, hk2 _ _ (fun q => F.cf (q ▸ hb)) (hk1 _ _ hbI e)⟩
    first | refine e3_1 (ci.out) fun ys ny hy ry => ?_ | refine e2_2 (ci.out) fun ys ny hy ry => ?_ | refine e1_3 (ci.out) fun ys ny hy ry => ?_ | refine e0_4 (ci.out) fun ys ny hy ry => ?_ | obtain ⟨ys, ny, hy, ry⟩ := ci.out
    have hy2 : h2.get? Dd = some { cls := .type "list", data := .seq ys.toArray ny } := hk2 _ _ F.dc (hk1 _ _ hDI hy)
    have ry2 : Reps D γ' h2 ys acc := Reps.mono ⟨[], by simp⟩ t2 ry
    have fr2 : ∀ b ∈ fp, ∀ o, h2.get? b = some o → NotD o := fun b hb o e => it.nd γ' (i + 1) h2 iv2 b hb o e
    clear hm1 nt2 R1 hk2 hs2 rv2 lrs t2 ndI nt1 hk1 rv1 iv1 hI1
    show wpAny D.M A (forIn ([] : List Expr) true _) _ _ _
    rw [List.forIn_nil]
    refine wpAny_pure ?_
    show wpAny D.M A (eval elt cenv) _ _ _
    obtain ⟨s3, hs3⟩ : ∃ s3 : Shared, s3 = { s' with heap := h2, toks := tk1 + 1 } := ⟨_, rfl⟩
    rw [← hs3] at stp2 ⊢
    have hh : h2 = s3.heap := by rw [hs3]
    clear hs3
    subst hh
    refine wpAny_mono ((ihe elt ielt hce).1 cenv A γ' H' s3 _ _ X hE' hA R2 l2 cg) (fun y s4 p => ?_) (fun e s4 p => ?_)
    rotate_left
    · first | refine e3_4 p fun γ4 H4 x' st4 R4 e_174 q => ?_ | obtain ⟨γ4, H4, x', st4, R4, e_174, q⟩ := p
      obtain ⟨fl, hex⟩ := e_174
      first | refine e3_2 (id hn2) fun o es ep eo _ => ?_ | refine e2_3 (id hn2) fun o es ep eo _ => ?_ | refine e1_4 (id hn2) fun o es ep eo _ => ?_ | obtain ⟨o, es, ep, eo, _⟩ := id hn2
      exact err γ4 H4 x' e s4 (stp2.trans0 R2 st4) R4 (fl.from fun _ => fresh_back stp2 R2) hex q (notin_ext st4 ci.cnin eo) ⟨_, st4.ns ci.cnin (by simp) hn2⟩
    first | refine e3_4 p fun γ4 Y H4 st4 R4 ryv q4 => ?_ | obtain ⟨γ4, Y, H4, st4, R4, ryv, q4⟩ := p
    have stp4 : Stp [] γ γ4 s s4 := stp2.trans0 R2 st4
    have dn4 : Dd ∉ γ4 := notin_ext st4 ci.dnin hy2
    have cn4 : C ∉ γ4 := by obtain ⟨o, es, ep, e, _⟩ := id hn2; exact notin_ext st4 ci.cnin e
    have t4 : ∀ a ws, TupAt s3.heap a ws → TupAt s4.heap a ws := fun a ws q => q.stp R2 st4 (by simp)
    have ext4 : ∃ δ, γ4 = γ' ++ δ := let ⟨δ, e, _⟩ := st4.ext; ⟨δ, e⟩
    have hy4 : s4.heap.get? Dd = some { cls := .type "list", data := .seq ys.toArray ny } := st4.keep _ _ ci.dnin (by simp) (notD_seq rfl) hy2
    have ry4 : Reps D γ4 s4.heap ys acc := Reps.mono ext4 t4 ry2
    have hyl := ry4.length
    refine wpAny_list_append_plain (items := ys.toArray) ⟨ny, hy4⟩ (fun h5 hp5 hs5 => ?_) (by rw [sizeLine_eq]; show ys.length ≤ _; omega)
    have hk5 : ∀ b o, b ≠ Dd → s4.heap.get? b = some o → h5.get? b = some o := fun b o hb e => hs5.extBut b o hb e
    have nt5 := notTup_list hy4
    have t5 : ∀ a ws, TupAt s4.heap a ws → TupAt h5 a ws := fun a ws q => tupAt_but hk5 nt5 q
    obtain ⟨n5, e5⟩ := hp5
    have em : ys.toArray.push y = (ys ++ [y]).toArray := by simp
    rw [em] at e5
    refine ⟨l.length - (i + 1), by omega, i + 1, acc ++ [Y], γ4, H4, rfl, hlt, by rw [List.length_append, List.length_singleton]; omega, ?_, q4.2⟩
    refine ⟨stp4.change (tk := s4.toks) hk5 F.d0, R4.but hk5 dn4 hDB nt5 (.inl ⟨_, hy4, notD_seq rfl⟩), ⟨ys ++ [y], n5, e5, Reps.mono ⟨[], by simp⟩ t5 (ry4.append (Reps.one ryv))⟩, dn4, ?_, cn4, ?_, q4.1, ?_⟩
    · exact ⟨_, (st4.ns ci.cnin (by simp) hn2).at' fun o e => hk5 _ o (Ne.symm F.dc) e⟩
    · exact it.frame γ' γ4 (i + 1) s3.heap h5 iv2 ext4 (fun b hb o e => hk5 b o (fun q => F.df (q ▸ hb)) (st4.keep b o (fp2 b hb).1 (by simp) (fr2 b hb o e) e)) (fun a ws q => t5 a ws (t4 a ws q))
    · intro b hb
      first | refine e2_1 (fp2 b hb) fun a o e => ?_ | refine e1_2 (fp2 b hb) fun a o e => ?_ | refine e0_3 (fp2 b hb) fun a o e => ?_ | obtain ⟨a, o, e⟩ := fp2 b hb
      exact ⟨notin_ext st4 a e, o, hk5 b o (fun q => F.df (q ▸ hb)) (st4.keep b o a (by simp) (fr2 b hb o e) e)⟩
  · have hin : i = l.length := by omega
    subst hin
    rw [List.drop_length] at cg
    exact it.done γ' H' s' _ _ ci.rel ci.stb ci.inv fun h1 tk1 hk1 => fin γ' H' s' acc ci cg h1 tk1 hk1
end
end Mine

set_option autoImplicit false
/- Comprehensions: the whole. -/
namespace Mine
open PySem PyProof.Rows

section
variable {D : Wd} {Φ : Orc} {k : Nat} {c : CC}

theorem set_get {L : Lc} {n : Nat} {y v : V} (h : (L.set n (some y))[n]? = some (some v)) : v = y := by
  by_cases hn : n < L.length
  · rw [List.getElem?_set_self hn] at h
    exact (Option.some.inj (Option.some.inj h)).symm
  · rw [List.getElem?_eq_none_iff.mpr (by rw [List.length_set]; exact Nat.le_of_not_lt hn)] at h; exact no_some h
theorem HRel.adopt {γ : List Addr} {H : Hp} {vs : List Value} {l : List V} {h : Heap} {a : Addr} {n : Nat} (R : HRel D γ H h) (r : Reps D γ h vs l) (hz : l.length ≤ 2000000)
    (hn : a ∉ γ) (hB : D.hB.get? a = none) (ha : h.get? a = some { cls := .type "list", data := .seq vs.toArray n }) : HRel D (γ ++ [a]) (H ++ [.list l]) h where
  len := by simp [R.len]
  nodup := by
    refine List.nodup_append.mpr ⟨R.nodup, by simp, ?_⟩
    intro b hb c hc
    simp at hc; subst hc
    intro e; subst e
    exact hn hb
  objs := fun i b o e1 e2 => by
    rcases Nat.lt_trichotomy i γ.length with hi | hi | hi
    · rw [List.getElem?_append_left hi] at e1
      rw [List.getElem?_append_left (R.len ▸ hi)] at e2
      have := R.objs i b o e1 e2
      cases o with
      | list xs =>
        first | refine e3_2 this fun ws n e q z => ?_ | refine e2_3 this fun ws n e q z => ?_ | refine e1_4 this fun ws n e q z => ?_ | obtain ⟨ws, n, e, q, z⟩ := this
        exact ⟨ws, n, e, Reps.mono ⟨_, rfl⟩ (fun _ _ x => x) q, z⟩
    · subst hi
      rw [List.getElem?_append_right (Nat.le_refl _)] at e1
      rw [R.len, List.getElem?_append_right (Nat.le_refl _)] at e2
      simp at e1 e2; subst e1; subst e2
      exact ⟨vs, n, ha, Reps.mono ⟨_, rfl⟩ (fun _ _ x => x) r, by rw [r.length]; exact hz⟩
    · exfalso
      have : (γ ++ [a]).length ≤ i := by simp; omega
      rw [List.getElem?_eq_none this] at e1; cases e1
  fresh := by
    intro b hb
    rcases List.mem_append.mp hb with q | q
    · exact R.fresh b q
    · simp at q; subst q; exact hB
  base := R.base
  frs := R.frs

theorem PostV.adopt {γ γ' : List Addr} {H' : Hp} {s s' : Shared} {Q : V → Hp → Prop} {vs : List Value} {l : List V} {h' : Heap} {a : Addr} {n tk : Nat} (st : Stp [] γ γ' s { s' with heap := h', toks := tk }) (R : HRel D γ' H' h') (r : Reps D γ' h' vs l) (hz : l.length ≤ 2000000)
    (hn : a ∉ γ') (h0 : s.heap.get? a = none) (hB : D.hB.get? a = none) (ha : h'.get? a = some { cls := .type "list", data := .seq vs.toArray n }) (h : Q (.ref H'.length) (H' ++ [.list l])) :
    PostV D γ s Q (.ref a) { s' with heap := h', toks := tk } := by
  refine ⟨γ' ++ [a], .ref H'.length, H' ++ [.list l], ⟨st.same, st.keepS, ?_⟩, R.adopt r hz hn hB ha, ?_, h⟩
  · first | refine e2_1 (st.ext) fun δ e f => ?_ | refine e1_2 (st.ext) fun δ e f => ?_ | refine e0_3 (st.ext) fun δ e f => ?_ | obtain ⟨δ, e, f⟩ := st.ext
    refine ⟨δ ++ [a], by rw [e]; simp, fun b hb => ?_⟩
    rcases List.mem_append.mp hb with q | q
    · exact f b q
    · simp at q; subst q; exact h0
  · exact Exists.intro _ ⟨by rw [List.getElem?_append_right (by rw [R.len]; exact Nat.le_refl _)]; simp [R.len], rfl⟩

structure CompOk (c : CC) (scope : Scope) (x : Str) : Prop where
  kind : scope.kind = .function
  nocell : ∀ y ∈ scope.names, y.2 ≠ .cell
  locs : ∀ y ∈ scope.names, y.2 = .local → scope.names.lookup y.1 = some .local
  frees : ∀ y ∈ scope.names, y.2 = .free → c.scope.names.lookup y.1 = some .cell
  var : scope.names.lookup x = some .local
  own : ∀ y, (y, NameKind.local) ∈ scope.names → y = x ∨ c.slots.lookup y = none
  low : ∀ y i, c.slots.lookup y = some i → i < c.nxt

noncomputable abbrev inner (c : CC) (scope : Scope) (x : Str) : CC := innerC c scope x

theorem relabel_eq {scope : Scope} {env : Env} (he : EnvOk c env) : relabel scope env = relab scope c.scope := by
  rw [← he.scope]; rfl

theorem env_inner {scope : Scope} {x : Str} {env : Env} (he : EnvOk c env) (ok : CompOk c scope x) (cl : List (Str × Addr)) (C : Addr) : EnvOk (inner c scope x) (compEnvC scope cl C env) :=
  ⟨relabel_eq he, ok.kind, he.globals, he.builtins⟩

theorem lrel_inner {scope : Scope} {x : Str} {env : Env} {L : Lc} {C : Addr} (he : EnvOk c env) (ok : CompOk c scope x) :
    ∀ γ' h m W v, h.Ns C m → m x = some v → Rep D γ' h v W → LRel D γ' env c.slots h L → C ∉ γ' → LRel D γ' (compEnvC scope (closGo env scope.names []) C env) (inner c scope x).slots h (L.set c.nxt (some W)) := by
  intro γ' h m W v hn hm rv lr hC
  have hrl : ∀ y, (compEnvC scope (closGo env scope.names []) C env).kindOf y = (relab scope c.scope).names.lookup y := fun y => by
    show (relabel scope env).names.lookup y = _
    rw [relabel_eq he]
  refine ⟨⟨m, hn, ?_⟩, ?_, hC, lr.tp⟩
  · intro y i V hy hs hL
    rw [hrl] at hy
    have hm' := relab_local hy
    have hs' : ((x, c.nxt) :: c.slots).lookup y = some i := hs
    rw [List.lookup_cons] at hs'
    cases hxy : y == x with
    | true =>
      rw [hxy] at hs'
      have : y = x := by simpa using hxy
      subst this
      cases hs'
      obtain rfl := set_get hL
      exact ⟨v, hm, rv⟩
    | false =>
      rw [hxy] at hs'
      rcases ok.own y hm' with q | q
      · subst q; simp at hxy
      · rw [q] at hs'; cases hs'
  · intro y hy
    rw [hrl] at hy
    obtain ⟨hf, ho⟩ := relab_cell ok.nocell hy
    have hk : env.kindOf y = some .cell := by unfold Env.kindOf; rw [he.scope]; exact ho
    first | refine e3_3 (lr.cel y hk) fun ca u e1 e2 e3 e4 => ?_ | refine e2_4 (lr.cel y hk) fun ca u e1 e2 e3 e4 => ?_ | obtain ⟨ca, u, e1, e2, e3, e4⟩ := lr.cel y hk
    refine ⟨ca, u, closGo_lookup hf e1, e2, e3, fun i V hs hL => ?_⟩
    have hs' : ((x, c.nxt) :: c.slots).lookup y = some i := hs
    rw [List.lookup_cons] at hs'
    cases hxy : y == x with
    | true =>
      exfalso
      have : y = x := by simpa using hxy
      subst this
      have := lookup_relabel_local (env := env) ok.var
      have h2 : (relabel scope env).names.lookup y = some .local := this
      rw [relabel_eq he] at h2
      rw [h2] at hy; cases hy
    | false =>
      rw [hxy] at hs'
      have hlt := ok.low y i hs'
      rw [List.getElem?_set_ne (by omega)] at hL
      exact e4 i V hs' hL

theorem passT {M : Model} {A : Around} {E : Value → Shared → Prop} {s : Shared} {α : Type} {what : String} {env : Env} {P : α → Shared → Prop} {e T : Addr} {oe oT : Obj} {vs ts : Array Value} {fl : Value}
    (he : s.heap.get? e = some oe) (hd : oe.data = .fields vs) (h1 : vs[1]? = some (.ref T)) (hT : s.heap.get? T = some oT) (hdT : oT.data = .fields ts) (h3 : ts[3]? = some fl)
    (hQ : ∀ h', (∀ b, b ≠ T → h'.get? b = s.heap.get? b) → (∃ oT' ts', h'.get? T = some oT' ∧ oT'.data = .fields ts' ∧ ∃ fl, ts'[3]? = some fl) → E (.ref e) { s with heap := h' }) : wpAny M A (PySem.passOn what (.ref e) env) P E s := by
  have hz : 3 < ts.size := (Array.getElem?_eq_some_iff.mp h3).1
  have fin : wpAny M A (setFlight (.ref e) env.frame) (fun _ s' => E (.ref e) s') E s := by
    unfold setFlight
    refine wpAny_bind (wpAny_field he hd h1 ?_)
    rw [if_pos (show (Value.ref T != Value.none) = true from by simp)]
    refine wpAny_setField hT hdT hz (hQ _ (fun b hb => Heap.get?_update_other _ _ (Ne.symm hb)) ⟨_, _, Heap.get?_update_self _ hT (Obj.isFreed_of_fields (Obj.data_mapFields hdT _)), Obj.data_mapFields hdT _, _, Array.getElem?_setIfInBounds_self_of_lt hz⟩)
  unfold PySem.passOn
  refine wpAny_bind (wpAny_field he hd h1 ?_)
  rw [if_neg (show ¬ ((Value.ref T == Value.none) = true) from by simp)]
  first
    | exact wpAny_bind (wpAny_pure (wpAny_bind (wpAny_mono fin (fun _ _ q => wpAny_throw q) fun _ _ q => q)))
    | exact wpAny_bind (wpAny_mono fin (fun _ _ q => wpAny_throw q) fun _ _ q => q)
theorem comp_err {env cenv : Env} {A : Around} {X : XL} {L : Lc} {γ γ' : List Addr} {H H' : Hp} {s s' : Shared} {x : Exc} {e : Value} {C : Addr} {use : Option (Value → Sem Unit)} {Qf : Value → Shared → Prop} {v : Value}
    (hA : AOk D k A) (R : HRel D γ H s.heap) (lr : LRel D γ env c.slots s.heap L) (c0 : s.heap.get? C = none) (hfe : cenv.frame = env.frame)
    (st : Stp [] γ γ' s s') (R' : HRel D γ' H' s'.heap) (fl : XFly D s s'.heap e x) (hex : (x.cls, x.ups) ∈ D.ex) (q : X x H') (cn : C ∉ γ') (hm : ∃ m, s'.heap.Ns C m) :
    notedBy D.M A cenv (fun e s' => compPost D.M A (PostX D γ s X) use Qf v C (.error e) s') e s' := by
  first | refine e3_1 (lr.tp) fun e0 outer htop hfr0 => ?_ | refine e2_2 (lr.tp) fun e0 outer htop hfr0 => ?_ | refine e1_3 (lr.tp) fun e0 outer htop hfr0 => ?_ | refine e0_4 (lr.tp) fun e0 outer htop hfr0 => ?_ | obtain ⟨e0, outer, htop, hfr0⟩ := lr.tp
  obtain ⟨_, La, _, hLa, _⟩ := R.frs e0 (by rw [htop]; exact List.mem_cons_self)
  obtain ⟨m, hm⟩ := hm
  show wpAny D.M A (noteFrame e cenv) _ _ s'
  rw [noteFrame_same (env := e0) (hfe.trans hfr0)]
  refine note_any hA.frames R R' htop hLa (.inr fl) fun a Cc a0 ex h' e1 hmg hn hax XF up hh => ?_
  subst e1
  first | refine e3_2 hh fun k1 k2 k3 fl1 k4 => ?_ | refine e2_3 hh fun k1 k2 k3 fl1 k4 => ?_ | refine e1_4 hh fun k1 k2 k3 fl1 k4 => ?_ | obtain ⟨k1, k2, k3, fl1, k4⟩ := hh
  have land : Land ex s'.heap h' := Land.of k1 up
  have R1 := land.rel R' XF
  have st1 := land.stp R'.frs XF st
  have fly1 := fly_of (fun b => fresh_back st R') R'.frs XF land hmg hn k4
  have hm1 : h'.Ns C m := up.ns hm
  have key : ∃ m, h'.Ns C m ∧ ∀ h2, Heap.SameBut C h' h2 → ∀ cenv : Env, cenv.locals = C → wpAny D.M A (PySem.passOn "comprehension.variables-let-go" (.ref a) cenv : Sem Value) (fun _ _ => False) (PostX D γ s X) { s' with heap := h2 } := by
    refine ⟨m, hm1, fun h2 hs2 cenv' _ => ?_⟩
    have hk2 : ∀ b o, b ≠ C → h'.get? b = some o → h2.get? b = some o := fun b o hb e => hs2.extBut b o hb e
    have nt2 := notTup_dict hm1
    have R2 : HRel D γ' H' h2 := R1.butN hk2 cn (base_none R c0) nt2 (R.frs.ne c0)
    have st2 := st1.change (tk := s'.toks) hk2 c0
    obtain ⟨a', oe, vs, C', a0', T, oT, ts, e1, e2, e3, e4, e5, e6, e7, e8, e9, e10, e11, e12, fl2, e13⟩ := fly1
    cases e1
    have nC : ∀ b o vs, h'.get? b = some o → o.data = .fields vs → b ≠ C := fun b o vs e d q => by
      first | refine e3_3 hm1 fun o' es ep ho hd _ => ?_ | refine e2_4 hm1 fun o' es ep ho hd _ => ?_ | obtain ⟨o', es, ep, ho, hd, _⟩ := hm1
      rw [q, ho] at e; cases e; rw [hd] at d; cases d
    have ea := hk2 _ _ (nC _ _ _ e3 e6) e3
    have eT := hk2 _ _ (nC _ _ _ e11 e12) e11
    refine passT (s := { s' with heap := h2 }) ea e6 e8 eT e12 e13 fun h3 hk3 hT3 => ?_
    first | refine e3_2 hT3 fun oT' ts' f1 f2 f3 => ?_ | refine e2_3 hT3 fun oT' ts' f1 f2 f3 => ?_ | refine e1_4 hT3 fun oT' ts' f1 f2 f3 => ?_ | obtain ⟨oT', ts', f1, f2, f3⟩ := hT3
    have hk3' : ∀ b o, b ≠ T → h2.get? b = some o → h3.get? b = some o := fun b o hb e => (hk3 b hb).trans e
    have tn : T ∉ γ' := fun hb => by
      first | refine e2_1 (List.getElem_of_mem hb) fun i hi e_175 => ?_ | refine e1_2 (List.getElem_of_mem hb) fun i hi e_175 => ?_ | refine e0_3 (List.getElem_of_mem hb) fun i hi e_175 => ?_ | obtain ⟨i, hi, e_175⟩ := List.getElem_of_mem hb
      obtain rfl := e_175
      have hH : i < H'.length := R2.len ▸ hi
      have := R2.objs i γ'[i] H'[i] (by simp [hi]) (by simp [hH])
      cases ho : H'[i] with
      | list xs =>
        rw [ho] at this
        first | refine e3_1 this fun ws n e _ => ?_ | refine e2_2 this fun ws n e _ => ?_ | refine e1_3 this fun ws n e _ => ?_ | refine e0_4 this fun ws n e _ => ?_ | obtain ⟨ws, n, e, _⟩ := this
        rw [eT] at e; cases e; cases e12
    have nt3 : ∀ ws, ¬ TupAt h2 T ws := fun ws q => by
      first | refine e2_1 q fun n e _ => ?_ | refine e1_2 q fun n e _ => ?_ | refine e0_3 q fun n e _ => ?_ | obtain ⟨n, e, _⟩ := q
      rw [eT] at e; cases e; cases e12
    exact ⟨γ', H', x, st2.change (tk := s'.toks) hk3' e9, R2.butN hk3' tn (base_none R e9) nt3 (R.frs.ne e9), ⟨⟨a, oe, vs, C', a0', T, oT', ts', rfl, e2, hk3' _ _ (Ne.symm e10) ea, e4, e5, e6, e7, e8, e9, e10, f1, f2, f3⟩, hex⟩, q⟩
  cases use <;> exact key
theorem comp_run {n : Nat} {elt iter : Expr} {x : Str} {px pos cp : Pos} {scope : Scope} {ielt : IE} {kk : SrcK} {ss : IE} {env : Env} {A : Around} {X : XL} {L : Lc} {γ : List Addr} {H : Hp} {s : Shared}
    {Kf : List V → Hp → Prop} {use : Option (Value → Sem Unit)} {Qf : Value → Shared → Prop} (g : GOk D c.G) (ih : ∀ c e ie, GOk D c.G → compE n c e = some ie → Both D Φ k c e ie) (ok : CompOk c scope x)
    (hsrc : compSrc (compE n c) c iter = some (kk, ss)) (hce : compE n (inner c scope x) elt = some ielt) (hE : EnvOk c env) (hA : AOk D k A) (R : HRel D γ H s.heap)
    (lr : LRel D γ env c.slots s.heap L) (hset : ∀ x, foldedSetIterable iter env x = pure x)
    (w : (wp2 Φ ss).E L H (fun v H1 => pSrc kk v H1 fun items st => compGo (fun L' H' K => (wp2 Φ ielt).E L' H' K X) st c.nxt L items [] H1 Kf) X)
    (fin : ∀ γ' H' s' Dd C acc, Stp [] γ γ' s s' → HRel D γ' H' s'.heap → (∃ ys n, s'.heap.get? Dd = some { cls := .type "list", data := .seq ys.toArray n } ∧ Reps D γ' s'.heap ys acc) → Dd ∉ γ' → s.heap.get? Dd = none → (∃ m, s'.heap.Ns C m) → C ∉ γ' → s.heap.get? C = none → Dd ≠ C → Kf acc H' →
      compPost D.M A (PostX D γ s X) use Qf (.ref Dd) C (.ok .next) s') :
    wpAny D.M A (comprehension (.ListComp elt [⟨.Name x px, iter, [], 0⟩] scope pos) scope env cp (newList []) false (eval iter env) use) Qf (PostX D γ s X) s := by
  have hclos : closureFor scope env = pure (closGo env scope.names []) := closureFor_go fun y hy hf => by
    have hk : env.kindOf y.1 = some .cell := by unfold Env.kindOf; rw [hE.scope]; exact ok.frees y hy hf
    first | refine e3_1 (lr.cel y.1 hk) fun ca u e1 _ => ?_ | refine e2_2 (lr.cel y.1 hk) fun ca u e1 _ => ?_ | refine e1_3 (lr.cel y.1 hk) fun ca u e1 _ => ?_ | refine e0_4 (lr.cel y.1 hk) fun ca u e1 _ => ?_ | obtain ⟨ca, u, e1, _⟩ := lr.cel y.1 hk
    exact ⟨ca, e1⟩
  refine wpAny_comprehension_free (use := use) rfl hset hclos ok.kind ok.locs (wpAny_mono (src_ok (K := fun l st H1 => compGo (fun L' H' K => (wp2 Φ ielt).E L' H' K X) st c.nxt L l [] H1 Kf) g (fun e ie h => (ih c e ie g h).1) hsrc hE hA R lr w)
    (fun xv s1 h1 => wpAny_mono h1 (fun it s2 h2 => ?_) fun _ _ e => e) fun _ _ e => e)
  first | refine e7_10 h2 fun γ2 H2 I fp l st Inv e_176 stp2 R2 itr iv fps hI0 hst hlen cg => ?_ | obtain ⟨γ2, H2, I, fp, l, st, Inv, e_176, stp2, R2, itr, iv, fps, hI0, hst, hlen, cg⟩ := h2
  obtain rfl := e_176
  refine wpAny_newObj_type (hd := by size_fits) (wpAny_newFunctionEnv ok.nocell (by intro y hy; simp at hy) (fun h₁ hns₁ hsb₁ => ?_) ok.kind)
  dsimp only at hns₁ hsb₁ ⊢
  generalize hH2 : s2.heap.push { cls := .type "list", dict := none, data := .seq ([] : List Value).toArray } = G2 at hns₁ hsb₁ ⊢
  have hC : G2.objs.size = s2.heap.objs.size + 1 := by rw [← hH2, Heap.size_push]
  have hDC : s2.heap.objs.size ≠ G2.objs.size := by rw [hC]; exact Nat.ne_of_lt (Nat.lt_succ_self _)
  have fresh : ∀ a, s2.heap.objs.size ≤ a → s2.heap.get? a = none := fun a ha => by
    cases e : s2.heap.get? a with
    | none => rfl
    | some o' => exact absurd (Heap.lt_size e) (Nat.not_lt.mpr ha)
  have fresh0 : ∀ a, s2.heap.objs.size ≤ a → s.heap.get? a = none := fun a ha => by
    cases e : s.heap.get? a with
    | none => rfl
    | some o' =>
      by_cases hg : a ∈ γ
      · first | refine e2_1 (stp2.ext) fun δ e1 _ => ?_ | refine e1_2 (stp2.ext) fun δ e1 _ => ?_ | refine e0_3 (stp2.ext) fun δ e1 _ => ?_ | obtain ⟨δ, e1, _⟩ := stp2.ext
        obtain ⟨o2, e2, _⟩ := R2.alive (a := a) (by rw [e1]; exact List.mem_append_left _ hg)
        rw [fresh a ha] at e2; cases e2
      · obtain ⟨_, this⟩ := stp2.live hg (by simp) e
        rw [fresh a ha] at this; cases this
  have nin2 : ∀ a, s2.heap.objs.size ≤ a → a ∉ γ2 := fun a ha hm => by
    first | refine e2_1 (R2.alive hm) fun o2 e2 _ => ?_ | refine e1_2 (R2.alive hm) fun o2 e2 _ => ?_ | refine e0_3 (R2.alive hm) fun o2 e2 _ => ?_ | obtain ⟨o2, e2, _⟩ := R2.alive hm
    rw [fresh a ha] at e2; cases e2
  have below : ∀ b o, s2.heap.get? b = some o → b ≠ G2.objs.size ∧ b ≠ s2.heap.objs.size := fun b o hb => ⟨Nat.ne_of_lt (Nat.lt_trans (Heap.lt_size hb) (by rw [hC]; exact Nat.lt_succ_self _)), Nat.ne_of_lt (Heap.lt_size hb)⟩
  have old : ∀ b o, s2.heap.get? b = some o → h₁.get? b = some o := fun b o e => hsb₁.extBut b o (below b o e).1 (Heap.get?_push_of_some _ (hH2 ▸ Heap.get?_push_of_some _ e))
  have hacc : h₁.get? s2.heap.objs.size = some { cls := .type "list", data := .seq ([] : List Value).toArray } := hsb₁.extBut _ _ hDC (Heap.get?_push_of_some _ (hH2 ▸ Heap.get?_push_size _ rfl))
  have F : CFix D s s2.heap.objs.size G2.objs.size I fp := by
    refine ⟨fresh0 _ (Nat.le_refl _), fresh0 _ (by rw [hC]; exact Nat.le_succ _), hI0, hDC, fun hm => ?_, fun hm => ?_⟩
    · obtain ⟨_, ⟨o, e⟩, _⟩ := fps _ hm; exact absurd (Heap.lt_size e) (Nat.lt_irrefl _)
    · obtain ⟨_, ⟨o, e⟩, _⟩ := fps _ hm; exact absurd (Heap.lt_size e) (by rw [hC]; exact Nat.not_lt.mpr (Nat.le_succ _))
  have loop : ∀ s3 : Shared, s3 = { s2 with heap := h₁, toks := s2.toks + ([] : List (Str × Value)).length } →
      codeAny D.M A (.compLoop (.ListComp elt [⟨.Name x px, iter, [], 0⟩] scope pos) 0 (.ref I) (.ref s2.heap.objs.size) (compEnvC scope (closGo env scope.names []) G2.objs.size env))
        (compPost D.M A (PostX D γ s X) use Qf (.ref s2.heap.objs.size) G2.objs.size) s3 := by
    rintro s3 rfl
    have st3 : Stp [] γ2 γ2 s2 { s2 with heap := h₁, toks := s2.toks + ([] : List (Str × Value)).length } := stp_grow old
    refine comp_loop (env := env) (c := c) (c' := inner c scope x) (st := st) (Inv := Inv) (l := l) (K := Kf) (fp := fp) (L := L) (slot := c.nxt) (γ := γ) (H := H) (s := s) (C := G2.objs.size)
      (env_inner hE ok _ _) hA R lr rfl ?_ (fun e ie h => ih (inner c scope x) e ie g h) hce F itr (lrel_inner hE ok) (fun γ' H' x' e s' a1 a2 a3 a4 a5 a6 a7 => comp_err hA R lr (fresh0 _ (by rw [hC]; exact Nat.le_succ _)) rfl a1 a2 a3 a4 a5 a6 a7) ?_ 0 [] γ2 H2 _ (Nat.zero_le _) (by simp) hlen ?_ cg
    · exact lookup_relabel_local ok.var
    · intro γ' H' s' acc ci hK h' tk hk
      first | refine e3_1 (ci.out) fun ys ny hy ry => ?_ | refine e2_2 (ci.out) fun ys ny hy ry => ?_ | refine e1_3 (ci.out) fun ys ny hy ry => ?_ | refine e0_4 (ci.out) fun ys ny hy ry => ?_ | obtain ⟨ys, ny, hy, ry⟩ := ci.out
      have hIg : I ∉ γ' := (ci.fps I itr.mem).1
      have nt := fun ws => itr.notTup γ' l.length s'.heap ws ci.inv
      refine fin γ' H' _ _ _ acc (ci.stp.change (tk := tk) hk F.i0) (ci.rel.but hk hIg (base_none R F.i0) nt (.inl (let ⟨o, e⟩ := (ci.fps I itr.mem).2; ⟨o, e, itr.nd γ' l.length s'.heap ci.inv I itr.mem o e⟩))) ⟨ys, ny, hk _ _ (fun q => F.df (q ▸ itr.mem)) hy, Reps.mono ⟨[], by simp⟩ (fun _ _ q => tupAt_but hk nt q) ry⟩ ci.dnin F.d0 ?_ ci.cnin F.c0 hDC hK
      obtain ⟨m, hm⟩ := ci.loc
      exact ⟨m, hm.at' fun o e => hk _ o (fun q => F.cf (q ▸ itr.mem)) e⟩
    · refine ⟨stp2.trans0 R2 st3, R2.grow old, ⟨[], 0, hacc, (show Reps _ _ _ [] [] from rfl)⟩, nin2 _ (Nat.le_refl _), ⟨_, hns₁⟩, nin2 _ (by rw [hC]; exact Nat.le_succ _), ?_, hst, ?_⟩
      · exact itr.frame γ2 γ2 0 s2.heap h₁ iv ⟨[], by simp⟩ (fun b hb o e => old b o e) (fun _ _ q => tupAt_grow old q)
      · intro b hb
        first | refine e2_1 (fps b hb) fun a e_177 _ => ?_ | refine e1_2 (fps b hb) fun a e_177 _ => ?_ | refine e0_3 (fps b hb) fun a e_177 _ => ?_ | obtain ⟨a, e_177, _⟩ := fps b hb
        obtain ⟨o, e⟩ := e_177
        exact ⟨a, o, old b o e⟩
  have iv1 : Inv γ2 0 h₁ := itr.frame γ2 γ2 0 s2.heap h₁ iv ⟨[], by simp⟩ (fun b hb o e => old b o e) (fun _ _ q => tupAt_grow old q)
  exact codeAny_compStart_list (loop _ rfl) (itr.self γ2 0 _ _ _ iv1 (loop _ rfl))

theorem e_comp {n : Nat} {elt iter : Expr} {x : Str} {px pos : Pos} {scope : Scope} {ielt : IE} {kk : SrcK} {ss : IE} (g : GOk D c.G) (ih : ∀ c e ie, GOk D c.G → compE n c e = some ie → Both D Φ k c e ie) (ok : CompOk c scope x)
    (hsrc : compSrc (compE n c) c iter = some (kk, ss)) (hce : compE n (inner c scope x) elt = some ielt) (hset : ∀ env x, foldedSetIterable iter env x = pure x) :
    Both D Φ k c (.ListComp elt [⟨.Name x px, iter, [], 0⟩] scope pos) (.comp ielt c.nxt kk ss) := by
  refine both_plain (fun env A γ H s L Q X hE hA R lr w => ?_) rfl (fun _ _ => rfl)
  rw [eval_ListComp]
  refine comp_run (use := none) (cp := _) g ih ok hsrc hce hE hA R lr (hset env) w ?_
  intro γ' H' s' Dd C acc stp R' ho dn d0 hc cn c0 hdc hK
  obtain ⟨m, hm⟩ := hc
  refine ⟨m, hm, fun h' hs => ?_⟩
  have hk : ∀ b o, b ≠ C → s'.heap.get? b = some o → h'.get? b = some o := fun b o hb e => hs.extBut b o hb e
  have nt := notTup_dict hm
  first | refine e3_1 ho fun ys ny hy ry => ?_ | refine e2_2 ho fun ys ny hy ry => ?_ | refine e1_3 ho fun ys ny hy ry => ?_ | refine e0_4 ho fun ys ny hy ry => ?_ | obtain ⟨ys, ny, hy, ry⟩ := ho
  have R'' : HRel D γ' H' h' := R'.butN hk cn (base_none R c0) nt (R.frs.ne c0)
  have hy' := hk _ _ hdc hy
  have ry' : Reps D γ' h' ys acc := Reps.mono ⟨[], by simp⟩ (fun _ _ q => tupAt_but hk nt q) ry
  exact PostV.adopt (h' := h') (tk := s'.toks) (stp.change hk c0) R'' ry' (by have := hK.1; omega) dn d0 (base_none R d0) hy' hK.2
end
end Mine

set_option autoImplicit false
/- zip over two tuples. -/
namespace Mine
open PySem

section
variable {prog : Program} {w : World} {A : Around} {E : Value → Shared → Prop} {s : Shared}

theorem draw_tup {it t : Addr} {i : Nat} {items : Array Value} {Q : Value → Shared → Prop} (hh : A.handled = none) (hit : s.heap.IsTupleIter it t i) (ht : s.heap.IsTuple t items)
    (hQ : ∀ x, items[i]? = some x → ∀ h', h'.IsTupleIter it t (i + 1) → Heap.ExtBut it s.heap h' → Q x { s with heap := h' })
    (hE : items[i]? = none → ∀ h' e, Heap.ExtBut it s.heap h' → (∃ o, h'.get? e = some o ∧ o.cls = .type "StopIteration") → E (.ref e) { s with heap := h' }) : wpAny (model prog w) A (Builtin.SmallTypes.nextOf (.ref it)) Q E s := by
  first | refine e3_1 (id hit) fun o ho hc hd => ?_ | refine e2_2 (id hit) fun o ho hc hd => ?_ | refine e1_3 (id hit) fun o ho hc hd => ?_ | refine e0_4 (id hit) fun o ho hc hd => ?_ | obtain ⟨o, ho, hc, hd⟩ := id hit
  first | refine e3_2 ht fun ol hol _ nl hdl => ?_ | refine e2_3 ht fun ol hol _ nl hdl => ?_ | refine e1_4 ht fun ol hol _ nl hdl => ?_ | obtain ⟨ol, hol, _, nl, hdl⟩ := ht
  unfold Builtin.SmallTypes.nextOf
  refine wpAny_bind (wpAny_callSpecial?_slot (name := Str.ofString "__next__") hit.typeIs F.slot_tuple_iterator_next (wpAny_call_entry F.slot_tuple_iterator_next hit.typeIs F.entry_tuple_iterator_next ?_ (F.args_tuple_iterator_next_1 _)))
  refine wpAny_bind (m := field (.ref it) 0) (wpAny_field ho hd (x := .ref t) rfl ?_)
  rw [if_neg (show ¬ ((Value.ref t == Value.none) = true) from Bool.false_ne_true)]
  refine wpAny_bind (m := field (.ref it) 1) (wpAny_field ho hd (x := .int i 0) rfl ?_)
  refine wpAny_bind (m := seqItems? (.ref t)) (wpAny_seqItems hol hdl ?_)
  show wpAny _ _ (match items[i]? with | some x => _ | none => _) _ _ _
  cases hx : items[i]? with
  | some x =>
    refine wpAny_bind (wpAny_setField ho hd (show 1 < 2 by decide) (wpAny_pure ⟨x, rfl, wpAny_pure (hQ x hx _ ?_ (Heap.SameBut.update ..).extBut)⟩))
    exact ⟨_, Heap.get?_update_self _ ho (Obj.isFreed_of_fields (Obj.data_mapFields hd _)), (Obj.cls_mapFields ..).trans hc, by rw [Obj.data_mapFields hd]; simp [rawInt]⟩
  | none =>
    refine wpAny_bind (wpAny_rule (wpAny_bind (wpAny_setField ho hd (show 0 < 2 by decide) ?_)))
    refine wpAny_bind (m := newExc (.type "StopIteration") []) ?_
    simp only [newExc, newTuple]
    refine wpAny_bind (wpAny_newObj_type ?_ (by size_fits))
    refine wpAny_bind (m := firstArgMember _ _) (wpAny_of_eq (a := Value.none) (by first | rfl | (simp only [firstArgMember]; rfl)) ?_)
    refine wpAny_newObj_type ?_ (by size_fits)
    simp only [raiseNew]
    refine wpAny_bind (wpAny_handled ?_)
    first | rw [show A.in1.handled = none from hh] | rw [hh]
    refine wpAny_bind (wpAny_pure (wpAny_throw ?_))
    exact hE hx _ _ (((Heap.SameBut.update ..).extBut.push _).push _) ⟨_, Heap.get?_push_size _ rfl, rfl⟩
end

/- the state of a zip of two tuples: its own five objects, all new -/
structure ZipT (h : Heap) (B : Nat) (t1 t2 : Nat) (f0 : Value) (k1 k2 : Nat) (xs ys : Array Value) : Prop where
  z : IsZip h (B + 4) (B + 2) (B + 3) f0
  ti : IsPair h (B + 2) (.ref B) (.ref (B + 1))
  to : ∃ a b, IsPair h (B + 3) a b
  i1 : h.IsTupleIter B t1 k1
  i2 : h.IsTupleIter (B + 1) t2 k2
  l1 : h.IsTuple t1 xs
  l2 : h.IsTuple t2 ys
  lt1 : t1 < B
  lt2 : t2 < B

theorem ad {a b : Nat} (h : a ≠ b) : @Ne Addr a b := h
theorem adp {B i j : Nat} (h : Nat.beq i j = false) : @Ne Addr (B + i : Nat) (B + j : Nat) := fun e => by
  have : i = j := Nat.add_left_cancel e
  subst this
  rw [Nat.beq_refl] at h; cases h
theorem ad0 {B j : Nat} (h : Nat.beq 0 j = false) : @Ne Addr B (B + j : Nat) := adp (i := 0) h
theorem ad1 {B j : Nat} (h : Nat.beq j 0 = false) : @Ne Addr (B + j : Nat) B := adp (j := 0) h
theorem adt {t B j : Nat} (h : t < B) : @Ne Addr t (B + j : Nat) := Nat.ne_of_lt (Nat.lt_add_right j h)
theorem adt0 {t B : Nat} (h : t < B) : @Ne Addr t B := Nat.ne_of_lt h
theorem adc {c B j : Nat} (h : c < B ∨ B + 5 ≤ c) (hj : Nat.ble j 4 = true) : @Ne Addr c (B + j : Nat) := by
  rcases h with h | h
  · exact adt h
  · exact Nat.ne_of_gt (Nat.lt_of_lt_of_le (Nat.add_lt_add_left (Nat.lt_succ_of_le (Nat.le_of_ble_eq_true hj)) B) h)
theorem adc0 {c B : Nat} (h : c < B ∨ B + 5 ≤ c) : @Ne Addr c B := adc (j := 0) h rfl
theorem adg {g B j : Nat} (h : B + 5 ≤ g) (hj : Nat.ble j 4 = true) : @Ne Addr g (B + j : Nat) := adc (.inr h) hj
theorem lb {B j k : Nat} (h : Nat.blt j k = true) : B + j < B + k := Nat.add_lt_add_left (Nat.le_of_ble_eq_true h) B
theorem lb0 {B k : Nat} (h : Nat.blt 0 k = true) : B < B + k := lb (j := 0) h

section
variable {prog : Program} {w : World} {A : Around} {E : Value → Shared → Prop} {s : Shared}

theorem ez {h : Heap} {B : Nat} {e : Addr} {o : Obj} {a b : Nat} {f : Value} (hz : IsZip h (B + 4) a b f) (ho : h.get? e = some o) (hc : o.cls = .type "StopIteration") : @Ne Addr e (B + 4 : Nat) := fun x => by
  subst x; rw [hz] at ho; cases ho; exact absurd hc (show ¬ Value.type "zip" = Value.type "StopIteration" by decide)
theorem zipT_next {B : Nat} {t1 t2 : Nat} {k : Nat} {xs ys : Array Value} {Q : Value → Shared → Prop} (hh : A.handled = none) (Z : ZipT s.heap B t1 t2 .none k k xs ys)
    (hQ : ∀ x y, xs[k]? = some x → ys[k]? = some y → ∀ (h' : Heap) (T : Nat), ZipT h' B t1 t2 (rawInt T) (k + 1) (k + 1) xs ys → IsPair h' T x y → B + 5 ≤ T → (∀ (c : Nat) o, (c < B ∨ B + 5 ≤ c) → s.heap.get? c = some o → h'.get? c = some o) → Q (.ref T) { s with heap := h' })
    (hE : (xs[k]? = none ∨ ys[k]? = none) → ∀ (h' : Heap) e, (∀ (c : Nat) o, (c < B ∨ B + 5 ≤ c) → s.heap.get? c = some o → h'.get? c = some o) → (∃ o, h'.get? e = some o ∧ o.cls = .type "StopIteration") → E (.ref e) { s with heap := h' }) :
    wpAny (model prog w) A (Builtin.«zip.__next__» ⟨[.ref (B + 4 : Nat)], []⟩) (fun fin s' => ∃ v, fin = .done (.ret v) ∧ Q v s') E s := by
  first | refine e4_5 Z fun hz hTI e_178 h1 h2 hl1 hl2 lt1 lt2 => ?_ | obtain ⟨hz, hTI, e_178, h1, h2, hl1, hl2, lt1, lt2⟩ := Z
  obtain ⟨a, b, hTO⟩ := e_178
  refine wpAny_bind (m := field (.ref (B + 4 : Nat)) 2) (wpAny_field hz rfl (x := .bool false) rfl ?_)
  refine wpAny_bind (m := field (.ref (B + 4 : Nat)) 3) (wpAny_field hz rfl (x := .ref (B + 2 : Nat)) rfl ?_)
  refine wpAny_bind (wpAny_seqItems hTI rfl ?_)
  refine wpAny_bind (m := Builtin.SmallTypes.ownedTupleIsFree (.ref (B + 4 : Nat))) ?_
  unfold Builtin.SmallTypes.ownedTupleIsFree
  refine wpAny_bind (wpAny_field hz rfl (x := .none) rfl (wpAny_pure ?_))
  simp only [if_true]
  refine wpAny_bind (wpAny_rule ?_)
  refine wpAny_bind (wpAny_field hz rfl (x := .ref (B + 3 : Nat)) rfl ?_)
  refine wpAny_bind (wpAny_setField_rec hz (by simp) fun g1 hz1 s1 => ?_)
  replace hz1 : IsZip g1 (B + 4) (B + 2) (B + 3) .ellipsis := hz1
  refine wpAny_bind ?_
  simp only [List.zipIdx_cons, List.zipIdx_nil, List.forIn_cons, List.forIn_nil]
  refine wpAny_bind (wpAny_bind (wpAny_onRaise ?_))
  refine wpAny_bind (m := Builtin.SmallTypes.nextOf (.ref B)) (draw_tup hh (h1.extBut s1.extBut (by first | exact adp rfl | exact ad0 rfl | exact ad1 rfl | exact adt lt1 | exact adt lt2 | exact adt0 lt1 | exact adt0 lt2 | exact adc hc rfl | exact adc0 hc | exact adg hle rfl)) (hl1.extBut s1.extBut (by first | exact adp rfl | exact ad0 rfl | exact ad1 rfl | exact adt lt1 | exact adt lt2 | exact adt0 lt1 | exact adt0 lt2 | exact adc hc rfl | exact adc0 hc | exact adg hle rfl)) (fun x hx g2 h12 s2 => wpAny_pure ?_) fun hx g2 e s2 he => ?fst)
  case fst =>
    first | refine e2_1 he fun oe hoe hce => ?_ | refine e1_2 he fun oe hoe hce => ?_ | refine e0_3 he fun oe hoe hce => ?_ | obtain ⟨oe, hoe, hce⟩ := he
    have hz2 : IsZip g2 (B + 4) (B + 2) (B + 3) .ellipsis := s2 _ _ (by first | exact adp rfl | exact ad0 rfl | exact ad1 rfl | exact adt lt1 | exact adt lt2 | exact adt0 lt1 | exact adt0 lt2 | exact adc hc rfl | exact adc0 hc | exact adg hle rfl) hz1
    exact wpAny_setField_rec hz2 (by simp) fun g3 _ s3 => hE (.inl hx) g3 e (fun c o hc x => s3.extBut _ _ (by first | exact adp rfl | exact ad0 rfl | exact ad1 rfl | exact adt lt1 | exact adt lt2 | exact adt0 lt1 | exact adt0 lt2 | exact adc hc rfl | exact adc0 hc | exact adg hle rfl) (s2 _ _ (by first | exact adp rfl | exact ad0 rfl | exact ad1 rfl | exact adt lt1 | exact adt lt2 | exact adt0 lt1 | exact adt0 lt2 | exact adc hc rfl | exact adc0 hc | exact adg hle rfl) (s1.extBut _ _ (by first | exact adp rfl | exact ad0 rfl | exact ad1 rfl | exact adt lt1 | exact adt lt2 | exact adt0 lt1 | exact adt0 lt2 | exact adc hc rfl | exact adc0 hc | exact adg hle rfl) x))) ⟨oe, s3.extBut _ _ (ez hz2 hoe hce) hoe, hce⟩
  have hTO2 : IsPair g2 (B + 3) a b := s2 _ _ (by first | exact adp rfl | exact ad0 rfl | exact ad1 rfl | exact adt lt1 | exact adt lt2 | exact adt0 lt1 | exact adt0 lt2 | exact adc hc rfl | exact adc0 hc | exact adg hle rfl) (s1.extBut _ _ (by first | exact adp rfl | exact ad0 rfl | exact ad1 rfl | exact adt lt1 | exact adt lt2 | exact adt0 lt1 | exact adt0 lt2 | exact adc hc rfl | exact adc0 hc | exact adg hle rfl) hTO)
  refine wpAny_bind (wpAny_seqItems hTO2 rfl ?_)
  refine wpAny_bind (wpAny_updateSeq_pair hTO2 fun g3 hTO3 s3 => ?_)
  replace hTO3 : IsPair g3 (B + 3) x b := hTO3
  refine wpAny_bind (wpAny_letGo (wpAny_pure ?_))
  refine wpAny_bind (wpAny_bind (wpAny_onRaise ?_))
  have hz3 : IsZip g3 (B + 4) (B + 2) (B + 3) .ellipsis := s3.extBut _ _ (by first | exact adp rfl | exact ad0 rfl | exact ad1 rfl | exact adt lt1 | exact adt lt2 | exact adt0 lt1 | exact adt0 lt2 | exact adc hc rfl | exact adc0 hc | exact adg hle rfl) (s2 _ _ (by first | exact adp rfl | exact ad0 rfl | exact ad1 rfl | exact adt lt1 | exact adt lt2 | exact adt0 lt1 | exact adt0 lt2 | exact adc hc rfl | exact adc0 hc | exact adg hle rfl) hz1)
  refine wpAny_bind (m := Builtin.SmallTypes.nextOf (.ref (B + 1 : Nat))) (draw_tup hh (((h2.extBut s1.extBut (by first | exact adp rfl | exact ad0 rfl | exact ad1 rfl | exact adt lt1 | exact adt lt2 | exact adt0 lt1 | exact adt0 lt2 | exact adc hc rfl | exact adc0 hc | exact adg hle rfl)).extBut s2 (by first | exact adp rfl | exact ad0 rfl | exact ad1 rfl | exact adt lt1 | exact adt lt2 | exact adt0 lt1 | exact adt0 lt2 | exact adc hc rfl | exact adc0 hc | exact adg hle rfl)).extBut s3.extBut (by first | exact adp rfl | exact ad0 rfl | exact ad1 rfl | exact adt lt1 | exact adt lt2 | exact adt0 lt1 | exact adt0 lt2 | exact adc hc rfl | exact adc0 hc | exact adg hle rfl))
    (((hl2.extBut s1.extBut (by first | exact adp rfl | exact ad0 rfl | exact ad1 rfl | exact adt lt1 | exact adt lt2 | exact adt0 lt1 | exact adt0 lt2 | exact adc hc rfl | exact adc0 hc | exact adg hle rfl)).extBut s2 (by first | exact adp rfl | exact ad0 rfl | exact ad1 rfl | exact adt lt1 | exact adt lt2 | exact adt0 lt1 | exact adt0 lt2 | exact adc hc rfl | exact adc0 hc | exact adg hle rfl)).extBut s3.extBut (by first | exact adp rfl | exact ad0 rfl | exact ad1 rfl | exact adt lt1 | exact adt lt2 | exact adt0 lt1 | exact adt0 lt2 | exact adc hc rfl | exact adc0 hc | exact adg hle rfl)) (fun y hy g4 h24 s4 => wpAny_pure ?_) fun hy g4 e s4 he => ?snd)
  case snd =>
    first | refine e2_1 he fun oe hoe hce => ?_ | refine e1_2 he fun oe hoe hce => ?_ | refine e0_3 he fun oe hoe hce => ?_ | obtain ⟨oe, hoe, hce⟩ := he
    have hz4 : IsZip g4 (B + 4) (B + 2) (B + 3) .ellipsis := s4 _ _ (by first | exact adp rfl | exact ad0 rfl | exact ad1 rfl | exact adt lt1 | exact adt lt2 | exact adt0 lt1 | exact adt0 lt2 | exact adc hc rfl | exact adc0 hc | exact adg hle rfl) hz3
    exact wpAny_setField_rec hz4 (by simp) fun g5 _ s5 => hE (.inr hy) g5 e (fun c o hc x => s5.extBut _ _ (by first | exact adp rfl | exact ad0 rfl | exact ad1 rfl | exact adt lt1 | exact adt lt2 | exact adt0 lt1 | exact adt0 lt2 | exact adc hc rfl | exact adc0 hc | exact adg hle rfl) (s4 _ _ (by first | exact adp rfl | exact ad0 rfl | exact ad1 rfl | exact adt lt1 | exact adt lt2 | exact adt0 lt1 | exact adt0 lt2 | exact adc hc rfl | exact adc0 hc | exact adg hle rfl) (s3.extBut _ _ (by first | exact adp rfl | exact ad0 rfl | exact ad1 rfl | exact adt lt1 | exact adt lt2 | exact adt0 lt1 | exact adt0 lt2 | exact adc hc rfl | exact adc0 hc | exact adg hle rfl) (s2 _ _ (by first | exact adp rfl | exact ad0 rfl | exact ad1 rfl | exact adt lt1 | exact adt lt2 | exact adt0 lt1 | exact adt0 lt2 | exact adc hc rfl | exact adc0 hc | exact adg hle rfl) (s1.extBut _ _ (by first | exact adp rfl | exact ad0 rfl | exact ad1 rfl | exact adt lt1 | exact adt lt2 | exact adt0 lt1 | exact adt0 lt2 | exact adc hc rfl | exact adc0 hc | exact adg hle rfl) x))))) ⟨oe, s5.extBut _ _ (ez hz4 hoe hce) hoe, hce⟩
  have hTO4 : IsPair g4 (B + 3) x b := s4 _ _ (by first | exact adp rfl | exact ad0 rfl | exact ad1 rfl | exact adt lt1 | exact adt lt2 | exact adt0 lt1 | exact adt0 lt2 | exact adc hc rfl | exact adc0 hc | exact adg hle rfl) hTO3
  refine wpAny_bind (wpAny_seqItems hTO4 rfl ?_)
  refine wpAny_bind (wpAny_updateSeq_pair hTO4 fun g5 hTO5 s5 => ?_)
  replace hTO5 : IsPair g5 (B + 3) x y := hTO5
  refine wpAny_bind (wpAny_letGo (wpAny_pure (wpAny_pure ?_)))
  refine wpAny_bind (wpAny_seqItems hTO5 rfl ?_)
  refine wpAny_bind (wpAny_newTuple ?_)
  have hz5 : IsZip g5 (B + 4) (B + 2) (B + 3) .ellipsis := s5.extBut _ _ (by first | exact adp rfl | exact ad0 rfl | exact ad1 rfl | exact adt lt1 | exact adt lt2 | exact adt0 lt1 | exact adt0 lt2 | exact adc hc rfl | exact adc0 hc | exact adg hle rfl) (s4 _ _ (by first | exact adp rfl | exact ad0 rfl | exact ad1 rfl | exact adt lt1 | exact adt lt2 | exact adt0 lt1 | exact adt0 lt2 | exact adc hc rfl | exact adc0 hc | exact adg hle rfl) hz3)
  have k5 : ∀ (c : Nat) o, @Ne Addr c (B + 4 : Nat) → @Ne Addr c (B + 3 : Nat) → @Ne Addr c B → @Ne Addr c (B + 1 : Nat) → s.heap.get? c = some o → g5.get? c = some o := fun c o c1 c2 c3 c4 e =>
    s5.extBut _ _ c2 (s4 _ _ c4 (s3.extBut _ _ c2 (s2 _ _ c3 (s1.extBut _ _ c1 e))))
  have hle : B + 5 ≤ g5.objs.size := Heap.lt_size hz5
  have h14 := ((h12.extBut s3.extBut (by first | exact adp rfl | exact ad0 rfl | exact ad1 rfl | exact adt lt1 | exact adt lt2 | exact adt0 lt1 | exact adt0 lt2 | exact adc hc rfl | exact adc0 hc | exact adg hle rfl)).extBut s4 (by first | exact adp rfl | exact ad0 rfl | exact ad1 rfl | exact adt lt1 | exact adt lt2 | exact adt0 lt1 | exact adt0 lt2 | exact adc hc rfl | exact adc0 hc | exact adg hle rfl)).extBut s5.extBut (by first | exact adp rfl | exact ad0 rfl | exact ad1 rfl | exact adt lt1 | exact adt lt2 | exact adt0 lt1 | exact adt0 lt2 | exact adc hc rfl | exact adc0 hc | exact adg hle rfl)
  have h25 := h24.extBut s5.extBut (by first | exact adp rfl | exact ad0 rfl | exact ad1 rfl | exact adt lt1 | exact adt lt2 | exact adt0 lt1 | exact adt0 lt2 | exact adc hc rfl | exact adc0 hc | exact adg hle rfl)
  clear s1 s2 s3 s4 s5 hTO hTO2 hTO3 hTO4 h1 h2 hz hz1 hz3 h12 h24
  refine wpAny_bind (m := Builtin.SmallTypes.ownedTupleHandOut (.ref (B + 4 : Nat)) (.ref g5.objs.size)) ?_
  unfold Builtin.SmallTypes.ownedTupleHandOut
  have hz6 : IsZip (g5.push { cls := .type "tuple", data := .seq #[x, y] }) (B + 4) (B + 2) (B + 3) .ellipsis := Heap.get?_push_of_some _ hz5
  refine wpAny_bind (wpAny_setField_rec hz6 (by simp) fun g7 hz7 s7 => ?_)
  replace hz7 : IsZip g7 (B + 4) (B + 2) (B + 3) (rawInt g5.objs.size) := hz7
  refine wpAny_setField_rec hz7 (by simp) fun g8 hz8 s8 => ?_
  replace hz8 : IsZip g8 (B + 4) (B + 2) (B + 3) (rawInt g5.objs.size) := hz8
  have up : ∀ (c : Nat) o, @Ne Addr c (B + 4 : Nat) → g5.get? c = some o → g8.get? c = some o := fun c o c1 e => s8.extBut _ _ c1 (s7.extBut _ _ c1 (Heap.get?_push_of_some _ e))
  have hT8 : IsPair g8 g5.objs.size x y := s8.extBut _ _ (by first | exact adp rfl | exact ad0 rfl | exact ad1 rfl | exact adt lt1 | exact adt lt2 | exact adt0 lt1 | exact adt0 lt2 | exact adc hc rfl | exact adc0 hc | exact adg hle rfl) (s7.extBut _ _ (by first | exact adp rfl | exact ad0 rfl | exact ad1 rfl | exact adt lt1 | exact adt lt2 | exact adt0 lt1 | exact adt0 lt2 | exact adc hc rfl | exact adc0 hc | exact adg hle rfl) (Heap.get?_push_size _ rfl))
  refine wpAny_pure ⟨_, rfl, hQ x y hx hy g8 g5.objs.size ⟨hz8, up _ _ (by first | exact adp rfl | exact ad0 rfl | exact ad1 rfl | exact adt lt1 | exact adt lt2 | exact adt0 lt1 | exact adt0 lt2 | exact adc hc rfl | exact adc0 hc | exact adg hle rfl) (k5 _ _ (by first | exact adp rfl | exact ad0 rfl | exact ad1 rfl | exact adt lt1 | exact adt lt2 | exact adt0 lt1 | exact adt0 lt2 | exact adc hc rfl | exact adc0 hc | exact adg hle rfl) (by first | exact adp rfl | exact ad0 rfl | exact ad1 rfl | exact adt lt1 | exact adt lt2 | exact adt0 lt1 | exact adt0 lt2 | exact adc hc rfl | exact adc0 hc | exact adg hle rfl) (by first | exact adp rfl | exact ad0 rfl | exact ad1 rfl | exact adt lt1 | exact adt lt2 | exact adt0 lt1 | exact adt0 lt2 | exact adc hc rfl | exact adc0 hc | exact adg hle rfl) (by first | exact adp rfl | exact ad0 rfl | exact ad1 rfl | exact adt lt1 | exact adt lt2 | exact adt0 lt1 | exact adt0 lt2 | exact adc hc rfl | exact adc0 hc | exact adg hle rfl) hTI), ⟨x, y, up _ _ (by first | exact adp rfl | exact ad0 rfl | exact ad1 rfl | exact adt lt1 | exact adt lt2 | exact adt0 lt1 | exact adt0 lt2 | exact adc hc rfl | exact adc0 hc | exact adg hle rfl) hTO5⟩, ?_, ?_, ?_, ?_, lt1, lt2⟩ hT8 hle fun c o hc e => up c o (by first | exact adp rfl | exact ad0 rfl | exact ad1 rfl | exact adt lt1 | exact adt lt2 | exact adt0 lt1 | exact adt0 lt2 | exact adc hc rfl | exact adc0 hc | exact adg hle rfl) (k5 c o (by first | exact adp rfl | exact ad0 rfl | exact ad1 rfl | exact adt lt1 | exact adt lt2 | exact adt0 lt1 | exact adt0 lt2 | exact adc hc rfl | exact adc0 hc | exact adg hle rfl) (by first | exact adp rfl | exact ad0 rfl | exact ad1 rfl | exact adt lt1 | exact adt lt2 | exact adt0 lt1 | exact adt0 lt2 | exact adc hc rfl | exact adc0 hc | exact adg hle rfl) (by first | exact adp rfl | exact ad0 rfl | exact ad1 rfl | exact adt lt1 | exact adt lt2 | exact adt0 lt1 | exact adt0 lt2 | exact adc hc rfl | exact adc0 hc | exact adg hle rfl) (by first | exact adp rfl | exact ad0 rfl | exact ad1 rfl | exact adt lt1 | exact adt lt2 | exact adt0 lt1 | exact adt0 lt2 | exact adc hc rfl | exact adc0 hc | exact adg hle rfl) e)⟩
  · first | refine e2_1 h14 fun o e r => ?_ | refine e1_2 h14 fun o e r => ?_ | refine e0_3 h14 fun o e r => ?_ | obtain ⟨o, e, r⟩ := h14
    exact ⟨o, up _ _ (by first | exact adp rfl | exact ad0 rfl | exact ad1 rfl | exact adt lt1 | exact adt lt2 | exact adt0 lt1 | exact adt0 lt2 | exact adc hc rfl | exact adc0 hc | exact adg hle rfl) e, r⟩
  · first | refine e2_1 h25 fun o e r => ?_ | refine e1_2 h25 fun o e r => ?_ | refine e0_3 h25 fun o e r => ?_ | obtain ⟨o, e, r⟩ := h25
    exact ⟨o, up _ _ (by first | exact adp rfl | exact ad0 rfl | exact ad1 rfl | exact adt lt1 | exact adt lt2 | exact adt0 lt1 | exact adt0 lt2 | exact adc hc rfl | exact adc0 hc | exact adg hle rfl) e, r⟩
  · first | refine e2_1 hl1 fun o e r => ?_ | refine e1_2 hl1 fun o e r => ?_ | refine e0_3 hl1 fun o e r => ?_ | obtain ⟨o, e, r⟩ := hl1
    exact ⟨o, up _ _ (by first | exact adp rfl | exact ad0 rfl | exact ad1 rfl | exact adt lt1 | exact adt lt2 | exact adt0 lt1 | exact adt0 lt2 | exact adc hc rfl | exact adc0 hc | exact adg hle rfl) (k5 _ _ (by first | exact adp rfl | exact ad0 rfl | exact ad1 rfl | exact adt lt1 | exact adt lt2 | exact adt0 lt1 | exact adt0 lt2 | exact adc hc rfl | exact adc0 hc | exact adg hle rfl) (by first | exact adp rfl | exact ad0 rfl | exact ad1 rfl | exact adt lt1 | exact adt lt2 | exact adt0 lt1 | exact adt0 lt2 | exact adc hc rfl | exact adc0 hc | exact adg hle rfl) (by first | exact adp rfl | exact ad0 rfl | exact ad1 rfl | exact adt lt1 | exact adt lt2 | exact adt0 lt1 | exact adt0 lt2 | exact adc hc rfl | exact adc0 hc | exact adg hle rfl) (by first | exact adp rfl | exact ad0 rfl | exact ad1 rfl | exact adt lt1 | exact adt lt2 | exact adt0 lt1 | exact adt0 lt2 | exact adc hc rfl | exact adc0 hc | exact adg hle rfl) e), r⟩
  · first | refine e2_1 hl2 fun o e r => ?_ | refine e1_2 hl2 fun o e r => ?_ | refine e0_3 hl2 fun o e r => ?_ | obtain ⟨o, e, r⟩ := hl2
    exact ⟨o, up _ _ (by first | exact adp rfl | exact ad0 rfl | exact ad1 rfl | exact adt lt1 | exact adt lt2 | exact adt0 lt1 | exact adt0 lt2 | exact adc hc rfl | exact adc0 hc | exact adg hle rfl) (k5 _ _ (by first | exact adp rfl | exact ad0 rfl | exact ad1 rfl | exact adt lt1 | exact adt lt2 | exact adt0 lt1 | exact adt0 lt2 | exact adc hc rfl | exact adc0 hc | exact adg hle rfl) (by first | exact adp rfl | exact ad0 rfl | exact ad1 rfl | exact adt lt1 | exact adt lt2 | exact adt0 lt1 | exact adt0 lt2 | exact adc hc rfl | exact adc0 hc | exact adg hle rfl) (by first | exact adp rfl | exact ad0 rfl | exact ad1 rfl | exact adt lt1 | exact adt lt2 | exact adt0 lt1 | exact adt0 lt2 | exact adc hc rfl | exact adc0 hc | exact adg hle rfl) (by first | exact adp rfl | exact ad0 rfl | exact ad1 rfl | exact adt lt1 | exact adt lt2 | exact adt0 lt1 | exact adt0 lt2 | exact adc hc rfl | exact adc0 hc | exact adg hle rfl) e), r⟩
theorem pyNext_zipT {B : Nat} {t1 t2 : Nat} {k : Nat} {xs ys : Array Value} {Q : Option Value → Shared → Prop} (hh : A.handled = none) (Z : ZipT s.heap B t1 t2 .none k k xs ys)
    (hQ : ∀ x y, xs[k]? = some x → ys[k]? = some y → ∀ (h' : Heap) (T : Nat), ZipT h' B t1 t2 (rawInt T) (k + 1) (k + 1) xs ys → IsPair h' T x y → B + 5 ≤ T → (∀ (c : Nat) o, (c < B ∨ B + 5 ≤ c) → s.heap.get? c = some o → h'.get? c = some o) → Q (some (.ref T)) { s with heap := h' })
    (hE : (xs[k]? = none ∨ ys[k]? = none) → ∀ (h' : Heap), (∀ (c : Nat) o, (c < B ∨ B + 5 ≤ c) → s.heap.get? c = some o → h'.get? c = some o) → Q none { s with heap := h' }) :
    wpAny (model prog w) A (pyNext (.ref (B + 4 : Nat))) Q E s := by
  have hT : s.TypeIs (.ref (B + 4 : Nat)) "zip" := ⟨_, Z.z, rfl⟩
  unfold pyNext
  refine wpAny_bind (wpAny_attempt (wpAny_callSpecial?_slot (name := Str.ofString "__next__") hT F.slot_zip_next
    (wpAny_call_entry F.slot_zip_next hT F.entry_zip_next (zipT_next hh Z (fun x y e1 e2 h' T a1 a2 a3 a4 => wpAny_pure (hQ x y e1 e2 h' T a1 a2 a3 a4)) fun hend h' e hk he => ?_) (F.args_zip_next_1 _))))
  first | refine e2_1 he fun o ho hc => ?_ | refine e1_2 he fun o ho hc => ?_ | refine e0_3 he fun o ho hc => ?_ | obtain ⟨o, ho, hc⟩ := he
  exact wpAny_bind (wpAny_isInstance (T := "StopIteration") (b := true) ⟨o, ho, hc⟩ isSubtype_stop (wpAny_pure (hE hend _ hk)))

theorem ZipT.at {h h' : Heap} {B t1 t2 k1 k2 : Nat} {f0 : Value} {xs ys : Array Value} (Z : ZipT h B t1 t2 f0 k1 k2 xs ys) (hk : ∀ (c : Nat) o, c < B + 5 → h.get? c = some o → h'.get? c = some o) : ZipT h' B t1 t2 f0 k1 k2 xs ys := by
  first | refine e4_5 Z fun hz hTI e_179 e_180 e_181 e_182 e_183 lt1 lt2 => ?_ | obtain ⟨hz, hTI, e_179, e_180, e_181, e_182, e_183, lt1, lt2⟩ := Z
  obtain ⟨a, b, hTO⟩ := e_179
  obtain ⟨o1, e1, r1⟩ := e_180
  obtain ⟨o2, e2, r2⟩ := e_181
  obtain ⟨o3, e3, r3⟩ := e_182
  obtain ⟨o4, e4, r4⟩ := e_183
  exact ⟨hk _ _ (Nat.lt_succ_self _) hz, hk _ _ (lb rfl) hTI, ⟨a, b, hk _ _ (lb rfl) hTO⟩, ⟨o1, hk _ _ (lb0 rfl) e1, r1⟩, ⟨o2, hk _ _ (lb rfl) e2, r2⟩, ⟨o3, hk _ _ (Nat.lt_add_right 5 lt1) e3, r3⟩, ⟨o4, hk _ _ (Nat.lt_add_right 5 lt2) e4, r4⟩, lt1, lt2⟩
theorem go_zipT {elts : List Expr} {x1 : Nat} {pos : Pos} {B t1 t2 k T : Nat} {xs ys : Array Value} {Q : Unit → Shared → Prop} (Z : ZipT s.heap B t1 t2 (rawInt T) k k xs ys)
    (hQ : ∀ (h' : Heap), ZipT h' B t1 t2 .none k k xs ys → (∀ (c : Nat) o, c ≠ B + 4 → s.heap.get? c = some o → h'.get? c = some o) → Q () { s with heap := h' }) :
    wpAny (model prog w) A (letOwnedTupleGo (.Tuple elts x1 pos) (.ref (B + 4 : Nat)) (.ref T)) Q E s := by
  refine wpAny_letOwnedTupleGo_zip Z.z fun h' hz' hs' => hQ h' ?_ fun c o hc e => hs'.extBut _ _ (ad hc) e
  have hk : ∀ (c : Nat) o, c ≠ B + 4 → s.heap.get? c = some o → h'.get? c = some o := fun c o hc e => hs'.extBut _ _ (ad hc) e
  first | refine e4_5 Z fun hz hTI e_184 e_185 e_186 e_187 e_188 lt1 lt2 => ?_ | obtain ⟨hz, hTI, e_184, e_185, e_186, e_187, e_188, lt1, lt2⟩ := Z
  obtain ⟨a, b, hTO⟩ := e_184
  obtain ⟨o1, e1, r1⟩ := e_185
  obtain ⟨o2, e2, r2⟩ := e_186
  obtain ⟨o3, e3, r3⟩ := e_187
  obtain ⟨o4, e4, r4⟩ := e_188
  exact ⟨hz', hk _ _ (adp rfl) hTI, ⟨a, b, hk _ _ (adp rfl) hTO⟩, ⟨o1, hk _ _ (ad0 rfl) e1, r1⟩, ⟨o2, hk _ _ (adp rfl) e2, r2⟩, ⟨o3, hk _ _ (adt lt1) e3, r3⟩, ⟨o4, hk _ _ (adt lt2) e4, r4⟩, lt1, lt2⟩
end

noncomputable abbrev zH1 (h : Heap) (l1 : Addr) : Heap := h.push { cls := .type "tuple_iterator", data := .fields #[.ref l1, .int 0 0] }
noncomputable abbrev zH2 (h : Heap) (l1 l2 : Addr) : Heap := (zH1 h l1).push { cls := .type "tuple_iterator", data := .fields #[.ref l2, .int 0 0] }
noncomputable abbrev zH3 (h : Heap) (l1 l2 : Addr) : Heap := (zH2 h l1 l2).push { cls := .type "tuple", data := .seq #[.ref h.objs.size, .ref (zH1 h l1).objs.size] }
noncomputable abbrev zH4 (h : Heap) (l1 l2 : Addr) : Heap := (zH3 h l1 l2).push { cls := .type "tuple", data := .seq #[.none, .none] }
noncomputable abbrev zH5 (h : Heap) (l1 l2 : Addr) : Heap := (zH4 h l1 l2).push { cls := .type "zip", data := .fields #[.none, .bool false, .bool false, .ref (zH2 h l1 l2).objs.size, .ref (zH3 h l1 l2).objs.size] }

theorem meets_zipT (l1 l2 : Addr) (xs ys : Array Value) :
    Meets (Builtin.«zip.__new__» ⟨[.type "zip", .ref l1, .ref l2], []⟩) (fun _ R s => s.heap.IsTuple l1 xs ∧ s.heap.IsTuple l2 ys ∧ R (.ok (.ret (.ref (zH4 s.heap l1 l2).objs.size))) { s with heap := zH5 s.heap l1 l2 }) :=
  .of_wp fun prog w A R s h => by
    obtain ⟨hp, g, d, tk, os⟩ := s; obtain ⟨hl1, hl2, h⟩ := h
    have hsub := sub_zip
    have hL1 : Heap.IsTuple (Shared.heap ⟨hp, g, d, tk, os⟩) l1 xs := hl1
    have hL2 : Heap.IsTuple (Shared.heap ⟨hp.push { cls := .type "tuple_iterator", data := .fields #[.ref l1, .int 0 0] }, g, d, tk, os⟩) l2 ys := Heap.IsTuple.push hl2 _
    wp_walk using wpAny_pyIter_tuple hL1, wpAny_pyIter_tuple hL2
    exact ⟨_, rfl, h⟩

theorem call_zipT {prog : Program} {w : World} {A : Around} {E : Value → Shared → Prop} {s : Shared} {l1 l2 : Addr} {xs ys : Array Value} {Q : Value → Shared → Prop} (hl1 : s.heap.IsTuple l1 xs) (hl2 : s.heap.IsTuple l2 ys)
    (h : ∀ h', ZipT h' s.heap.objs.size l1 l2 .none 0 0 xs ys → h'.objs.size = s.heap.objs.size + 5 → (∀ c o, s.heap.get? c = some o → h'.get? c = some o) → Q (.ref (s.heap.objs.size + 4 : Nat)) { s with heap := h' }) :
    wpAny (model prog w) A (call (.type "zip") [.ref l1, .ref l2]) Q E s := by
  refine callType_new F.called_zip (by decide) (F.typeCall_zip_2 _ _) (F.newCall_zip_2 _ _) (fun obj => F.args_object_init_3 obj _ _) F.entry_zip_new (meets_zipT l1 l2 xs ys) ⟨hl1, hl2, ?_⟩
  have z1 : (zH1 s.heap l1).objs.size = s.heap.objs.size + 1 := Heap.size_push ..
  have z2 : (zH2 s.heap l1 l2).objs.size = s.heap.objs.size + 2 := by rw [Heap.size_push, z1]
  have z3 : (zH3 s.heap l1 l2).objs.size = s.heap.objs.size + 3 := by rw [Heap.size_push, z2]
  have z4 : (zH4 s.heap l1 l2).objs.size = s.heap.objs.size + 4 := by rw [Heap.size_push, z3]
  have z5 : (zH5 s.heap l1 l2).objs.size = s.heap.objs.size + 5 := by rw [Heap.size_push, z4]
  have g5 : (zH5 s.heap l1 l2).get? (zH4 s.heap l1 l2).objs.size = some _ := Heap.get?_push_size _ rfl
  have g4 : (zH5 s.heap l1 l2).get? (zH3 s.heap l1 l2).objs.size = some _ := Heap.get?_push_of_some _ (Heap.get?_push_size _ rfl)
  have g3 : (zH5 s.heap l1 l2).get? (zH2 s.heap l1 l2).objs.size = some _ := Heap.get?_push_of_some _ (Heap.get?_push_of_some _ (Heap.get?_push_size _ rfl))
  have g2 : (zH5 s.heap l1 l2).get? (zH1 s.heap l1).objs.size = some _ := Heap.get?_push_of_some _ (Heap.get?_push_of_some _ (Heap.get?_push_of_some _ (Heap.get?_push_size _ rfl)))
  have g1 : (zH5 s.heap l1 l2).get? s.heap.objs.size = some _ := Heap.get?_push_of_some _ (Heap.get?_push_of_some _ (Heap.get?_push_of_some _ (Heap.get?_push_of_some _ (Heap.get?_push_size _ rfl))))
  have keep : ∀ c o, s.heap.get? c = some o → (zH5 s.heap l1 l2).get? c = some o := fun c o x => Heap.get?_push_of_some _ (Heap.get?_push_of_some _ (Heap.get?_push_of_some _ (Heap.get?_push_of_some _ (Heap.get?_push_of_some _ x))))
  first | refine e2_1 (id hl1) fun o1 e1 r1 => ?_ | refine e1_2 (id hl1) fun o1 e1 r1 => ?_ | refine e0_3 (id hl1) fun o1 e1 r1 => ?_ | obtain ⟨o1, e1, r1⟩ := id hl1
  first | refine e2_1 (id hl2) fun o2 e2 r2 => ?_ | refine e1_2 (id hl2) fun o2 e2 r2 => ?_ | refine e0_3 (id hl2) fun o2 e2 r2 => ?_ | obtain ⟨o2, e2, r2⟩ := id hl2
  show _ ∧ _
  rw [z2, z3, z4] at g5
  rw [z1, z2] at g3
  rw [z3] at g4
  rw [z1] at g2
  rw [z4]
  exact ⟨⟨_, g5, rfl⟩, h _ ⟨g5, g3, ⟨_, _, g4⟩, ⟨_, g1, rfl, rfl⟩, ⟨_, g2, rfl, rfl⟩, ⟨o1, keep _ _ e1, r1⟩, ⟨o2, keep _ _ e2, r2⟩, Heap.lt_size e1, Heap.lt_size e2⟩ z5 keep⟩
end Mine

set_option autoImplicit false
/- Comprehensions over zip that compare the two. -/
namespace Mine
open PySem PyProof.Rows

theorem intsOf_reps {D : Wd} {γ : List Addr} {h : Heap} : ∀ {l : List V} {is : List Int} {vs : List Value}, intsOf l = some is → Reps D γ h vs l → vs.length = is.length ∧ ∀ (k : Nat) (i : Int), is[k]? = some i → ∃ t, vs[k]? = some (.int i t)
  | [], is, vs, e, r => by obtain rfl := Option.some.inj e; obtain rfl := r; exact ⟨rfl, fun k i h => no_some h⟩
  | v :: l, is, vs, e, r => by
    first | refine e2_1 (Option.bind_eq_some_iff.mp (show (intV v).bind _ = some is from e)) fun i hi e => ?_ | refine e1_2 (Option.bind_eq_some_iff.mp (show (intV v).bind _ = some is from e)) fun i hi e => ?_ | refine e0_3 (Option.bind_eq_some_iff.mp (show (intV v).bind _ = some is from e)) fun i hi e => ?_ | obtain ⟨i, hi, e⟩ := Option.bind_eq_some_iff.mp (show (intV v).bind _ = some is from e)
    first | refine e2_1 (Option.map_eq_some_iff.mp e) fun js hj e_189 => ?_ | refine e1_2 (Option.map_eq_some_iff.mp e) fun js hj e_189 => ?_ | refine e0_3 (Option.map_eq_some_iff.mp e) fun js hj e_189 => ?_ | obtain ⟨js, hj, e_189⟩ := Option.map_eq_some_iff.mp e
    obtain rfl := e_189
    first | refine e3_2 r fun u w e_190 a b => ?_ | refine e2_3 r fun u w e_190 a b => ?_ | refine e1_4 r fun u w e_190 a b => ?_ | obtain ⟨u, w, e_190, a, b⟩ := r
    obtain rfl := e_190
    rw [intV_some hi] at a
    obtain ⟨t, rfl⟩ := a
    obtain ⟨h1, h2⟩ := intsOf_reps hj b
    refine ⟨congrArg (· + 1) h1, fun k j hk => ?_⟩
    cases k with
    | zero => obtain rfl := Option.some.inj hk; exact ⟨t, rfl⟩
    | succ k => exact h2 k j hk

structure Comp2 (c : CC) (scope : Scope) (x y : Str) : Prop where
  kind : scope.kind = .function
  nocell : ∀ y ∈ scope.names, y.2 ≠ .cell
  locs : ∀ y ∈ scope.names, y.2 = .local → scope.names.lookup y.1 = some .local
  frees : ∀ y ∈ scope.names, y.2 = .free → c.scope.names.lookup y.1 = some .cell
  vx : scope.names.lookup x = some .local
  vy : scope.names.lookup y = some .local
  ne : x ≠ y
  dx : (x == ("__debug__" : Str)) = false
  dy : (y == ("__debug__" : Str)) = false

section
variable {D : Wd} {Φ : Orc} {k : Nat} {c : CC}

theorem reps_bools {γ : List Addr} {h : Heap} : ∀ bs : List Bool, Reps D γ h (bs.map Value.bool) (bs.map V.bool)
  | [] => rfl
  | b :: r => Exists.intro (.bool b) ⟨_, rfl, rfl, reps_bools r⟩

/- the loop's state after i turns -/
structure ZInv (s2 : Shared) (B t1 t2 Dd C : Nat) (xs ys : Array Value) (bs : List Bool) (i : Nat) (s' : Shared) : Prop where
  same : ∃ h' tk, s' = { s2 with heap := h', toks := tk }
  zip : ZipT s'.heap B t1 t2 .none i i xs ys
  out : ∃ n, s'.heap.get? Dd = some { cls := .type "list", data := .seq ((bs.take i).map Value.bool).toArray n }
  loc : ∃ m, s'.heap.Ns C m
  keep : ∀ b o, s2.heap.get? b = some o → s'.heap.get? b = some o

theorem zip_loop {x y : Str} {q1 q2 q3 p1 p2 tp pos : Pos} {kk : Nat} {iter : Expr} {scope : Scope} {cenv : Env} {A : Around} {s2 : Shared} {B t1 t2 Dd C : Nat} {vs1 vs2 : List Value} {bs : List Bool} {Rr : Result → Shared → Prop} (hA : AOk D k A)
    (hB : s2.heap.objs.size = B) (hD : B + 5 ≤ Dd) (hC : B + 5 ≤ C) (hDC : Dd ≠ C) (hloc : cenv.locals = C) (hkf : cenv.scope.kind = .function) (hx : cenv.kindOf x = some .local) (hy : cenv.kindOf y = some .local) (hne : x ≠ y)
    (dx : (x == ("__debug__" : Str)) = false) (dy : (y == ("__debug__" : Str)) = false)
    (hl : bs.length = min vs1.length vs2.length) (hz : bs.length ≤ 2000000) (hp : ∀ i : Nat, i < vs1.length → i < vs2.length → ∃ (a b : Int) (ta tb : Tok), vs1[i]? = some (.int a ta) ∧ vs2[i]? = some (.int b tb) ∧ bs[i]? = some (decide (a < b)))
    (fin : ∀ s' : Shared, (∃ h' tk, s' = { s2 with heap := h', toks := tk }) → (∃ n, s'.heap.get? Dd = some { cls := .type "list", data := .seq (bs.map Value.bool).toArray n }) → (∃ m, s'.heap.Ns C m) → (∀ b o, s2.heap.get? b = some o → s'.heap.get? b = some o) → Rr (.ok .next) s') :
    ∀ (s' : Shared), ZInv s2 B t1 t2 Dd C vs1.toArray vs2.toArray bs 0 s' →
      codeAny D.M A (.compLoop (.ListComp (.Compare (.Name x q1) [.Lt] [.Name y q2] q3) [⟨.Tuple [.Name x p1, .Name y p2] kk tp, iter, [], 0⟩] scope pos) 0 (.ref (B + 4 : Nat)) (.ref Dd) cenv) Rr s' := by
  intro s' zi
  refine W.kcp_loop (fun m s' => ∃ i, m = bs.length - i ∧ i ≤ bs.length ∧ ZInv s2 B t1 t2 Dd C vs1.toArray vs2.toArray bs i s') ?_ bs.length ⟨0, rfl, Nat.zero_le _, zi⟩
  clear zi s'
  rintro m s' ⟨i, rfl, hi, zi⟩
  refine pyNext_zipT hA.handled zi.zip (fun x y ex ey h1 T Z1 hT hTB k1 => ?_) fun hend h1 k1 => ?_
  · rw [List.getElem?_toArray] at ex ey
    have l1 := (List.getElem?_eq_some_iff.mp ex).1
    have l2 := (List.getElem?_eq_some_iff.mp ey).1
    have hlt : i < bs.length := by omega
    first | refine e3_4 (hp i l1 l2) fun a b ta tb e1 e2 e3 => ?_ | obtain ⟨a, b, ta, tb, e1, e2, e3⟩ := hp i l1 l2
    rw [ex] at e1
    rw [ey] at e2
    cases e1
    cases e2
    refine go_zipT Z1 fun h2 Z2 k2 => ?_
    have kp : ∀ (b : Nat) o, (b < B ∨ B + 5 ≤ b) → s'.heap.get? b = some o → h2.get? b = some o := fun b o hb e => k2 b o (by omega) (k1 b o hb e)
    obtain ⟨m0, hm0⟩ := zi.loc
    have hm2 : h2.Ns C m0 := hm0.at' fun o e => kp _ o (.inr hC) e
    have hT2 : h2.IsTuple T #[.int a ta, .int b tb] := ⟨_, k2 _ _ (by omega) hT, rfl, _, rfl⟩
    refine W.kcp_assign hA.handled hT2 hx hy (by rw [hkf]; rfl) (hloc ▸ hm2) fun h3 tk3 hn3 k3 => ?_
    rw [hloc] at hn3 k3
    refine wpAny_Compare1 (wpAny_Name (wpAny_loadName_local hkf hx (hloc.symm ▸ hn3) (by rw [if_neg hne, if_pos rfl]) (wpAny_Name (wpAny_loadName_local hkf hy (hloc.symm ▸ hn3) (by rw [if_pos rfl]) ?_) dy)) dx) rfl
    refine lt_int ?_
    obtain ⟨n0, ho⟩ := zi.out
    have ho3 : h3.get? Dd = some { cls := .type "list", data := .seq ((bs.take i).map Value.bool).toArray n0 } := k3 _ _ (ad hDC) (kp _ _ (.inr hD) ho)
    refine wpAny_list_append_plain (items := ((bs.take i).map Value.bool).toArray) ⟨n0, ho3⟩ (fun h4 hp4 hs4 => ?_) (by simp [sizeLine_eq]; omega)
    obtain ⟨n4, e4⟩ := hp4
    have k4 : ∀ (b : Nat) o, b ≠ Dd → h3.get? b = some o → h4.get? b = some o := fun b o hb e => hs4.extBut b o (ad hb) e
    have old : ∀ (b : Nat) o, b < B → s'.heap.get? b = some o → h4.get? b = some o := fun b o hb e => k4 b o (by omega) (k3 b o (ad (by omega)) (kp b o (.inl hb) e))
    refine ⟨bs.length - (i + 1), by omega, i + 1, rfl, hlt, ?_, ?_, ?_, ?_, ?_⟩
    · obtain ⟨h', tk, rfl⟩ := zi.same; exact ⟨_, _, rfl⟩
    · exact Z2.at fun c o hc e => k4 c o (by omega) (k3 c o (ad (by omega)) e)
    · refine ⟨n4, ?_⟩
      have em : (((bs.take i).map Value.bool).toArray).push (Value.bool (decide (a < b))) = ((bs.take (i + 1)).map Value.bool).toArray := by
        rw [List.take_add_one, e3]; simp
      rw [em] at e4
      exact e4
    · exact ⟨_, hn3.at' fun o e => k4 _ o (fun q => hDC q.symm) e⟩
    · exact fun b o e => old b o (by rw [← hB]; exact Heap.lt_size e) (zi.keep b o e)
  · have hin : i = bs.length := by
      rw [List.getElem?_toArray, List.getElem?_toArray, List.getElem?_eq_none_iff, List.getElem?_eq_none_iff] at hend
      omega
    subst hin
    refine fin _ ?_ ?_ ?_ ?_
    · obtain ⟨h', tk, rfl⟩ := zi.same; exact ⟨_, _, rfl⟩
    · obtain ⟨n0, ho⟩ := zi.out
      rw [List.take_length] at ho
      exact ⟨n0, k1 _ _ (.inr hD) ho⟩
    · obtain ⟨m0, hm0⟩ := zi.loc
      exact ⟨m0, hm0.at' fun o e => k1 _ o (.inr hC) e⟩
    · exact fun b o e => k1 b o (.inl (by rw [← hB]; exact Heap.lt_size e)) (zi.keep b o e)

theorem e_zipLt {n : Nat} {x y gz : Str} {q1 q2 q3 p1 p2 tp pos gp cp : Pos} {kk : Nat} {e1 e2 : Expr} {scope : Scope} {ss : List IE} (g : GOk D c.G) (ih : ∀ e ie, compE n c e = some ie → SE D Φ k c e ie)
    (hg : globV c gz = some (.ty .zip)) (hst : [e1, e2].any isStar = false) (hm : mapO (compE n c) [e1, e2] = some ss) (ok : Comp2 c scope x y) :
    Both D Φ k c (.ListComp (.Compare (.Name x q1) [.Lt] [.Name y q2] q3) [⟨.Tuple [.Name x p1, .Name y p2] kk tp, .Call (.Name gz gp) [e1, e2] [] cp, [], 0⟩] scope pos) (.zlt ss) := by
  refine both_plain (fun env A γ H s L Q X hE hA R lr w => ?_) rfl (fun _ _ => rfl)
  rw [eval_ListComp]
  have hclos : closureFor scope env = pure (closGo env scope.names []) := closureFor_go fun y hy hf => by
    have hk : env.kindOf y.1 = some .cell := by unfold Env.kindOf; rw [hE.scope]; exact ok.frees y hy hf
    first | refine e3_1 (lr.cel y.1 hk) fun ca u e1 _ => ?_ | refine e2_2 (lr.cel y.1 hk) fun ca u e1 _ => ?_ | refine e1_3 (lr.cel y.1 hk) fun ca u e1 _ => ?_ | refine e0_4 (lr.cel y.1 hk) fun ca u e1 _ => ?_ | obtain ⟨ca, u, e1, _⟩ := lr.cel y.1 hk
    exact ⟨ca, e1⟩
  let ZP : Value → Shared → Prop := fun it s3 => ∃ γ2 H2 s2 h3 t1 t2 vs1 vs2 bs, it = .ref (s2.heap.objs.size + 4 : Nat) ∧ Stp [] γ γ2 s s2 ∧ HRel D γ2 H2 s2.heap ∧ s3 = { s2 with heap := h3 } ∧ ZipT h3 s2.heap.objs.size t1 t2 .none 0 0 (List.toArray vs1) (List.toArray vs2) ∧ h3.objs.size = s2.heap.objs.size + 5 ∧ (∀ b o, s2.heap.get? b = some o → h3.get? b = some o) ∧
    List.length bs = min vs1.length vs2.length ∧ bs.length ≤ 2000000 ∧ (∀ i : Nat, i < vs1.length → i < vs2.length → ∃ (a b : Int) (ta tb : Tok), vs1[i]? = some (.int a ta) ∧ vs2[i]? = some (.int b tb) ∧ bs[i]? = some (decide (a < b))) ∧ Q (.ref H2.length) (H2 ++ [.list (bs.map V.bool)])
  refine wpAny_comprehension_free (use := none) rfl (fun _ => rfl) hclos ok.kind ok.locs (wpAny_mono (Q := fun xv s1 => wpAny D.M A (pyIter xv) ZP (PostX D γ s X) s1) (E := PostX D γ s X) ?_ (fun xv s1 h1 => wpAny_mono h1 (fun it s3 h3 => ?_) fun _ _ e => e) fun _ _ e => e)
  · refine wpAny_Call_ofName (andThen (name_ok (Φ := Φ) (Q := fun V H' => V = .ty .zip ∧ H' = H) g hE R lr (globV_lit hg) ⟨rfl, rfl⟩) ?_)
    intro vf s1 γ1 Vf H1 st R1 rf q
    obtain ⟨rfl, rfl⟩ := q
    obtain rfl := rf
    rw [starEach_of hst]
    refine PyProof.Rows.callWith_type (by simp) (wpAny_mono (evalArgs_ok ih hE hA hm R1 (lr.stp R st) w) (fun b s2 hb => ?_) fun _ _ x => x.back st R1)
    obtain ⟨ps, kw⟩ := b
    obtain ⟨hkw, γ2, Vs, H2, st2, R2, rv, q⟩ := hb
    obtain rfl : kw = [] := hkw
    have st02 := st.trans0 R1 st2
    first | refine e3_1 (on2P_elim q) fun W1 W2 e_191 q => ?_ | refine e2_2 (on2P_elim q) fun W1 W2 e_191 q => ?_ | refine e1_3 (on2P_elim q) fun W1 W2 e_191 q => ?_ | refine e0_4 (on2P_elim q) fun W1 W2 e_191 q => ?_ | obtain ⟨W1, W2, e_191, q⟩ := on2P_elim q
    obtain rfl := e_191
    first | refine e2_1 (oK_elim q) fun la hla q => ?_ | refine e1_2 (oK_elim q) fun la hla q => ?_ | refine e0_3 (oK_elim q) fun la hla q => ?_ | obtain ⟨la, hla, q⟩ := oK_elim q
    first | refine e2_1 (oK_elim q) fun lb hlb q => ?_ | refine e1_2 (oK_elim q) fun lb hlb q => ?_ | refine e0_3 (oK_elim q) fun lb hlb q => ?_ | obtain ⟨lb, hlb, q⟩ := oK_elim q
    first | refine e2_1 (oK_elim q) fun is his q => ?_ | refine e1_2 (oK_elim q) fun is his q => ?_ | refine e0_3 (oK_elim q) fun is his q => ?_ | obtain ⟨is, his, q⟩ := oK_elim q
    first | refine e2_1 (oK_elim q) fun js hjs hQ => ?_ | refine e1_2 (oK_elim q) fun js hjs hQ => ?_ | refine e0_3 (oK_elim q) fun js hjs hQ => ?_ | obtain ⟨js, hjs, hQ⟩ := oK_elim q
    rw [tupV_some hla, tupV_some hlb] at rv
    first | refine e4_5 rv fun _ r e_192 e_193 _ r' e_194 e_195 e_196 => ?_ | obtain ⟨_, r, e_192, e_193, _, r', e_194, e_195, e_196⟩ := rv
    obtain rfl := e_192
    obtain ⟨t1, vs1, rfl, ta1, rs1⟩ := e_193
    obtain rfl := e_194
    obtain ⟨t2, vs2, rfl, ta2, rs2⟩ := e_195
    obtain rfl := e_196
    obtain ⟨n1, p1⟩ := intsOf_reps his rs1
    obtain ⟨n2, p2⟩ := intsOf_reps hjs rs2
    refine call_zipT ta1.isTuple ta2.isTuple fun h3 Z h5 keep => wpAny_pyIter_zip Z.z ?_
    refine ⟨γ2, H2, s2, h3, t1, t2, vs1, vs2, ltL is js, rfl, st02, R2, rfl, Z, h5, keep, by rw [List.length_zipWith, n1, n2], by rw [List.length_zipWith]; have := ta1.size; omega, fun i h1 h2 => ?_, hQ⟩
    rw [n1] at h1
    rw [n2] at h2
    obtain ⟨ta, f1⟩ := p1 i _ (List.getElem?_eq_getElem h1)
    obtain ⟨tb, f2⟩ := p2 i _ (List.getElem?_eq_getElem h2)
    exact ⟨_, _, ta, tb, f1, f2, by rw [List.getElem?_zipWith, List.getElem?_eq_getElem h1, List.getElem?_eq_getElem h2]⟩
  · obtain ⟨γ2, H2, s2, h3, t1, t2, vs1, vs2, bs, rfl, stp2, R2, rfl, Z, h5, keep, hl, hz, hp, hQ⟩ := h3
    refine wpAny_newObj_type (hd := by size_fits) (wpAny_newFunctionEnv ok.nocell (by intro y hy; simp at hy) (fun h₁ hns₁ hsb₁ => ?_) ok.kind)
    dsimp only at hns₁ hsb₁ ⊢
    generalize hG2 : h3.push { cls := .type "list", dict := none, data := .seq ([] : List Value).toArray } = G2 at hns₁ hsb₁ ⊢
    have hC : G2.objs.size = h3.objs.size + 1 := by rw [← hG2, Heap.size_push]
    have hDC : h3.objs.size ≠ G2.objs.size := by rw [hC]; exact Nat.ne_of_lt (Nat.lt_succ_self _)
    have below : ∀ b o, h3.get? b = some o → b ≠ G2.objs.size := fun b o hb => Nat.ne_of_lt (Nat.lt_trans (Heap.lt_size hb) (by rw [hC]; exact Nat.lt_succ_self _))
    have old : ∀ b o, h3.get? b = some o → h₁.get? b = some o := fun b o e => hsb₁.extBut b o (below b o e) (Heap.get?_push_of_some _ (hG2 ▸ Heap.get?_push_of_some _ e))
    have hacc : h₁.get? h3.objs.size = some { cls := .type "list", data := .seq ([] : List Value).toArray } := hsb₁.extBut _ _ (ad hDC) (Heap.get?_push_of_some _ (hG2 ▸ Heap.get?_push_size _ rfl))
    have d0 : s2.heap.get? h3.objs.size = none := Heap.get?_none_of_le (by rw [h5]; exact Nat.le_add_right _ _)
    have loop : ∀ s4 : Shared, s4 = { s2 with heap := h₁, toks := s2.toks + ([] : List (Str × Value)).length } →
        codeAny D.M A (.compLoop (.ListComp (.Compare (.Name x q1) [.Lt] [.Name y q2] q3) [⟨.Tuple [.Name x p1, .Name y p2] kk tp, .Call (.Name gz gp) [e1, e2] [] cp, [], 0⟩] scope pos) 0 (.ref (s2.heap.objs.size + 4 : Nat)) (.ref h3.objs.size) (compEnvC scope (closGo env scope.names []) G2.objs.size env))
          (compPost D.M A (PostX D γ s X) none (PostV D γ s Q) (.ref h3.objs.size) G2.objs.size) s4 := by
      rintro s4 rfl
      refine zip_loop (s2 := s2) (t1 := t1) (t2 := t2) (C := G2.objs.size) (vs1 := vs1) (vs2 := vs2) (bs := bs) hA rfl (by omega) (by omega) hDC rfl ?_ ?_ ?_ ok.ne ok.dx ok.dy hl (by omega) hp ?_ _ ?_
      · show (relabel scope env).kind = .function
        rw [relabel_eq hE]; exact ok.kind
      · exact lookup_relabel_local ok.vx
      · exact lookup_relabel_local ok.vy
      · intro s' hsame ho hc hk
        first | refine e2_1 hsame fun h' tk e_199 => ?_ | refine e1_2 hsame fun h' tk e_199 => ?_ | refine e0_3 hsame fun h' tk e_199 => ?_ | obtain ⟨h', tk, e_199⟩ := hsame
        obtain rfl := e_199
        obtain ⟨m, hm⟩ := hc
        refine ⟨m, hm, fun h6 hs6 => ?_⟩
        have k6 : ∀ b o, b ≠ G2.objs.size → h'.get? b = some o → h6.get? b = some o := fun b o hb e => hs6.extBut b o hb e
        obtain ⟨no, ho⟩ := ho
        have keep6 : ∀ b o, s2.heap.get? b = some o → h6.get? b = some o := fun b o e => k6 b o (below b o (keep b o e)) (hk b o e)
        exact PostV.back (s1 := s2) stp2 R2 (PostV.addList (a := h3.objs.size) (tk := tk) R2 (reps_bools bs) (by simp; omega) keep6 d0 (k6 _ _ (ad hDC) ho) hQ)
      · refine ⟨⟨_, _, rfl⟩, Z.at fun c o _ e => old c o e, ⟨0, by simpa using hacc⟩, ⟨_, hns₁⟩, fun b o e => old b o (keep b o e)⟩
    exact codeAny_compStart_list (loop _ rfl) (wpAny_pyIter_zip (old _ _ Z.z) (loop _ rfl))
end
end Mine

set_option autoImplicit false
/- Every expression that is taken over means what its small tree says. -/
namespace Mine
open PySem PyProof.Rows

section
variable {D : Wd} {Φ : Orc} {k : Nat}

theorem noSetIter {iter : Expr} {n : Nat} {c : CC} {p : SrcK × IE} (h : compSrc (compE n c) c iter = some p) : ∀ env x, foldedSetIterable iter env x = pure x := by
  intro env x
  cases iter <;> first | rfl | (cases n <;> exact no_some h)

theorem opt_part {lo : Option Expr} {il : Option IE} {n : Nat} {c : CC} {env : Env} {A : Around} {γ : List Addr} {H : Hp} {s : Shared} {L : Lc} {Q : V → Hp → Prop} {X : XL} (ih : ∀ e ie, compE n c e = some ie → SE D Φ k c e ie) (h : optE (compE n c) lo = some il)
    (hE : EnvOk c env) (hA : AOk D k A) (R : HRel D γ H s.heap) (lr : LRel D γ env c.slots s.heap L) (w : wpO Φ il L H Q X) : wpAny D.M A (evalPart lo env) (PostV D γ s Q) (PostX D γ s X) s := by
  cases lo with
  | none => obtain rfl := Option.some.inj h; exact wpAny_evalPart_none (PostV.here (V := .none) R (show Rep _ _ _ _ .none from rfl) w)
  | some e =>
    first | refine e2_1 (Option.map_eq_some_iff.mp h) fun a ha e_200 => ?_ | refine e1_2 (Option.map_eq_some_iff.mp h) fun a ha e_200 => ?_ | refine e0_3 (Option.map_eq_some_iff.mp h) fun a ha e_200 => ?_ | obtain ⟨a, ha, e_200⟩ := Option.map_eq_some_iff.mp h
    obtain rfl := e_200
    exact wpAny_evalPart_some (ih _ _ ha env A γ H s L Q X hE hA R lr w)
theorem e_slice {o : Expr} {p pos : Pos} {lo hi : Option Expr} {n : Nat} {c : CC} {io : IE} {il ih' : Option IE} (ih : ∀ e ie, compE n c e = some ie → SE D Φ k c e ie) (ho : compE n c o = some io) (hl : optE (compE n c) lo = some il) (hh : optE (compE n c) hi = some ih') :
    Both D Φ k c (.Subscript o (.Slice lo hi none p) pos) (.slice io il ih') := by
  refine both_plain (fun env A γ H s L Q X hE hA R lr w => ?_) rfl (fun _ _ => rfl)
  refine Subscript_ (andThen (ih _ _ ho env A γ H s L _ X hE hA R lr w) ?_)
  intro vo s1 γ1 Vo H1 st1 R1 ro q1
  refine wpAny_Slice (thenV st1 R1 (opt_part ih hl hE hA R1 (lr.stp R st1) q1) ?_)
  intro vl s2 γ2 Vl H2 st2 R2 rl q2
  have st02 := st1.trans0 R1 st2
  refine thenV st02 R2 (opt_part ih hh hE hA R2 (lr.stp R st02) q2) ?_
  intro vh s3 γ3 Vh H3 st3 R3 rh q3
  rw [evalPart_none]
  refine wpAny_pure ?_
  exact wpAny_mono (slice_ok R3 ((ro.stp0 R1 st2).stp0 R2 st3) (rl.stp0 R2 st3) rh q3) (fun _ _ x => x.back (st02.trans0 R2 st3) R3) (fun _ _ x => x)
theorem okComp_of {scope outer : Scope} (hok : okComp scope outer = true) : scope.kind = .function ∧ (∀ y ∈ scope.names, y.2 ≠ .cell) ∧ (∀ y ∈ scope.names, y.2 = .local → scope.names.lookup y.1 = some .local) ∧ (∀ y ∈ scope.names, y.2 = .free → outer.names.lookup y.1 = some .cell) := by
  unfold okComp at hok
  simp only [Bool.and_eq_true, beq_iff_eq, List.all_eq_true, Bool.or_eq_true, bne_iff_ne, ne_eq] at hok
  exact ⟨hok.1, fun y hy => (hok.2 y hy).1.1, fun y hy hl => (hok.2 y hy).1.2.resolve_left fun q => q hl, fun y hy hf => ((hok.2 y hy).2.resolve_left fun q => q hf).2⟩
theorem compOk_of {c : CC} {scope : Scope} {x : Str} {a : Int} (hs : okC c scope x a = true) : a = 0 ∧ CompOk c scope x := by
  unfold okC at hs
  simp only [Bool.and_eq_true] at hs
  obtain ⟨⟨⟨⟨ha, hok⟩, hvar⟩, hown⟩, hlow⟩ := hs
  first | refine e3_1 (okComp_of hok) fun k1 k2 k3 k4 => ?_ | refine e2_2 (okComp_of hok) fun k1 k2 k3 k4 => ?_ | refine e1_3 (okComp_of hok) fun k1 k2 k3 k4 => ?_ | refine e0_4 (okComp_of hok) fun k1 k2 k3 k4 => ?_ | obtain ⟨k1, k2, k3, k4⟩ := okComp_of hok
  rw [List.all_eq_true] at hown hlow
  refine ⟨eq_of_beq ha, k1, k2, k3, k4, eq_of_beq hvar, fun y hy => ?_, fun y i hl => of_decide_eq_true (hlow (y, i) (mem_of_lookup hl))⟩
  have := hown (y, .local) hy
  simp only [Bool.or_eq_true, bne_iff_ne, ne_eq, beq_iff_eq, Option.isNone_iff_eq_none] at this
  rcases this with (q | q) | q
  · exact absurd trivial q
  · exact .inl q
  · exact .inr q

theorem zpG_inv {x1 y1 : Str} {op : CmpOp} {gen : Comprehension} {x y g : Str} {a b : Expr} (h : zpG x1 y1 op gen = some (x, y, g, a, b)) :
    ∃ p1 p2 kk tp gp cp, gen = ⟨.Tuple [.Name x p1, .Name y p2] kk tp, .Call (.Name g gp) [a, b] [] cp, [], 0⟩ ∧ op = .Lt ∧ x1 = x ∧ y1 = y ∧ x ≠ y ∧ (x == ("__debug__" : Str)) = false ∧ (y == ("__debug__" : Str)) = false ∧ [a, b].any isStar = false := by
  first | refine e3_2 (onTup_some h) fun es kk tp e1 h => ?_ | refine e2_3 (onTup_some h) fun es kk tp e1 h => ?_ | refine e1_4 (onTup_some h) fun es kk tp e1 h => ?_ | obtain ⟨es, kk, tp, e1, h⟩ := onTup_some h
  first | refine e3_1 (on2_some h) fun ex ey e2 h => ?_ | refine e2_2 (on2_some h) fun ex ey e2 h => ?_ | refine e1_3 (on2_some h) fun ex ey e2 h => ?_ | refine e0_4 (on2_some h) fun ex ey e2 h => ?_ | obtain ⟨ex, ey, e2, h⟩ := on2_some h
  first | refine e3_1 (onName_some (show onName ex (zpB ⟨x1, y1, op, gen⟩ ey) = _ from h)) fun x2 p1 e3 h => ?_ | refine e2_2 (onName_some (show onName ex (zpB ⟨x1, y1, op, gen⟩ ey) = _ from h)) fun x2 p1 e3 h => ?_ | refine e1_3 (onName_some (show onName ex (zpB ⟨x1, y1, op, gen⟩ ey) = _ from h)) fun x2 p1 e3 h => ?_ | refine e0_4 (onName_some (show onName ex (zpB ⟨x1, y1, op, gen⟩ ey) = _ from h)) fun x2 p1 e3 h => ?_ | obtain ⟨x2, p1, e3, h⟩ := onName_some (show onName ex (zpB ⟨x1, y1, op, gen⟩ ey) = _ from h)
  first | refine e3_1 (onName_some (show onName ey (zpC ⟨x1, y1, op, gen⟩ x2) = _ from h)) fun y2 p2 e4 h => ?_ | refine e2_2 (onName_some (show onName ey (zpC ⟨x1, y1, op, gen⟩ x2) = _ from h)) fun y2 p2 e4 h => ?_ | refine e1_3 (onName_some (show onName ey (zpC ⟨x1, y1, op, gen⟩ x2) = _ from h)) fun y2 p2 e4 h => ?_ | refine e0_4 (onName_some (show onName ey (zpC ⟨x1, y1, op, gen⟩ x2) = _ from h)) fun y2 p2 e4 h => ?_ | obtain ⟨y2, p2, e4, h⟩ := onName_some (show onName ey (zpC ⟨x1, y1, op, gen⟩ x2) = _ from h)
  first | refine e3_2 (onCall_some (show onCall gen.iter (zpD ⟨x1, y1, op, gen⟩ x2 y2) = _ from h)) fun f as cp e5 h => ?_ | refine e2_3 (onCall_some (show onCall gen.iter (zpD ⟨x1, y1, op, gen⟩ x2 y2) = _ from h)) fun f as cp e5 h => ?_ | refine e1_4 (onCall_some (show onCall gen.iter (zpD ⟨x1, y1, op, gen⟩ x2 y2) = _ from h)) fun f as cp e5 h => ?_ | obtain ⟨f, as, cp, e5, h⟩ := onCall_some (show onCall gen.iter (zpD ⟨x1, y1, op, gen⟩ x2 y2) = _ from h)
  first | refine e3_1 (onName_some (show onName f (zpE ⟨x1, y1, op, gen⟩ x2 y2 as) = _ from h)) fun gz gp e6 h => ?_ | refine e2_2 (onName_some (show onName f (zpE ⟨x1, y1, op, gen⟩ x2 y2 as) = _ from h)) fun gz gp e6 h => ?_ | refine e1_3 (onName_some (show onName f (zpE ⟨x1, y1, op, gen⟩ x2 y2 as) = _ from h)) fun gz gp e6 h => ?_ | refine e0_4 (onName_some (show onName f (zpE ⟨x1, y1, op, gen⟩ x2 y2 as) = _ from h)) fun gz gp e6 h => ?_ | obtain ⟨gz, gp, e6, h⟩ := onName_some (show onName f (zpE ⟨x1, y1, op, gen⟩ x2 y2 as) = _ from h)
  first | refine e3_1 (on2_some (show on2 as (zpF ⟨x1, y1, op, gen⟩ x2 y2 gz) = _ from h)) fun a' b' e7 h => ?_ | refine e2_2 (on2_some (show on2 as (zpF ⟨x1, y1, op, gen⟩ x2 y2 gz) = _ from h)) fun a' b' e7 h => ?_ | refine e1_3 (on2_some (show on2 as (zpF ⟨x1, y1, op, gen⟩ x2 y2 gz) = _ from h)) fun a' b' e7 h => ?_ | refine e0_4 (on2_some (show on2 as (zpF ⟨x1, y1, op, gen⟩ x2 y2 gz) = _ from h)) fun a' b' e7 h => ?_ | obtain ⟨a', b', e7, h⟩ := on2_some (show on2 as (zpF ⟨x1, y1, op, gen⟩ x2 y2 gz) = _ from h)
  obtain ⟨hs, h⟩ := onlyIf_some (show onlyIf _ (some (x2, y2, gz, a', b')) = _ from h)
  cases h
  simp only [Bool.and_eq_true, Bool.not_eq_true', beq_iff_eq, beq_eq_false_iff_ne, List.isEmpty_iff] at hs
  obtain ⟨⟨⟨⟨⟨⟨⟨⟨h0, h00⟩, h1⟩, h2⟩, h3⟩, h4⟩, h5⟩, h6⟩, h7⟩ := hs
  refine ⟨p1, p2, kk, tp, gp, cp, ?_, (by cases op <;> first | rfl | cases h0), h2, h3, h4, by simpa using h5, by simpa using h6, h7⟩
  first | refine e3_1 gen fun t it ifs k => ?_ | refine e2_2 gen fun t it ifs k => ?_ | refine e1_3 gen fun t it ifs k => ?_ | refine e0_4 gen fun t it ifs k => ?_ | obtain ⟨t, it, ifs, k⟩ := gen
  replace e1 : t = _ := e1
  replace e5 : it = _ := e5
  replace h00 : ifs = [] := h00
  replace h1 : k = 0 := h1
  rw [e1, e2, e3, e4, e5, e6, e7, h00, h1]
theorem zipPat_inv {elt : Expr} {gens : List Comprehension} {x y g : Str} {a b : Expr} (h : zipPat elt gens = some (x, y, g, a, b)) :
    ∃ q1 q2 q3 p1 p2 kk tp gp cp, elt = .Compare (.Name x q1) [.Lt] [.Name y q2] q3 ∧ gens = [⟨.Tuple [.Name x p1, .Name y p2] kk tp, .Call (.Name g gp) [a, b] [] cp, [], 0⟩] ∧ x ≠ y ∧ (x == ("__debug__" : Str)) = false ∧ (y == ("__debug__" : Str)) = false ∧ [a, b].any isStar = false := by
  first | refine e3_3 (onCmp_some h) fun l ops rs q3 e1 h => ?_ | refine e2_4 (onCmp_some h) fun l ops rs q3 e1 h => ?_ | obtain ⟨l, ops, rs, q3, e1, h⟩ := onCmp_some h
  first | refine e3_1 (onName_some (show onName l (zp2 gens ops rs) = _ from h)) fun x1 q1 e2 h => ?_ | refine e2_2 (onName_some (show onName l (zp2 gens ops rs) = _ from h)) fun x1 q1 e2 h => ?_ | refine e1_3 (onName_some (show onName l (zp2 gens ops rs) = _ from h)) fun x1 q1 e2 h => ?_ | refine e0_4 (onName_some (show onName l (zp2 gens ops rs) = _ from h)) fun x1 q1 e2 h => ?_ | obtain ⟨x1, q1, e2, h⟩ := onName_some (show onName l (zp2 gens ops rs) = _ from h)
  first | refine e2_1 (on1_some (show on1 ops (fun op => on1 rs (zp3 x1 gens op)) = _ from h)) fun op e3 h => ?_ | refine e1_2 (on1_some (show on1 ops (fun op => on1 rs (zp3 x1 gens op)) = _ from h)) fun op e3 h => ?_ | refine e0_3 (on1_some (show on1 ops (fun op => on1 rs (zp3 x1 gens op)) = _ from h)) fun op e3 h => ?_ | obtain ⟨op, e3, h⟩ := on1_some (show on1 ops (fun op => on1 rs (zp3 x1 gens op)) = _ from h)
  first | refine e2_1 (on1_some h) fun r e4 h => ?_ | refine e1_2 (on1_some h) fun r e4 h => ?_ | refine e0_3 (on1_some h) fun r e4 h => ?_ | obtain ⟨r, e4, h⟩ := on1_some h
  first | refine e3_1 (onName_some (show onName r (zp4 x1 op gens) = _ from h)) fun y1 q2 e5 h => ?_ | refine e2_2 (onName_some (show onName r (zp4 x1 op gens) = _ from h)) fun y1 q2 e5 h => ?_ | refine e1_3 (onName_some (show onName r (zp4 x1 op gens) = _ from h)) fun y1 q2 e5 h => ?_ | refine e0_4 (onName_some (show onName r (zp4 x1 op gens) = _ from h)) fun y1 q2 e5 h => ?_ | obtain ⟨y1, q2, e5, h⟩ := onName_some (show onName r (zp4 x1 op gens) = _ from h)
  first | refine e2_1 (on1_some (show on1 gens (zpG x1 y1 op) = _ from h)) fun gen e6 h => ?_ | refine e1_2 (on1_some (show on1 gens (zpG x1 y1 op) = _ from h)) fun gen e6 h => ?_ | refine e0_3 (on1_some (show on1 gens (zpG x1 y1 op) = _ from h)) fun gen e6 h => ?_ | obtain ⟨gen, e6, h⟩ := on1_some (show on1 gens (zpG x1 y1 op) = _ from h)
  first | refine e5_9 (zpG_inv h) fun p1 p2 kk tp gp cp e7 e8 e9 e10 k1 k2 k3 k4 => ?_ | obtain ⟨p1, p2, kk, tp, gp, cp, e7, e8, e9, e10, k1, k2, k3, k4⟩ := zpG_inv h
  exact ⟨q1, q2, q3, p1, p2, kk, tp, gp, cp, by rw [e1, e2, e3, e4, e5, e8, e9, e10], by rw [e6, e7], k1, k2, k3, k4⟩
theorem isZipV_some {o : Option V} (h : isZipV o = true) : o = some (.ty .zip) := by
  cases o with
  | none => exact Bool.noConfusion h
  | some v => cases v with
    | ty t => cases t with
      | zip => rfl
      | _ => exact Bool.noConfusion h
    | _ => exact Bool.noConfusion h
theorem e_zip {n : Nat} {c : CC} {elt : Expr} {gens : List Comprehension} {scope : Scope} {pos : Pos} {ie : IE} {x y gz : Str} {a b : Expr} (g : GOk D c.G) (ih : ∀ e ie, compE n c e = some ie → SE D Φ k c e ie) (hp : zipPat elt gens = some (x, y, gz, a, b)) (h : zipE (compE n c) c (x, y, gz, a, b) scope = some ie) : Both D Φ k c (.ListComp elt gens scope pos) ie := by
  obtain ⟨hs, h⟩ := onlyIf_some h
  first | refine e2_1 (Option.map_eq_some_iff.mp h) fun ss hm e_201 => ?_ | refine e1_2 (Option.map_eq_some_iff.mp h) fun ss hm e_201 => ?_ | refine e0_3 (Option.map_eq_some_iff.mp h) fun ss hm e_201 => ?_ | obtain ⟨ss, hm, e_201⟩ := Option.map_eq_some_iff.mp h
  obtain rfl := e_201
  obtain ⟨q1, q2, q3, p1, p2, kk, tp, gp, cp, rfl, rfl, hne, dx, dy, hst⟩ := zipPat_inv hp
  rw [Bool.and_eq_true, Bool.and_eq_true, Bool.and_eq_true] at hs
  obtain ⟨⟨⟨hz, hok⟩, vx⟩, vy⟩ := hs
  first | refine e3_1 (okComp_of hok) fun k1 k2 k3 k4 => ?_ | refine e2_2 (okComp_of hok) fun k1 k2 k3 k4 => ?_ | refine e1_3 (okComp_of hok) fun k1 k2 k3 k4 => ?_ | refine e0_4 (okComp_of hok) fun k1 k2 k3 k4 => ?_ | obtain ⟨k1, k2, k3, k4⟩ := okComp_of hok
  exact e_zipLt g ih (isZipV_some hz) hst hm ⟨k1, k2, k3, k4, eq_of_beq vx, eq_of_beq vy, hne, dx, dy⟩
theorem lc_inv {n : Nat} {c : CC} {elt : Expr} {gens : List Comprehension} {scope : Scope} {ie : IE}
    (h : (on1 gens fun g => onName g.target fun x => onlyIf (okC c scope x g.is_async && g.ifs.isEmpty) (oTwo (fun ks e => IE.comp e c.nxt ks.1 ks.2) (compSrc (compE n c) c g.iter) (compE n (innerC c scope x) elt))) = some ie) :
    ∃ x px iter kk ss ielt, gens = [⟨.Name x px, iter, [], 0⟩] ∧ CompOk c scope x ∧ compSrc (compE n c) c iter = some (kk, ss) ∧ compE n (inner c scope x) elt = some ielt ∧ ie = .comp ielt c.nxt kk ss := by
  first | refine e2_1 (on1_some h) fun e_204 e_205 h => ?_ | refine e1_2 (on1_some h) fun e_204 e_205 h => ?_ | refine e0_3 (on1_some h) fun e_204 e_205 h => ?_ | obtain ⟨e_204, e_205, h⟩ := on1_some h
  obtain ⟨tgt, iter, ifs, a⟩ := e_204
  obtain rfl := e_205
  first | refine e3_1 (onName_some h) fun x px e1 h => ?_ | refine e2_2 (onName_some h) fun x px e1 h => ?_ | refine e1_3 (onName_some h) fun x px e1 h => ?_ | refine e0_4 (onName_some h) fun x px e1 h => ?_ | obtain ⟨x, px, e1, h⟩ := onName_some h
  obtain rfl : tgt = .Name x px := e1
  obtain ⟨hs, h⟩ := onlyIf_some h
  rw [Bool.and_eq_true] at hs
  obtain ⟨ha, ok⟩ := compOk_of hs.1
  obtain rfl : a = 0 := ha
  obtain rfl : ifs = [] := List.isEmpty_iff.mp hs.2
  first | refine e3_2 (oTwo_some h) fun ks e h1 h2 e_206 => ?_ | refine e2_3 (oTwo_some h) fun ks e h1 h2 e_206 => ?_ | refine e1_4 (oTwo_some h) fun ks e h1 h2 e_206 => ?_ | obtain ⟨ks, e, h1, h2, e_206⟩ := oTwo_some h
  obtain rfl := e_206
  exact ⟨x, px, iter, ks.1, ks.2, e, rfl, ok, h1, h2, rfl⟩
theorem e_lc {n : Nat} {c : CC} {elt : Expr} {gens : List Comprehension} {scope : Scope} {pos : Pos} {ie : IE} (g : GOk D c.G) (ih : ∀ c e ie, GOk D c.G → compE n c e = some ie → Both D Φ k c e ie) (h : cLc (compE n) c elt gens scope = some ie) : Both D Φ k c (.ListComp elt gens scope pos) ie := by
  unfold cLc at h
  cases hz : zipPat elt gens with
  | some z => rw [hz] at h; exact e_zip g (fun e ie h => (ih c e ie g h).1) hz h
  | none =>
    rw [hz] at h
    obtain ⟨x, px, iter, kk, ss, ielt, rfl, ok, h1, h2, rfl⟩ := lc_inv h
    exact e_comp g ih ok h1 h2 (noSetIter h1)
theorem e_fn {n : Nat} {c : CC} {fn : Expr} {args : List Expr} {p : Pos} {ie : IE} (hO : OrcOk D k Φ) (g : GOk D c.G) (ihE : ∀ e ie, compE n c e = some ie → SE D Φ k c e ie) (h : cCall (compE n c) c fn args p = some ie) : Both D Φ k c (.Call fn args [] p) ie := by
  obtain ⟨hs, h⟩ := onlyIf_some h
  rw [Bool.and_eq_true, Bool.not_eq_true'] at hs
  cases fn with
  | Name x px =>
    first | refine e3_2 (oTwo_some h) fun a b h1 h2 e_209 => ?_ | refine e2_3 (oTwo_some h) fun a b h1 h2 e_209 => ?_ | refine e1_4 (oTwo_some h) fun a b h1 h2 e_209 => ?_ | obtain ⟨a, b, h1, h2, e_209⟩ := oTwo_some h
    obtain rfl := e_209
    exact e_call g hO ihE hs.1 h1 h2
  | Attribute o name apos =>
    obtain ⟨hs2, h⟩ := onlyIf_some h
    rw [Bool.and_eq_true] at hs2
    have hl := Nat.eq_of_beq_eq_true hs2.2
    have st1 : ∀ a, args = [a] → isStar a = false := fun a e => by
      have := hs.1
      rw [e, List.any_cons, Bool.or_eq_false_iff] at this
      exact this.1
    cases hsm : smOf name with
    | some j =>
      rw [hsm] at h
      first | refine e2_1 (on1_some (show on1 args _ = some ie from h)) fun a e_210 h => ?_ | refine e1_2 (on1_some (show on1 args _ = some ie from h)) fun a e_210 h => ?_ | refine e0_3 (on1_some (show on1 args _ = some ie from h)) fun a e_210 h => ?_ | obtain ⟨a, e_210, h⟩ := on1_some (show on1 args _ = some ie from h)
      obtain rfl := e_210
      first | refine e3_2 (oTwo_some h) fun v ia ho hia e_211 => ?_ | refine e2_3 (oTwo_some h) fun v ia ho hia e_211 => ?_ | refine e1_4 (oTwo_some h) fun v ia ho hia e_211 => ?_ | obtain ⟨v, ia, ho, hia, e_211⟩ := oTwo_some h
      obtain rfl := e_211
      exact e_strm hsm (ihE _ _ ho) (ihE _ _ hia) hs2.1 hl (st1 a rfl)
    | none =>
      rw [hsm] at h
      first | refine e2_1 (Option.bind_eq_some_iff.mp (show (mtOf name).bind _ = some ie from h)) fun m hm h => ?_ | refine e1_2 (Option.bind_eq_some_iff.mp (show (mtOf name).bind _ = some ie from h)) fun m hm h => ?_ | refine e0_3 (Option.bind_eq_some_iff.mp (show (mtOf name).bind _ = some ie from h)) fun m hm h => ?_ | obtain ⟨m, hm, h⟩ := Option.bind_eq_some_iff.mp (show (mtOf name).bind _ = some ie from h)
      first | refine e2_1 (on1_some h) fun a e_212 h => ?_ | refine e1_2 (on1_some h) fun a e_212 h => ?_ | refine e0_3 (on1_some h) fun a e_212 h => ?_ | obtain ⟨a, e_212, h⟩ := on1_some h
      obtain rfl := e_212
      first | refine e3_2 (oTwo_some h) fun v ia ho hia e_213 => ?_ | refine e2_3 (oTwo_some h) fun v ia ho hia e_213 => ?_ | refine e1_4 (oTwo_some h) fun v ia ho hia e_213 => ?_ | obtain ⟨v, ia, ho, hia, e_213⟩ := oTwo_some h
      obtain rfl := e_213
      rw [mtOf_some hm]
      cases m with
      | append => exact e_append (ihE _ _ ho) (ihE _ _ hia) hs2.1 hl (st1 a rfl)
  | _ => exact no_some h
theorem e_cm {n : Nat} {c : CC} {l : Expr} {ops : List CmpOp} {rs : List Expr} {p : Pos} {ie : IE} (ihE : ∀ e ie, compE n c e = some ie → SE D Φ k c e ie) (h : cCmp (compE n c) (compE n c l) ops rs = some ie) : Both D Φ k c (.Compare l ops rs p) ie := by
  cases ops with
  | nil => exact no_some h
  | cons op ops =>
    cases ops with
    | nil =>
      first | refine e2_1 (on1_some (show on1 rs _ = some ie from h)) fun r e_214 h => ?_ | refine e1_2 (on1_some (show on1 rs _ = some ie from h)) fun r e_214 h => ?_ | refine e0_3 (on1_some (show on1 rs _ = some ie from h)) fun r e_214 h => ?_ | obtain ⟨r, e_214, h⟩ := on1_some (show on1 rs _ = some ie from h)
      obtain rfl := e_214
      first | refine e3_2 (oTwo_some h) fun a b h1 h2 e_215 => ?_ | refine e2_3 (oTwo_some h) fun a b h1 h2 e_215 => ?_ | refine e1_4 (oTwo_some h) fun a b h1 h2 e_215 => ?_ | obtain ⟨a, b, h1, h2, e_215⟩ := oTwo_some h
      obtain rfl := e_215
      exact e_cmp (ihE _ _ h1) (ihE _ _ h2) (noMarks h2)
    | cons op2 ops =>
      obtain ⟨hl, h⟩ := onlyIf_some (show onlyIf _ _ = some ie from h)
      first | refine e3_1 (on2_some h) fun r r' e_216 h => ?_ | refine e2_2 (on2_some h) fun r r' e_216 h => ?_ | refine e1_3 (on2_some h) fun r r' e_216 h => ?_ | refine e0_4 (on2_some h) fun r r' e_216 h => ?_ | obtain ⟨r, r', e_216, h⟩ := on2_some h
      obtain rfl := e_216
      first | refine e3_4 (oThree_some h) fun a b d h1 h2 h3 e_217 => ?_ | obtain ⟨a, b, d, h1, h2, h3, e_217⟩ := oThree_some h
      obtain rfl := e_217
      cases ops with
      | nil => exact e_cmp2 (ihE _ _ h1) (ihE _ _ h2) (ihE _ _ h3) (noMarks h3)
      | cons _ _ => exact Bool.noConfusion hl

theorem soundE (hO : OrcOk D k Φ) : ∀ (n : Nat) (c : CC) (e : Expr) (ie : IE), GOk D c.G → compE n c e = some ie → Both D Φ k c e ie := by
  intro n
  induction n with
  | zero => intro c e ie g h; exact no_some h
  | succ n ih =>
    intro c e ie g h
    have ihB : ∀ e ie, compE n c e = some ie → Both D Φ k c e ie := fun e ie h => ih c e ie g h
    have ihE : ∀ e ie, compE n c e = some ie → SE D Φ k c e ie := fun e ie h => (ihB e ie h).1
    cases e with
    | Constant kk a b =>
      obtain ⟨W, hW, rfl⟩ := Option.map_eq_some_iff.mp h; exact e_const hW
    | Name x p => exact e_name g h
    | BinOp l op r p => obtain ⟨a, b, h1, h2, rfl⟩ := oTwo_some h; exact e_bin (ihE _ _ h1) (ihE _ _ h2)
    | UnaryOp op x p =>
      cases op with
      | USub => obtain ⟨a, ha, rfl⟩ := Option.map_eq_some_iff.mp h; exact e_neg (ihE _ _ ha)
      | Not => obtain ⟨a, ha, rfl⟩ := Option.map_eq_some_iff.mp h; exact e_not (ihB _ _ ha)
      | _ => exact no_some h
    | BoolOp op vs p =>
      first | refine e2_1 (Option.bind_eq_some_iff.mp h) fun ies h1 h2 => ?_ | refine e1_2 (Option.bind_eq_some_iff.mp h) fun ies h1 h2 => ?_ | refine e0_3 (Option.bind_eq_some_iff.mp h) fun ies h1 h2 => ?_ | obtain ⟨ies, h1, h2⟩ := Option.bind_eq_some_iff.mp h
      cases op with
      | And => exact e_and ihB h1 h2
      | Or => exact e_or ihB h1 h2
    | IfExp t a b p => obtain ⟨a, b, d, h1, h2, h3, rfl⟩ := oThree_some h; exact e_ite (ihB _ _ h1) (ihB _ _ h2) (ihB _ _ h3)
    | Compare l ops rs p => exact e_cm ihE h
    | Tuple es a p =>
      obtain ⟨hs, h⟩ := onlyIf_some h
      first | refine e2_1 (Option.map_eq_some_iff.mp h) fun a ha e_218 => ?_ | refine e1_2 (Option.map_eq_some_iff.mp h) fun a ha e_218 => ?_ | refine e0_3 (Option.map_eq_some_iff.mp h) fun a ha e_218 => ?_ | obtain ⟨a, ha, e_218⟩ := Option.map_eq_some_iff.mp h
      obtain rfl := e_218
      exact e_tup ihE (bnot hs) ha
    | List es p =>
      obtain ⟨hs, h⟩ := onlyIf_some h
      first | refine e2_1 (Option.map_eq_some_iff.mp h) fun a ha e_219 => ?_ | refine e1_2 (Option.map_eq_some_iff.mp h) fun a ha e_219 => ?_ | refine e0_3 (Option.map_eq_some_iff.mp h) fun a ha e_219 => ?_ | obtain ⟨a, ha, e_219⟩ := Option.map_eq_some_iff.mp h
      obtain rfl := e_219
      exact e_lst ihE (bnot hs) ha
    | Call f args kw p =>
      obtain ⟨hs, h⟩ := onlyIf_some h
      obtain rfl : kw = [] := List.isEmpty_iff.mp hs
      exact e_fn hO g ihE h
    | Subscript o i p =>
      have plain : oTwo IE.sub (compE n c o) (compE n c i) = some ie → Both D Φ k c (.Subscript o i p) ie := fun h => by
        first | refine e3_2 (oTwo_some h) fun a b h1 h2 e_220 => ?_ | refine e2_3 (oTwo_some h) fun a b h1 h2 e_220 => ?_ | refine e1_4 (oTwo_some h) fun a b h1 h2 e_220 => ?_ | obtain ⟨a, b, h1, h2, e_220⟩ := oTwo_some h
        obtain rfl := e_220
        exact e_sub (ihE _ _ h1) (ihE _ _ h2) (noSlice h2)
      cases i with
      | Slice lo hi st sp =>
        cases st with
        | none =>
          first | refine e3_4 (oThree_some (show oThree IE.slice _ _ _ = some ie from h)) fun a b d h1 h2 h3 e_221 => ?_ | obtain ⟨a, b, d, h1, h2, h3, e_221⟩ := oThree_some (show oThree IE.slice _ _ _ = some ie from h)
          obtain rfl := e_221
          exact e_slice ihE h1 h2 h3
        | some _ => exact no_some h
      | _ => exact plain h
    | ListComp elt gens scope pos => exact e_lc g ih h
    | _ => exact no_some h
end
end Mine

set_option autoImplicit false
/- Statements (nothing is raised). -/
namespace Mine
open PySem PyProof.Rows

noncomputable def ownA (env : Env) : List Addr := env.locals :: env.cells.map (·.2)

structure FRel (D : Wd) (γ : List Addr) (env : Env) (slots : List (Str × Nat)) (h : Heap) (L : Lc) : Prop where
  l : LRel D γ env slots h L
  own : ∀ a ∈ ownA env, a ∉ γ ∧ D.hB.get? a = none ∧ (∃ o, h.get? a = some o) ∧ ∀ ws, ¬ TupAt h a ws
  apart : env.cells.Pairwise fun x y => x.2 ≠ y.2
  above : ∀ p ∈ env.cells, p.2 ≠ env.locals
  top : ∃ outer, D.fr = env :: outer ∧ env.frame = some env.locals

noncomputable def FlRep (mg : Wd) (γ : List Addr) (h : Heap) (fl : Flow) (F : Fl) : Prop := match F with
  | .next => fl = .next
  | .ret V => ∃ v, fl = .ret v ∧ Rep mg γ h v V

noncomputable def PostF (D : Wd) (γ : List Addr) (s : Shared) (env : Env) (slots : List (Str × Nat)) (Q : QS) (fl : Flow) (s' : Shared) : Prop :=
  ∃ γ' H' L' F, Stp (ownA env) γ γ' s s' ∧ HRel D γ' H' s'.heap ∧ FRel D γ' env slots s'.heap L' ∧ FlRep D γ' s'.heap fl F ∧ Q F L' H'

noncomputable def PostE (D : Wd) (γ : List Addr) (s : Shared) (env : Env) (slots : List (Str × Nat)) (X : XS) (e : Value) (s' : Shared) : Prop :=
  ∃ γ' H' L' x, Stp (ownA env) γ γ' s s' ∧ HRel D γ' H' s'.heap ∧ FRel D γ' env slots s'.heap L' ∧ ((XNew D s s'.heap e x ∨ XFly D s s'.heap e x) ∧ (x.cls, x.ups) ∈ D.ex) ∧ X x L' H'
theorem PostE.no {D : Wd} {γ : List Addr} {s : Shared} {env : Env} {slots : List (Str × Nat)} {e : Value} {s' : Shared} (h : PostE D γ s env slots noXS e s') : False := by
  obtain ⟨_, _, _, _, _, _, _, _, x⟩ := h; exact x

structure SlotsOk (c : CC) : Prop where
  inj : ∀ (x y : Str) (i : Nat), c.slots.lookup x = some i → c.slots.lookup y = some i → x = y

section
variable {D : Wd} {Φ : Orc} {k : Nat} {γ γ1 : List Addr} {H H1 : Hp} {s s1 : Shared} {env : Env} {slots : List (Str × Nat)} {L : Lc}

theorem FRel.stp (f : FRel D γ env slots s.heap L) (R : HRel D γ H s.heap) (t : Stp [] γ γ1 s s1) : FRel D γ1 env slots s1.heap L where
  l := f.l.stp R t
  own := fun a ha => by
    first | refine e3_1 (f.own a ha) fun h1 h2 e_222 h3 => ?_ | refine e2_2 (f.own a ha) fun h1 h2 e_222 h3 => ?_ | refine e1_3 (f.own a ha) fun h1 h2 e_222 h3 => ?_ | refine e0_4 (f.own a ha) fun h1 h2 e_222 h3 => ?_ | obtain ⟨h1, h2, e_222, h3⟩ := f.own a ha
    obtain ⟨o, e⟩ := e_222
    first | refine e2_1 (t.keepS _ _ h1 (by simp) e) fun sl e' hs => ?_ | refine e1_2 (t.keepS _ _ h1 (by simp) e) fun sl e' hs => ?_ | refine e0_3 (t.keepS _ _ h1 (by simp) e) fun sl e' hs => ?_ | obtain ⟨sl, e', hs⟩ := t.keepS _ _ h1 (by simp) e
    refine ⟨notin_ext t h1 e, h2, ⟨_, e'⟩, fun ws q => h3 ws ?_⟩
    first | refine e2_1 q fun n q1 q2 => ?_ | refine e1_2 q fun n q1 q2 => ?_ | refine e0_3 q fun n q1 q2 => ?_ | obtain ⟨n, q1, q2⟩ := q
    rw [e'] at q1
    have hd : o.data = .seq ws.toArray n := by
      have := Option.some.inj q1
      exact congrArg Obj.data this
    rw [hs (notD_seq hd)] at q1
    exact ⟨n, e.trans q1, q2⟩
  apart := f.apart
  above := f.above
  top := f.top

theorem Stp.transF {wr γ2 : List Addr} {s2 : Shared} (R1 : HRel D γ1 H1 s1.heap) (a : Stp wr γ γ1 s s1) (b : Stp wr γ1 γ2 s1 s2) (hw : ∀ x ∈ wr, ∃ o', s1.heap.get? x = some o') : Stp wr γ γ2 s s2 :=
  a.trans R1 b (fun x hx _ _ => hw x hx)

theorem FRel.alive (f : FRel D γ env slots s.heap L) : ∀ x ∈ ownA env, ∃ o', s.heap.get? x = some o' := fun x hx => by
  obtain ⟨_, _, e, _⟩ := f.own x hx; exact e

theorem PostF.back {Q : QS} {fl : Flow} {s' : Shared} {L1 : Lc} (t : Stp (ownA env) γ γ1 s s1) (R : HRel D γ1 H1 s1.heap) (f : FRel D γ1 env slots s1.heap L1) (h : PostF D γ1 s1 env slots Q fl s') : PostF D γ s env slots Q fl s' := by
  first | refine e4_5 h fun γ' H' L' F a b c d e => ?_ | obtain ⟨γ', H', L', F, a, b, c, d, e⟩ := h
  exact ⟨γ', H', L', F, t.transF R a f.alive, b, c, d, e⟩

theorem fresh_backF {wr : List Addr} (t : Stp wr γ γ1 s s1) (R : HRel D γ1 H1 s1.heap) (hw : ∀ x ∈ wr, ∃ o', s1.heap.get? x = some o') {a : Addr} (h : s1.heap.get? a = none) : s.heap.get? a = none := by
  cases e : s.heap.get? a with
  | none => rfl
  | some o =>
    by_cases hg : a ∈ γ
    · first | refine e2_1 (t.ext) fun δ e_223 _ => ?_ | refine e1_2 (t.ext) fun δ e_223 _ => ?_ | refine e0_3 (t.ext) fun δ e_223 _ => ?_ | obtain ⟨δ, e_223, _⟩ := t.ext
      obtain rfl := e_223
      first | refine e2_1 (R.alive (List.mem_append_left _ hg)) fun o' e' _ => ?_ | refine e1_2 (R.alive (List.mem_append_left _ hg)) fun o' e' _ => ?_ | refine e0_3 (R.alive (List.mem_append_left _ hg)) fun o' e' _ => ?_ | obtain ⟨o', e', _⟩ := R.alive (List.mem_append_left _ hg)
      rw [h] at e'; cases e'
    · by_cases hx : a ∈ wr
      · obtain ⟨o', e'⟩ := hw a hx
        rw [h] at e'; cases e'
      · obtain ⟨o', e'⟩ := t.live hg hx e
        rw [h] at e'; cases e'
theorem PostE.back {X : XS} {e : Value} {s' : Shared} {L1 : Lc} (t : Stp (ownA env) γ γ1 s s1) (R : HRel D γ1 H1 s1.heap) (f : FRel D γ1 env slots s1.heap L1) (h : PostE D γ1 s1 env slots X e s') : PostE D γ s env slots X e s' := by
  first | refine e4_5 h fun γ' H' L' x a b c e_224 q => ?_ | obtain ⟨γ', H', L', x, a, b, c, e_224, q⟩ := h
  obtain ⟨d, m⟩ := e_224
  have fb : ∀ a, s1.heap.get? a = none → s.heap.get? a = none := fun a => fresh_backF t R f.alive
  exact ⟨γ', H', L', x, t.transF R a f.alive, b, c, ⟨d.imp (·.from fb) (·.from fb), m⟩, q⟩
theorem PostX.toE {X : XS} {e : Value} {s' : Shared} (f : FRel D γ env slots s.heap L) (R : HRel D γ H s.heap) (h : PostX D γ s (fun x => X x L) e s') : PostE D γ s env slots X e s' := by
  first | refine e3_4 h fun γ' H' x a b e_225 q => ?_ | obtain ⟨γ', H', x, a, b, e_225, q⟩ := h
  obtain ⟨c, m⟩ := e_225
  exact ⟨γ', H', L, x, a.weak, b, f.stp R a, ⟨.inr c, m⟩, q⟩

theorem lookup_cell_mem {x : Str} {c : Addr} (h : env.cells.lookup x = some c) : c ∈ ownA env := List.mem_cons_of_mem _ (List.mem_map.mpr ⟨(x, c), mem_of_lookup h, rfl⟩)

theorem notTup_cell {h : Heap} {c : Addr} {u : Option Value} (x : h.IsCell c u) (ws : List Value) : ¬ TupAt h c ws := fun q => by
  first | refine e2_1 x fun o e d => ?_ | refine e1_2 x fun o e d => ?_ | refine e0_3 x fun o e d => ?_ | obtain ⟨o, e, d⟩ := x
  first | refine e2_1 q fun n e' _ => ?_ | refine e1_2 q fun n e' _ => ?_ | refine e0_3 q fun n e' _ => ?_ | obtain ⟨n, e', _⟩ := q
  rw [e] at e'; cases e'; cases d

theorem notTup_same {h h' : Heap} {a : Addr} {o : Obj} (e : h.get? a = some o) (e' : h'.get? a = some o) (q : ∀ ws, ¬ TupAt h a ws) (ws : List Value) : ¬ TupAt h' a ws := fun x => by
  first | refine e2_1 x fun n q1 q2 => ?_ | refine e1_2 x fun n q1 q2 => ?_ | refine e0_3 x fun n q1 q2 => ?_ | obtain ⟨n, q1, q2⟩ := x
  rw [e'] at q1; cases q1
  exact q ws ⟨n, e, q2⟩

theorem store_ok {c : CC} {A : Around} {E : Value → Shared → Prop} {x : Str} {i : Nat} {v : Value} {W : V} (hE : EnvOk c env) (so : SlotsOk c) (R : HRel D γ H s.heap) (f : FRel D γ env c.slots s.heap L) (hs : slotV c x = some i) (rv : Rep D γ s.heap v W) :
    wpAny D.M A (storeName env x v) (fun _ s' => Stp (ownA env) γ γ s s' ∧ HRel D γ H s'.heap ∧ FRel D γ env c.slots s'.heap (L.set i (some W))) E s := by
  have hkf : env.scope.kind = .function := by rw [hE.scope]; exact hE.kind
  have hkind : ∀ y, env.kindOf y = c.scope.names.lookup y := fun y => by unfold Env.kindOf; rw [hE.scope]
  first | refine e2_1 (Option.bind_eq_some_iff.mp hs) fun kk hk hs => ?_ | refine e1_2 (Option.bind_eq_some_iff.mp hs) fun kk hk hs => ?_ | refine e0_3 (Option.bind_eq_some_iff.mp hs) fun kk hk hs => ?_ | obtain ⟨kk, hk, hs⟩ := Option.bind_eq_some_iff.mp hs
  have hk' : env.kindOf x = some kk := (hkind x).trans hk
  cases kk with
  | «local» =>
    have hs : c.slots.lookup x = some i := hs
    first | refine e2_1 (f.l.ns) fun m hn fm => ?_ | refine e1_2 (f.l.ns) fun m hn fm => ?_ | refine e0_3 (f.l.ns) fun m hn fm => ?_ | obtain ⟨m, hn, fm⟩ := f.l.ns
    first | refine e3_1 (f.own env.locals List.mem_cons_self) fun lg lB _ cL => ?_ | refine e2_2 (f.own env.locals List.mem_cons_self) fun lg lB _ cL => ?_ | refine e1_3 (f.own env.locals List.mem_cons_self) fun lg lB _ cL => ?_ | refine e0_4 (f.own env.locals List.mem_cons_self) fun lg lB _ cL => ?_ | obtain ⟨lg, lB, _, cL⟩ := f.own env.locals List.mem_cons_self
    refine wpAny_storeName_local hk' hn (fun h' hn' hs' => ?_) (by rw [hkf]; rfl)
    have hkk : ∀ b o, b ≠ env.locals → s.heap.get? b = some o → h'.get? b = some o := fun b o hb e => hs'.extBut b o hb e
    have tt : ∀ a ws, TupAt s.heap a ws → TupAt h' a ws := fun a ws q => tupAt_but hkk cL q
    refine ⟨Stp.of ⟨_, _, rfl⟩ (fun b o _ hb e => hkk b o (fun q => hb (q ▸ List.mem_cons_self)) e) ⟨[], by simp, by simp⟩, R.but hkk lg lB cL (.inr (isD_ns hn')), ⟨⟨⟨_, hn', ?_⟩, ?_, lg, f.l.tp⟩, ?_, f.apart, f.above, f.top⟩⟩
    · intro y j V hy hj hL
      by_cases hxy : y = x
      · subst hxy
        rw [hs] at hj; obtain rfl := Option.some.inj hj
        obtain rfl := set_get hL
        exact ⟨v, by simp, Rep.mono ⟨[], by simp⟩ tt rv⟩
      · have hij : i ≠ j := fun q => hxy (so.inj y x i (q ▸ hj) hs)
        rw [List.getElem?_set_ne hij] at hL
        first | refine e2_1 (fm y j V hy hj hL) fun u hu ru => ?_ | refine e1_2 (fm y j V hy hj hL) fun u hu ru => ?_ | refine e0_3 (fm y j V hy hj hL) fun u hu ru => ?_ | obtain ⟨u, hu, ru⟩ := fm y j V hy hj hL
        exact ⟨u, by simp [hxy, hu], Rep.mono ⟨[], by simp⟩ tt ru⟩
    · intro y hy
      first | refine e3_3 (f.l.cel y hy) fun ca u e1 e2 e3 e4 => ?_ | refine e2_4 (f.l.cel y hy) fun ca u e1 e2 e3 e4 => ?_ | obtain ⟨ca, u, e1, e2, e3, e4⟩ := f.l.cel y hy
      refine ⟨ca, u, e1, e2.sameBut hs' (f.above (y, ca) (mem_of_lookup e1)), e3, fun j V hj hL => ?_⟩
      have hij : i ≠ j := fun q => by
        have := so.inj y x i (q ▸ hj) hs
        subst this; rw [hy] at hk'; cases hk'
      rw [List.getElem?_set_ne hij] at hL
      first | refine e2_1 (e4 j V hj hL) fun w hw rw_ => ?_ | refine e1_2 (e4 j V hj hL) fun w hw rw_ => ?_ | refine e0_3 (e4 j V hj hL) fun w hw rw_ => ?_ | obtain ⟨w, hw, rw_⟩ := e4 j V hj hL
      exact ⟨w, hw, Rep.mono ⟨[], by simp⟩ tt rw_⟩
    · intro a ha
      first | refine e3_1 (f.own a ha) fun a1 a2 e_226 a3 => ?_ | refine e2_2 (f.own a ha) fun a1 a2 e_226 a3 => ?_ | refine e1_3 (f.own a ha) fun a1 a2 e_226 a3 => ?_ | refine e0_4 (f.own a ha) fun a1 a2 e_226 a3 => ?_ | obtain ⟨a1, a2, e_226, a3⟩ := f.own a ha
      obtain ⟨o, e⟩ := e_226
      by_cases hal : a = env.locals
      · subst hal
        exact ⟨a1, a2, (let ⟨o', _, _, eo, _⟩ := hn'; ⟨o', eo⟩), notTup_dict hn'⟩
      · exact ⟨a1, a2, ⟨o, hkk _ _ hal e⟩, notTup_same e (hkk _ _ hal e) a3⟩
  | cell =>
    have hs : c.slots.lookup x = some i := hs
    first | refine e3_3 (f.l.cel x hk') fun ca u e1 e2 e3 e4 => ?_ | refine e2_4 (f.l.cel x hk') fun ca u e1 e2 e3 e4 => ?_ | obtain ⟨ca, u, e1, e2, e3, e4⟩ := f.l.cel x hk'
    first | refine e3_1 (f.own ca (lookup_cell_mem e1)) fun lg lB _ cL => ?_ | refine e2_2 (f.own ca (lookup_cell_mem e1)) fun lg lB _ cL => ?_ | refine e1_3 (f.own ca (lookup_cell_mem e1)) fun lg lB _ cL => ?_ | refine e0_4 (f.own ca (lookup_cell_mem e1)) fun lg lB _ cL => ?_ | obtain ⟨lg, lB, _, cL⟩ := f.own ca (lookup_cell_mem e1)
    have hcl : ca ≠ env.locals := f.above (x, ca) (mem_of_lookup e1)
    refine wpAny_storeName_cell hkf hk' e1 e2 (fun h' hc' hs' => ?_)
    have hkk : ∀ b o, b ≠ ca → s.heap.get? b = some o → h'.get? b = some o := fun b o hb e => hs'.extBut b o hb e
    have tt : ∀ a ws, TupAt s.heap a ws → TupAt h' a ws := fun a ws q => tupAt_but hkk cL q
    first | refine e2_1 (f.l.ns) fun m hn fm => ?_ | refine e1_2 (f.l.ns) fun m hn fm => ?_ | refine e0_3 (f.l.ns) fun m hn fm => ?_ | obtain ⟨m, hn, fm⟩ := f.l.ns
    refine ⟨Stp.of ⟨_, s.toks, rfl⟩ (fun b o _ hb e => hkk b o (fun q => hb (q ▸ lookup_cell_mem e1)) e) ⟨[], by simp, by simp⟩, R.but hkk lg lB cL (.inl (let ⟨o, e, d⟩ := e2; ⟨o, e, fun es n q => by rw [d] at q; cases q⟩)), ⟨⟨⟨m, hn.sameBut hs' (Ne.symm hcl), ?_⟩, ?_, f.l.nin, f.l.tp⟩, ?_, f.apart, f.above, f.top⟩⟩
    · intro y j V hy hj hL
      have hij : i ≠ j := fun q => by
        have := so.inj y x i (q ▸ hj) hs
        subst this; rw [hy] at hk'; cases hk'
      rw [List.getElem?_set_ne hij] at hL
      first | refine e2_1 (fm y j V hy hj hL) fun w hw rw_ => ?_ | refine e1_2 (fm y j V hy hj hL) fun w hw rw_ => ?_ | refine e0_3 (fm y j V hy hj hL) fun w hw rw_ => ?_ | obtain ⟨w, hw, rw_⟩ := fm y j V hy hj hL
      exact ⟨w, hw, Rep.mono ⟨[], by simp⟩ tt rw_⟩
    · intro y hy
      by_cases hxy : y = x
      · subst hxy
        refine ⟨ca, some v, e1, hc', e3, fun j V hj hL => ?_⟩
        rw [hs] at hj; obtain rfl := Option.some.inj hj
        obtain rfl := set_get hL
        exact ⟨v, rfl, Rep.mono ⟨[], by simp⟩ tt rv⟩
      · first | refine e3_3 (f.l.cel y hy) fun cb u' f1 f2 f3 f4 => ?_ | refine e2_4 (f.l.cel y hy) fun cb u' f1 f2 f3 f4 => ?_ | obtain ⟨cb, u', f1, f2, f3, f4⟩ := f.l.cel y hy
        have hne : cb ≠ ca := fun q => hxy (name_of_addr f.apart (mem_of_lookup f1) (q ▸ mem_of_lookup e1))
        refine ⟨cb, u', f1, f2.sameBut hs' hne, f3, fun j V hj hL => ?_⟩
        have hij : i ≠ j := fun q => hxy (so.inj y x i (q ▸ hj) hs)
        rw [List.getElem?_set_ne hij] at hL
        first | refine e2_1 (f4 j V hj hL) fun w hw rw_ => ?_ | refine e1_2 (f4 j V hj hL) fun w hw rw_ => ?_ | refine e0_3 (f4 j V hj hL) fun w hw rw_ => ?_ | obtain ⟨w, hw, rw_⟩ := f4 j V hj hL
        exact ⟨w, hw, Rep.mono ⟨[], by simp⟩ tt rw_⟩
    · intro a ha
      first | refine e3_1 (f.own a ha) fun a1 a2 e_227 a3 => ?_ | refine e2_2 (f.own a ha) fun a1 a2 e_227 a3 => ?_ | refine e1_3 (f.own a ha) fun a1 a2 e_227 a3 => ?_ | refine e0_4 (f.own a ha) fun a1 a2 e_227 a3 => ?_ | obtain ⟨a1, a2, e_227, a3⟩ := f.own a ha
      obtain ⟨o, e⟩ := e_227
      by_cases hal : a = ca
      · subst hal
        exact ⟨a1, a2, (let ⟨o', eo, _⟩ := hc'; ⟨o', eo⟩), notTup_cell hc'⟩
      · exact ⟨a1, a2, ⟨o, hkk _ _ hal e⟩, notTup_same e (hkk _ _ hal e) a3⟩
  | _ => exact no_some hs
end
section
variable {D : Wd} {γ γ1 γ0 : List Addr} {H H1 H0 : Hp} {s s1 : Shared} {env : Env} {slots : List (Str × Nat)} {L : Lc} {ex : List Addr} {h h' : Heap}
theorem FRel.butN {h h' : Heap} {I : Addr} (f : FRel D γ env slots h L) (hk : ∀ b o, b ≠ I → h.get? b = some o → h'.get? b = some o) (hI : I ∉ ownA env) (nt : ∀ ws, ¬ TupAt h I ws) : FRel D γ env slots h' L where
  l := {
    ns := by
      first | refine e2_1 (f.l.ns) fun m n r => ?_ | refine e1_2 (f.l.ns) fun m n r => ?_ | refine e0_3 (f.l.ns) fun m n r => ?_ | obtain ⟨m, n, r⟩ := f.l.ns
      refine ⟨m, n.at' fun o e => hk _ o (fun q => hI (q ▸ List.mem_cons_self)) e, fun x i V a b c => ?_⟩
      first | refine e2_1 (r x i V a b c) fun v e q => ?_ | refine e1_2 (r x i V a b c) fun v e q => ?_ | refine e0_3 (r x i V a b c) fun v e q => ?_ | obtain ⟨v, e, q⟩ := r x i V a b c
      exact ⟨v, e, Rep.mono ⟨[], by simp⟩ (fun _ _ q => tupAt_but hk nt q) q⟩
    cel := fun x hx => by
      first | refine e3_3 (f.l.cel x hx) fun c u a e_228 hc r => ?_ | refine e2_4 (f.l.cel x hx) fun c u a e_228 hc r => ?_ | obtain ⟨c, u, a, e_228, hc, r⟩ := f.l.cel x hx
      obtain ⟨o, ho, hd⟩ := e_228
      refine ⟨c, u, a, ⟨o, hk _ _ (fun q => hI (q ▸ lookup_cell_mem a)) ho, hd⟩, hc, fun i V b d => ?_⟩
      first | refine e2_1 (r i V b d) fun v e q => ?_ | refine e1_2 (r i V b d) fun v e q => ?_ | refine e0_3 (r i V b d) fun v e q => ?_ | obtain ⟨v, e, q⟩ := r i V b d
      exact ⟨v, e, Rep.mono ⟨[], by simp⟩ (fun _ _ q => tupAt_but hk nt q) q⟩
    nin := f.l.nin
    tp := f.l.tp }
  own := fun a ha => by
    first | refine e3_1 (f.own a ha) fun a1 a2 e_229 a3 => ?_ | refine e2_2 (f.own a ha) fun a1 a2 e_229 a3 => ?_ | refine e1_3 (f.own a ha) fun a1 a2 e_229 a3 => ?_ | refine e0_4 (f.own a ha) fun a1 a2 e_229 a3 => ?_ | obtain ⟨a1, a2, e_229, a3⟩ := f.own a ha
    obtain ⟨o, e⟩ := e_229
    have e' := hk a o (fun q => hI (q ▸ ha)) e
    exact ⟨a1, a2, ⟨o, e'⟩, notTup_same e e' a3⟩
  apart := f.apart
  above := f.above
  top := f.top
theorem Stp.butF {wr : List Addr} {h' : Heap} {tk : Nat} {z : Addr} (t : Stp wr γ γ1 s s1) (hk : ∀ b o, b ≠ z → s1.heap.get? b = some o → h'.get? b = some o) (hz : s.heap.get? z = none) : Stp wr γ γ1 s { s1 with heap := h', toks := tk } := by
  refine ⟨?_, fun b o hb hw e => let ⟨sl, e', q⟩ := t.keepS b o hb hw e; ⟨sl, hk b _ (by rintro rfl; rw [hz] at e; cases e) e', q⟩, t.ext⟩
  first | refine e2_1 (t.same) fun h1 t1 e_230 => ?_ | refine e1_2 (t.same) fun h1 t1 e_230 => ?_ | refine e0_3 (t.same) fun h1 t1 e_230 => ?_ | obtain ⟨h1, t1, e_230⟩ := t.same
  obtain rfl := e_230
  exact ⟨_, _, rfl⟩
theorem Land.frel (l : Land ex h h') (R : HRel D γ H h) (X : ExF D s h ex) (alive : ∀ a ∈ ownA env, ∃ o, s.heap.get? a = some o) (f : FRel D γ env slots h L) : FRel D γ env slots h' L where
  l := {
    ns := by
      first | refine e2_1 (f.l.ns) fun m n r => ?_ | refine e1_2 (f.l.ns) fun m n r => ?_ | refine e0_3 (f.l.ns) fun m n r => ?_ | obtain ⟨m, n, r⟩ := f.l.ns
      refine ⟨m, l.up.ns n, fun x i V a b c => ?_⟩
      first | refine e2_1 (r x i V a b c) fun v e q => ?_ | refine e1_2 (r x i V a b c) fun v e q => ?_ | refine e0_3 (r x i V a b c) fun v e q => ?_ | obtain ⟨v, e, q⟩ := r x i V a b c
      exact ⟨v, e, l.rep R.frs X q⟩
    cel := fun x hx => by
      first | refine e3_3 (f.l.cel x hx) fun c u a e_231 hc r => ?_ | refine e2_4 (f.l.cel x hx) fun c u a e_231 hc r => ?_ | obtain ⟨c, u, a, e_231, hc, r⟩ := f.l.cel x hx
      obtain ⟨o, ho, hd⟩ := e_231
      refine ⟨c, u, a, ⟨o, l.same R.frs X (fun es n q => by rw [hd] at q; cases q) (fun vs q => by rw [hd] at q; cases q) ho, hd⟩, hc, fun i V b d => ?_⟩
      first | refine e2_1 (r i V b d) fun v e q => ?_ | refine e1_2 (r i V b d) fun v e q => ?_ | refine e0_3 (r i V b d) fun v e q => ?_ | obtain ⟨v, e, q⟩ := r i V b d
      exact ⟨v, e, l.rep R.frs X q⟩
    nin := f.l.nin
    tp := f.l.tp }
  own := fun a ha => by
    first | refine e3_1 (f.own a ha) fun a1 a2 e_232 a3 => ?_ | refine e2_2 (f.own a ha) fun a1 a2 e_232 a3 => ?_ | refine e1_3 (f.own a ha) fun a1 a2 e_232 a3 => ?_ | refine e0_4 (f.own a ha) fun a1 a2 e_232 a3 => ?_ | obtain ⟨a1, a2, e_232, a3⟩ := f.own a ha
    obtain ⟨o, e⟩ := e_232
    by_cases hx : a ∈ ex
    · rcases X.each a hx with q | ⟨q, _⟩
      · first | refine e3_1 (R.frs.at q) fun _ o' e' d => ?_ | refine e2_2 (R.frs.at q) fun _ o' e' d => ?_ | refine e1_3 (R.frs.at q) fun _ o' e' d => ?_ | refine e0_4 (R.frs.at q) fun _ o' e' d => ?_ | obtain ⟨_, o', e', d⟩ := R.frs.at q
        rw [e] at e'; cases e'
        obtain ⟨sl, e2⟩ := l.up a o e fun vs q => d (notD_fields q)
        refine ⟨a1, a2, ⟨_, e2⟩, fun ws t => d ?_⟩
        first | refine e2_1 t fun n t1 _ => ?_ | refine e1_2 t fun n t1 _ => ?_ | refine e0_3 t fun n t1 _ => ?_ | obtain ⟨n, t1, _⟩ := t
        rw [e2] at t1
        have hd : o.data = .seq ws.toArray n := congrArg Obj.data (Option.some.inj t1)
        exact notD_seq hd
      · obtain ⟨o', e'⟩ := alive a ha
        rw [e'] at q; cases q
    · have e2 := l.stays a o hx e
      exact ⟨a1, a2, ⟨o, e2⟩, notTup_same e e2 a3⟩
  apart := f.apart
  above := f.above
  top := f.top

/- what a loop's own code raises comes back to the frame -/
theorem held_back {A : Around} {X : XS} {e : Value} {k : Nat} (hA : AOk D k A) (R0 : HRel D γ H s.heap) (alive : ∀ a ∈ ownA env, ∃ o, s.heap.get? a = some o) (p : PostE D γ s env slots X e s1) :
    notedBy D.M A env (fun e s' => cameBackBy D.M A env (PostE D γ s env slots X) e s') e s1 := by
  first | refine e4_5 p fun γ' H' L' x st R1 fr1 e_233 q => ?_ | obtain ⟨γ', H', L', x, st, R1, fr1, e_233, q⟩ := p
  obtain ⟨hx, hex⟩ := e_233
  first | refine e2_1 (fr1.top) fun outer htop hfr => ?_ | refine e1_2 (fr1.top) fun outer htop hfr => ?_ | refine e0_3 (fr1.top) fun outer htop hfr => ?_ | obtain ⟨outer, htop, hfr⟩ := fr1.top
  refine note_any hA.frames R0 R1 htop hfr hx fun a C a0 ex h' e1 hmg hn hax XF up hh => ?_
  subst e1
  refine came hh fun h2 hh2 up2 => ?_
  first | refine e3_2 hh2 fun k1 k2 k3 fl k4 => ?_ | refine e2_3 hh2 fun k1 k2 k3 fl k4 => ?_ | refine e1_4 hh2 fun k1 k2 k3 fl k4 => ?_ | obtain ⟨k1, k2, k3, fl, k4⟩ := hh2
  have land : Land ex s1.heap h2 := Land.of k1 (up.trans up2)
  exact ⟨γ', H', L', x, land.stp R1.frs XF st, land.rel R1 XF, land.frel R1 XF alive fr1, ⟨.inr (fly_of (fun b => fresh_backF st R1 fr1.alive) R1.frs XF land hmg hn k4), hex⟩, q⟩
end
end Mine

set_option autoImplicit false
/- Statements, one at a time. -/
namespace Mine
open PySem PyProof.Rows

noncomputable def SS (D : Wd) (Φ : Orc) (k : Nat) (c : CC) (st : Stmt) (is : IS) : Prop := ∀ env A γ H s L Q X, EnvOk c env → AOk D k A → HRel D γ H s.heap → FRel D γ env c.slots s.heap L →
  wpS Φ is L H Q X → wpAny D.M A (exec st env) (PostF D γ s env c.slots Q) (PostE D γ s env c.slots X) s
noncomputable def SSs (D : Wd) (Φ : Orc) (k : Nat) (c : CC) (sts : List Stmt) (iss : List IS) : Prop := ∀ env A γ H s L Q X, EnvOk c env → AOk D k A → HRel D γ H s.heap → FRel D γ env c.slots s.heap L →
  wpSs Φ iss L H Q X → wpAny D.M A (execs sts env) (PostF D γ s env c.slots Q) (PostE D γ s env c.slots X) s

section
variable {D : Wd} {Φ : Orc} {k : Nat} {c : CC}

theorem sss_of {f : Stmt → Option IS} (ih : ∀ st is, f st = some is → SS D Φ k c st is) : ∀ (sts : List Stmt) (iss : List IS), mapO f sts = some iss → SSs D Φ k c sts iss
  | [], iss, hm => by
    rw [mapO_nil hm]
    intro env A γ H s L Q X hE hA R fr w
    exact wpAny_execs_nil ⟨γ, H, L, .next, Stp.refl, R, fr, rfl, w⟩
  | st :: r, iss, hm => by
    first | refine e3_2 (mapO_cons hm) fun b bs e_234 h1 h2 => ?_ | refine e2_3 (mapO_cons hm) fun b bs e_234 h1 h2 => ?_ | refine e1_4 (mapO_cons hm) fun b bs e_234 h1 h2 => ?_ | obtain ⟨b, bs, e_234, h1, h2⟩ := mapO_cons hm
    obtain rfl := e_234
    intro env A γ H s L Q X hE hA R fr w
    refine wpAny_execs_cons (wpAny_mono (ih st b h1 env A γ H s L _ X hE hA R fr w) (fun fl s1 p => ?_) fun _ _ x => x)
    first | refine e4_5 p fun γ1 H1 L1 F st1 R1 fr1 hf q => ?_ | obtain ⟨γ1, H1, L1, F, st1, R1, fr1, hf, q⟩ := p
    cases F with
    | next =>
      obtain rfl := hf
      exact wpAny_mono (sss_of ih r bs h2 env A γ1 H1 s1 L1 Q X hE hA R1 fr1 q) (fun _ _ x => x.back st1 R1 fr1) fun _ _ x => x.back st1 R1 fr1
    | ret V =>
      first | refine e2_1 hf fun v e_235 rv => ?_ | refine e1_2 hf fun v e_235 rv => ?_ | refine e0_3 hf fun v e_235 rv => ?_ | obtain ⟨v, e_235, rv⟩ := hf
      obtain rfl := e_235
      exact ⟨γ1, H1, L1, .ret V, st1, R1, fr1, ⟨v, rfl, rv⟩, q⟩

theorem kindF {env : Env} (hE : EnvOk c env) : env.scope.kind = .function := by rw [hE.scope]; exact hE.kind

theorem s_expr {e : Expr} {pos : Pos} {ie : IE} (h : SE D Φ k c e ie) (hc : isComp e = false) : SS D Φ k c (.Expr e pos) (.expr ie) := by
  intro env A γ H s L Q X hE hA R fr w
  have hk := kindF hE
  refine wpAny_Expr_any (wpAny_mono (h env A γ H s L _ _ hE hA R fr.l w) (fun v s1 p => ?_) fun _ _ x => x.toE fr R) (by unfold interactive; rw [hk]; rfl) (by cases e <;> first | rfl | exact Bool.noConfusion hc)
  first | refine e3_4 p fun γ1 V H1 st R1 rv q => ?_ | obtain ⟨γ1, V, H1, st, R1, rv, q⟩ := p
  exact ⟨γ1, H1, L, .next, st.weak, R1, fr.stp R st, rfl, q⟩

theorem s_ret {e : Expr} {pos : Pos} {ie : IE} (h : SE D Φ k c e ie) : SS D Φ k c (.Return (some e) pos) (.ret ie) := by
  intro env A γ H s L Q X hE hA R fr w
  refine wpAny_Return_some (wpAny_mono (h env A γ H s L _ _ hE hA R fr.l w) (fun v s1 p => ?_) fun _ _ x => x.toE fr R)
  first | refine e3_4 p fun γ1 V H1 st R1 rv q => ?_ | obtain ⟨γ1, V, H1, st, R1, rv, q⟩ := p
  exact ⟨γ1, H1, L, .ret V, st.weak, R1, fr.stp R st, ⟨v, rfl, rv⟩, q⟩

theorem s_assign {e : Expr} {x : Str} {px pos : Pos} {ie : IE} {i : Nat} (so : SlotsOk c) (h : SE D Φ k c e ie) (hs : slotV c x = some i) (hw : ∀ env, EnvOk c env → swapsWith e (some (.Name x px)) pos.line env = pure false) :
    SS D Φ k c (.Assign [.Name x px] e pos) (.assign i ie) := by
  intro env A γ H s L Q X hE hA R fr w
  refine wpAny_Assign_Name (wpAny_mono (h env A γ H s L _ _ hE hA R fr.l w) (fun v s1 p => ?_) fun _ _ x => x.toE fr R) (hw env hE)
  first | refine e3_4 p fun γ1 V H1 st R1 rv q => ?_ | obtain ⟨γ1, V, H1, st, R1, rv, q⟩ := p
  refine wpAny_mono (store_ok hE so R1 (fr.stp R st) hs rv) (fun _ s2 p => ?_) fun _ _ x => x
  first | refine e2_1 p fun st2 R2 fr2 => ?_ | refine e1_2 p fun st2 R2 fr2 => ?_ | refine e0_3 p fun st2 R2 fr2 => ?_ | obtain ⟨st2, R2, fr2⟩ := p
  exact ⟨γ1, H1, _, .next, st.weak.transF R1 st2 (fr.stp R st).alive, R2, fr2, rfl, q⟩

theorem s_set {o i value : Expr} {pos' pos : Pos} {io ii iv : IE} (hv : SE D Φ k c value iv) (ho : SE D Φ k c o io) (hi : SE D Φ k c i ii) (hw : ∀ env, swapsWith value (some (.Subscript o i pos')) pos.line env = pure false) :
    SS D Φ k c (.Assign [.Subscript o i pos'] value pos) (.setItem io ii iv) := by
  intro env A γ H s L Q X hE hA R fr w
  refine wpAny_Assign_Subscript (wpAny_mono (hv env A γ H s L _ _ hE hA R fr.l w) (fun v s1 p => ?_) fun _ _ x => x.toE fr R) (hw env)
  first | refine e3_4 p fun γ1 V H1 st R1 rv q => ?_ | obtain ⟨γ1, V, H1, st, R1, rv, q⟩ := p
  have fr1 := fr.stp R st
  refine wpAny_mono (ho env A γ1 H1 s1 L _ _ hE hA R1 fr1.l q) (fun ov s2 p => ?_) fun _ _ x => (x.toE fr1 R1).back st.weak R1 fr1
  first | refine e3_4 p fun γ2 Vo H2 st2 R2 ro q2 => ?_ | obtain ⟨γ2, Vo, H2, st2, R2, ro, q2⟩ := p
  have fr2 := fr1.stp R1 st2
  refine wpAny_mono (hi env A γ2 H2 s2 L _ _ hE hA R2 fr2.l q2) (fun iv s3 p => ?_) fun _ _ x => (x.toE fr2 R2).back (st.trans0 R1 st2).weak R2 fr2
  first | refine e3_4 p fun γ3 Vi H3 st3 R3 ri q3 => ?_ | obtain ⟨γ3, Vi, H3, st3, R3, ri, q3⟩ := p
  have fr3 := fr2.stp R2 st3
  have st03 := (st.trans0 R1 st2).trans0 R2 st3
  have rv3 := (rv.stp0 R1 st2).stp0 R2 st3
  have ro3 := ro.stp0 R2 st3
  cases Vo with
  | ref j =>
    cases Vi with
    | int m =>
      first | refine e3_1 (oK_elim q3) fun l hl hb q4 => ?_ | refine e2_2 (oK_elim q3) fun l hl hb q4 => ?_ | refine e1_3 (oK_elim q3) fun l hl hb q4 => ?_ | refine e0_4 (oK_elim q3) fun l hl hb q4 => ?_ | obtain ⟨l, hl, hb, q4⟩ := oK_elim q3
      first | refine e2_1 ro3 fun a ha e_236 => ?_ | refine e1_2 ro3 fun a ha e_236 => ?_ | refine e0_3 ro3 fun a ha e_236 => ?_ | obtain ⟨a, ha, e_236⟩ := ro3
      obtain rfl := e_236
      obtain ⟨u, rfl⟩ := ri
      first | refine e3_2 (R3.list ha hl) fun vs n e rs z => ?_ | refine e2_3 (R3.list ha hl) fun vs n e rs z => ?_ | refine e1_4 (R3.list ha hl) fun vs n e rs z => ?_ | obtain ⟨vs, n, e, rs, z⟩ := R3.list ha hl
      have hlen := rs.length
      refine PySem.W.ki_setAt (items := vs.toArray) (n := n) e hb.1 (by omega) (by simp; omega) ?_
      have e' := IsL.update e fun xs => xs.setIfInBounds m.toNat v
      have em : vs.toArray.setIfInBounds m.toNat v = (vs.set m.toNat v).toArray := by apply Array.toList_inj.mp; simp
      simp only [em] at e'
      have rs' : Reps D γ3 s3.heap (vs.set m.toNat v) (l.set m.toNat V) := by
        refine Reps.of_get (by simp [hlen]) fun y w W h1 h2 => ?_
        by_cases hy : m.toNat = y
        · subst hy
          rw [List.getElem?_set_self (by omega)] at h1 h2
          cases h1; cases h2; exact rv3
        · rw [List.getElem?_set_ne hy] at h1 h2
          first | refine e2_1 (rs.get h2) fun w' hw' rw' => ?_ | refine e1_2 (rs.get h2) fun w' hw' rw' => ?_ | refine e0_3 (rs.get h2) fun w' hw' rw' => ?_ | obtain ⟨w', hw', rw'⟩ := rs.get h2
          rw [h1] at hw'; cases hw'; exact rw'
      have hk : ∀ b o', b ≠ a → s3.heap.get? b = some o' → (s3.heap.update a (Obj.mapSeq fun xs => xs.setIfInBounds m.toNat v)).get? b = some o' := fun b o' hb q => (Heap.SameBut.update ..).extBut b o' hb q
      obtain ⟨γ4, V4, H4, st4, R4, _, rfl⟩ := PostV.setList (tk := s3.toks) (vs := vs.set m.toNat v) (l := l.set m.toNat V) (v := .none) (V := .none) (Q := fun _ H' => H' = H3.set j (.list (l.set m.toNat V))) R3 ha rs' (by simp; omega) hk e' (show Rep _ _ _ _ .none from rfl) rfl
      exact ⟨γ4, _, L, .next, (st03.trans0 R3 st4).weak, R4, fr3.stp R3 st4, rfl, q4⟩
    | _ => exact q3.elim
  | _ => exact q3.elim

theorem s_assign_comp {n : Nat} {elt iter : Expr} {x y : Str} {px py pos spos : Pos} {scope : Scope} {ielt : IE} {kk : SrcK} {ss : IE} {i : Nat} (g : GOk D c.G) (so : SlotsOk c)
    (ih : ∀ c e ie, GOk D c.G → compE n c e = some ie → Both D Φ k c e ie) (ok : CompOk c scope x)
    (hsrc : compSrc (compE n c) c iter = some (kk, ss)) (hce : compE n (inner c scope x) elt = some ielt) (hset : ∀ env x, foldedSetIterable iter env x = pure x) (hs : slotV c y = some i) :
    SS D Φ k c (.Assign [.Name y py] (.ListComp elt [⟨.Name x px, iter, [], 0⟩] scope pos) spos) (.assign i (.comp ielt c.nxt kk ss)) := by
  intro env A γ H s L Q X hE hA R fr w
  have hsw : ∃ b, swapsWith (.ListComp elt [⟨.Name x px, iter, [], 0⟩] scope pos) (some (.Name y py)) spos.line env = pure b := ⟨_, rfl⟩
  obtain ⟨b, hb⟩ := hsw
  cases b with
  | false =>
    refine wpAny_Assign_Name (wpAny_mono ((e_comp g ih ok hsrc hce hset).1 env A γ H s L _ _ hE hA R fr.l w) (fun v s1 p => ?_) fun _ _ x => x.toE fr R) hb
    first | refine e3_4 p fun γ1 V H1 st R1 rv q => ?_ | obtain ⟨γ1, V, H1, st, R1, rv, q⟩ := p
    refine wpAny_mono (store_ok hE so R1 (fr.stp R st) hs rv) (fun _ s2 p => ?_) fun _ _ x => x
    first | refine e2_1 p fun st2 R2 fr2 => ?_ | refine e1_2 p fun st2 R2 fr2 => ?_ | refine e0_3 p fun st2 R2 fr2 => ?_ | obtain ⟨st2, R2, fr2⟩ := p
    exact ⟨γ1, H1, _, .next, st.weak.transF R1 st2 (fr.stp R st).alive, R2, fr2, rfl, q⟩
  | true =>
    rw [exec_Assign_Name_used _ _ _ _ hb]
    refine wpAny_bind (wpAny_standAt (wpAny_bind ?_))
    show wpAny _ A (do let _ ← comprehension (.ListComp elt [⟨.Name x px, iter, [], 0⟩] scope pos) scope env _ (newList []) false (eval iter env) (some (assign (.Name y py) env))) _ _ s
    refine wpAny_bind (wpAny_mono (comp_run (use := some (assign (.Name y py) env)) (Qf := fun _ s' => PostF D γ s env c.slots Q .next s') g ih ok hsrc hce hE hA R fr.l (hset env) w ?_) (fun _ s' hq => wpAny_pure (wpAny_pure hq)) fun _ _ x => x.toE fr R)
    intro γ' H' s' Dd C acc stp R' ho dn d0 hc cn c0 hdc hK
    first | refine e3_1 ho fun ys ny hy ry => ?_ | refine e2_2 ho fun ys ny hy ry => ?_ | refine e1_3 ho fun ys ny hy ry => ?_ | refine e0_4 ho fun ys ny hy ry => ?_ | obtain ⟨ys, ny, hy, ry⟩ := ho
    obtain ⟨m, hm⟩ := hc
    have dB := base_none R d0
    have R2 := R'.adopt ry (by have := hK.1; omega) dn dB hy
    have fr' := fr.stp R stp
    have stp2 : Stp [] γ (γ' ++ [Dd]) s s' := by
      refine ⟨stp.same, stp.keepS, ?_⟩
      first | refine e2_1 (stp.ext) fun δ e f => ?_ | refine e1_2 (stp.ext) fun δ e f => ?_ | refine e0_3 (stp.ext) fun δ e f => ?_ | obtain ⟨δ, e, f⟩ := stp.ext
      refine ⟨δ ++ [Dd], by rw [e]; simp, fun b hb => ?_⟩
      rcases List.mem_append.mp hb with q | q
      · exact f b q
      · simp at q; subst q; exact d0
    have fr2 : FRel D (γ' ++ [Dd]) env c.slots s'.heap L := fr.stp R stp2
    show wpAny D.M A (assign (.Name y py) env (.ref Dd)) _ _ s'
    refine wpAny_assign_Name (wpAny_mono (store_ok (W := .ref H'.length) hE so R2 fr2 hs (Exists.intro _ ⟨by rw [List.getElem?_append_right (by rw [R'.len]; exact Nat.le_refl _)]; simp [R'.len], rfl⟩)) (fun _ s2 p => ?_) fun _ _ x => x)
    first | refine e2_1 p fun st3 R3 fr3 => ?_ | refine e1_2 p fun st3 R3 fr3 => ?_ | refine e0_3 p fun st3 R3 fr3 => ?_ | obtain ⟨st3, R3, fr3⟩ := p
    have hCown : C ∉ ownA env := fun hm' => by
      obtain ⟨o, e⟩ := fr.alive C hm'
      rw [c0] at e; cases e
    have hm3 : s2.heap.Ns C m := st3.ns (by
      intro q
      rcases List.mem_append.mp q with q | q
      · exact cn q
      · simp at q; exact hdc q.symm) hCown hm
    refine ⟨m, hm3, fun h' hs' => ?_⟩
    have hk : ∀ b o, b ≠ C → s2.heap.get? b = some o → h'.get? b = some o := fun b o hb e => hs'.extBut b o hb e
    have cn2 : C ∉ γ' ++ [Dd] := by
      intro q
      rcases List.mem_append.mp q with q | q
      · exact cn q
      · simp at q; exact hdc q.symm
    have nt := notTup_dict hm3
    have fr4 : FRel D (γ' ++ [Dd]) env c.slots h' (L.set i (some (.ref H'.length))) := fr3.butN hk hCown nt
    refine ⟨γ' ++ [Dd], _, _, .next, ?_, R3.butN hk cn2 (base_none R c0) nt (R.frs.ne c0), fr4, rfl, hK.2⟩
    have st4 := stp2.weak.transF R2 st3 fr2.alive
    refine ⟨?_, fun b o hb hw e => let ⟨sl, e', q⟩ := st4.keepS b o hb hw e; ⟨sl, hk b _ (by rintro rfl; rw [c0] at e; cases e) e', q⟩, st4.ext⟩
    first | refine e2_1 (st4.same) fun h4 t4 e4 => ?_ | refine e1_2 (st4.same) fun h4 t4 e4 => ?_ | refine e0_3 (st4.same) fun h4 t4 e4 => ?_ | obtain ⟨h4, t4, e4⟩ := st4.same
    rw [e4]; exact ⟨_, _, rfl⟩

theorem s_if {t : Expr} {a b : List Stmt} {pos : Pos} {it : IE} {ia ib : List IS} (ht : ST D Φ k c t it) (ha : SSs D Φ k c a ia) (hb : SSs D Φ k c b ib) : SS D Φ k c (.If t a b pos) (.ite it ia ib) := by
  intro env A γ H s L Q X hE hA R fr w
  refine wpAny_If (wpAny_mono (ht env A γ H s L _ _ hE hA R fr.l w) (fun v s1 p => ?_) fun _ _ x => x.toE fr R)
  first | refine e3_2 p fun γ1 H1 st R1 q => ?_ | refine e2_3 p fun γ1 H1 st R1 q => ?_ | refine e1_4 p fun γ1 H1 st R1 q => ?_ | obtain ⟨γ1, H1, st, R1, q⟩ := p
  cases v with
  | true => exact wpAny_mono (ha env A γ1 H1 s1 L Q X hE hA R1 (fr.stp R st) q) (fun _ _ x => x.back st.weak R1 (fr.stp R st)) fun _ _ x => x.back st.weak R1 (fr.stp R st)
  | false => exact wpAny_mono (hb env A γ1 H1 s1 L Q X hE hA R1 (fr.stp R st) q) (fun _ _ x => x.back st.weak R1 (fr.stp R st)) fun _ _ x => x.back st.weak R1 (fr.stp R st)

theorem s_while {t : Expr} {b : List Stmt} {pos : Pos} {it : IE} {ib : List IS} (ht : ST D Φ k c t it) (hb : SSs D Φ k c b ib) : SS D Φ k c (.While t b [] pos) (.while it ib) := by
  intro env A γ H s L Q X hE hA R fr w
  obtain ⟨n, w⟩ := w
  obtain ⟨Iv, hIv⟩ : ∃ Iv : Nat → Shared → Prop, Iv = fun m s' => ∃ γ' H' L', Stp (ownA env) γ γ' s s' ∧ HRel D γ' H' s'.heap ∧ FRel D γ' env c.slots s'.heap L' ∧
    whileGo (fun L' H' K => (wp2 Φ it).T L' H' K noX) (fun L' H' K => wpSs Φ ib L' H' K noXS) m L' H' Q := ⟨_, rfl⟩
  refine wpAny_While (codeAny_whileLoop Iv ?_ n (by rw [hIv]; exact ⟨γ, H, L, Stp.refl, R, fr, w⟩))
  intro m s' hI
  rw [hIv] at hI
  first | refine e3_4 hI fun γ' H' L' st R' fr' w => ?_ | obtain ⟨γ', H', L', st, R', fr', w⟩ := hI
  cases m with
  | zero => exact w.elim
  | succ m =>
    refine wpAny_mono (ht env A γ' H' s' L' _ _ hE hA R' fr'.l w) (fun v s1 p => ?_) fun _ _ x => x.no.elim
    first | refine e3_2 p fun γ1 H1 st1 R1 q => ?_ | refine e2_3 p fun γ1 H1 st1 R1 q => ?_ | refine e1_4 p fun γ1 H1 st1 R1 q => ?_ | obtain ⟨γ1, H1, st1, R1, q⟩ := p
    have st01 : Stp (ownA env) γ γ1 s s1 := st.transF R' st1.weak fr'.alive
    have fr1 := fr'.stp R' st1
    cases v with
    | true =>
      refine wpAny_mono (hb env A γ1 H1 s1 L' _ noXS hE hA R1 fr1 q) (fun fl s2 p => ?_) fun _ _ x => x.no.elim
      first | refine e4_5 p fun γ2 H2 L2 F st2 R2 fr2 hf q2 => ?_ | obtain ⟨γ2, H2, L2, F, st2, R2, fr2, hf, q2⟩ := p
      have st02 := st01.transF R1 st2 fr1.alive
      cases F with
      | next => obtain rfl := hf; exact ⟨m, Nat.lt_succ_self _, by rw [hIv]; exact ⟨γ2, H2, L2, st02, R2, fr2, q2⟩⟩
      | ret V => obtain ⟨v, rfl, rv⟩ := hf; exact ⟨γ2, H2, L2, .ret V, st02, R2, fr2, ⟨v, rfl, rv⟩, q2⟩
    | false => exact wpAny_execs_nil ⟨γ1, H1, L', .next, st01, R1, fr1, rfl, q⟩

theorem s_for {n : Nat} {x : Str} {px pos : Pos} {iter : Expr} {b : List Stmt} {kk : SrcK} {ss : IE} {ib : List IS} {i : Nat} (g : GOk D c.G) (so : SlotsOk c) (ih : ∀ e ie, compE n c e = some ie → SE D Φ k c e ie) (hs : slotV c x = some i)
    (hsrc : compSrc (compE n c) c iter = some (kk, ss)) (hb : SSs D Φ k c b ib) : SS D Φ k c (.For (.Name x px) iter b [] pos) (.for i kk ss ib) := by
  intro env A γ H s L Q X hE hA R fr w
  refine wpAny_For (wpAny_mono (src_ok (K := fun l st H1 => forGo (fun L' H' K => wpSs Φ ib L' H' K X) st i l L H1 Q) g ih hsrc hE hA R fr.l w) (fun xv s1 h1 => wpAny_mono h1 (fun it s2 h2 => ?_) fun _ _ x => x.toE fr R) fun _ _ x => x.toE fr R) (noSetIter hsrc env)
  first | refine e7_10 h2 fun γ2 H2 I fp l st Inv e_237 stp2 R2 itr iv fps hI0 hst hlen w2 => ?_ | obtain ⟨γ2, H2, I, fp, l, st, Inv, e_237, stp2, R2, itr, iv, fps, hI0, hst, hlen, w2⟩ := h2
  obtain rfl := e_237
  have fr2 := fr.stp R stp2
  have IB := base_none R hI0
  have fpo : ∀ b ∈ fp, b ∉ ownA env := fun b hb hm => by
    rcases (fps b hb).2.2 with q | ⟨ws, q⟩
    · subst q; obtain ⟨o, e⟩ := fr.alive _ hm; rw [hI0] at e; cases e
    · exact (fr2.own b hm).2.2.2 ws q
  obtain ⟨Iv, hIv⟩ : ∃ Iv : Nat → Shared → Prop, Iv = fun m s' => ∃ j γ' H' L', m = l.length - j ∧ j ≤ l.length ∧ Stp (ownA env) γ γ' s s' ∧ HRel D γ' H' s'.heap ∧ FRel D γ' env c.slots s'.heap L' ∧ Inv γ' j s'.heap ∧ st H' ∧ (∀ b ∈ fp, b ∉ γ' ∧ ∃ o, s'.heap.get? b = some o) ∧
    forGo (fun L' H' K => wpSs Φ ib L' H' K X) st i (l.drop j) L' H' Q := ⟨_, rfl⟩
  refine codeAny_forLoop Iv ?_ l.length (by rw [hIv]; exact ⟨0, γ2, H2, L, rfl, Nat.zero_le _, stp2.weak, R2, fr2, iv, hst, fun b hb => ⟨(fps b hb).1, (fps b hb).2.1⟩, w2⟩)
  intro m s' hI
  rw [hIv] at hI
  obtain ⟨j, γ', H', L', rfl, hj, st', R', fr', iv', hst', fp', w'⟩ := hI
  have hIg : I ∉ γ' := (fp' I itr.mem).1
  have nt := fun ws => itr.notTup γ' j s'.heap ws iv'
  have hIo : I ∉ ownA env := fpo I itr.mem
  have change : ∀ {h1 : Heap} {tk : Nat}, (∀ b o, b ≠ I → s'.heap.get? b = some o → h1.get? b = some o) → Stp (ownA env) γ γ' s { s' with heap := h1, toks := tk } ∧ HRel D γ' H' h1 ∧ FRel D γ' env c.slots h1 L' := by
    intro h1 tk hk
    exact ⟨st'.butF hk hI0, R'.butN hk hIg IB nt (R.frs.ne hI0), fr'.butN hk hIo nt⟩
  by_cases hlt : j < l.length
  · have hW : l[j]? = some l[j] := by simp [hlt]
    rw [List.drop_eq_getElem_cons hlt] at w'
    refine itr.next γ' H' s' j _ _ _ hW R' hIg hst' iv' fun v h1 tk1 hI1 hk1 iv1 rv1 => ?_
    first | refine e2_1 (change (tk := tk1) hk1) fun stc Rc frc => ?_ | refine e1_2 (change (tk := tk1) hk1) fun stc Rc frc => ?_ | refine e0_3 (change (tk := tk1) hk1) fun stc Rc frc => ?_ | obtain ⟨stc, Rc, frc⟩ := change (tk := tk1) hk1
    show wpAny D.M A (assign (.Name x px) env v) _ _ _
    refine wpAny_assign_Name (wpAny_mono (store_ok (s := { s' with heap := h1, toks := tk1 }) hE so Rc frc hs rv1) (fun _ s3 p => ?_) fun _ _ x => x)
    first | refine e2_1 p fun st3 R3 fr3 => ?_ | refine e1_2 p fun st3 R3 fr3 => ?_ | refine e0_3 p fun st3 R3 fr3 => ?_ | obtain ⟨st3, R3, fr3⟩ := p
    have stc3 : Stp (ownA env) γ γ' s s3 := stc.transF (s1 := { s' with heap := h1, toks := tk1 }) Rc st3 (FRel.alive (s := { s' with heap := h1, toks := tk1 }) frc)
    have tt3 : ∀ a ws, TupAt h1 a ws → TupAt s3.heap a ws := fun a ws q => TupAt.stp (s := { s' with heap := h1, toks := tk1 }) Rc st3 (fun x hx => (frc.own x hx).2.2.2) q
    have fp1 : ∀ b ∈ fp, b ∉ γ' ∧ ∃ o, h1.get? b = some o := fun b hb => by
      refine ⟨(fp' b hb).1, ?_⟩
      by_cases hbI : b = I
      · subst hbI; exact hI1
      · obtain ⟨o, e⟩ := (fp' b hb).2; exact ⟨o, hk1 _ _ hbI e⟩
    have fp3 : ∀ b ∈ fp, b ∉ γ' ∧ ∃ o, s3.heap.get? b = some o := fun b hb => by
      first | refine e2_1 (fp1 b hb) fun a o e => ?_ | refine e1_2 (fp1 b hb) fun a o e => ?_ | refine e0_3 (fp1 b hb) fun a o e => ?_ | obtain ⟨a, o, e⟩ := fp1 b hb
      exact ⟨a, o, st3.keep b o a (fpo b hb) (itr.nd γ' (j + 1) h1 iv1 b hb o e) e⟩
    have iv3 : Inv γ' (j + 1) s3.heap := itr.frame γ' γ' (j + 1) h1 s3.heap iv1 ⟨[], by simp⟩ (fun b hb o e => st3.keep b o (fp1 b hb).1 (fpo b hb) (itr.nd γ' (j + 1) h1 iv1 b hb o e) e) tt3
    refine wpAny_mono (hb env A γ' H' s3 _ _ X hE hA R3 fr3 w') (fun fl s4 p => ?_) fun _ _ x => held_back hA R fr.alive (x.back stc3 R3 fr3)
    first | refine e4_5 p fun γ4 H4 L4 F st4 R4 fr4 hf q4 => ?_ | obtain ⟨γ4, H4, L4, F, st4, R4, fr4, hf, q4⟩ := p
    have stc4 := stc3.transF R3 st4 fr3.alive
    have ext4 : ∃ δ, γ4 = γ' ++ δ := let ⟨δ, e, _⟩ := st4.ext; ⟨δ, e⟩
    have tt4 : ∀ a ws, TupAt s3.heap a ws → TupAt s4.heap a ws := fun a ws q => TupAt.stp R3 st4 (fun x hx => (fr3.own x hx).2.2.2) q
    have go : st H4 ∧ forGo (fun L' H' K => wpSs Φ ib L' H' K X) st i (l.drop (j + 1)) L4 H4 Q → ∃ m, m < l.length - j ∧ Iv m s4 := fun q => by
      refine ⟨l.length - (j + 1), by omega, ?_⟩
      rw [hIv]
      refine ⟨j + 1, γ4, H4, L4, rfl, hlt, stc4, R4, fr4, ?_, q.1, ?_, q.2⟩
      · exact itr.frame γ' γ4 (j + 1) s3.heap s4.heap iv3 ext4 (fun b hb o e => st4.keep b o (fp3 b hb).1 (fpo b hb) (itr.nd γ' (j + 1) s3.heap iv3 b hb o e) e) tt4
      · intro b hb
        first | refine e2_1 (fp3 b hb) fun a o e => ?_ | refine e1_2 (fp3 b hb) fun a o e => ?_ | refine e0_3 (fp3 b hb) fun a o e => ?_ | obtain ⟨a, o, e⟩ := fp3 b hb
        have e' := st4.keep b o a (fpo b hb) (itr.nd γ' (j + 1) s3.heap iv3 b hb o e) e
        refine ⟨?_, o, e'⟩
        first | refine e2_1 (st4.ext) fun δ ed fd => ?_ | refine e1_2 (st4.ext) fun δ ed fd => ?_ | refine e0_3 (st4.ext) fun δ ed fd => ?_ | obtain ⟨δ, ed, fd⟩ := st4.ext
        subst ed
        intro q
        rcases List.mem_append.mp q with q | q
        · exact a q
        · rw [fd b q] at e; cases e
    cases F with
    | next => obtain rfl := hf; exact go q4
    | ret V => obtain ⟨v, rfl, rv⟩ := hf; exact ⟨γ4, H4, L4, .ret V, stc4, R4, fr4, ⟨v, rfl, rv⟩, q4⟩
  · have hin : j = l.length := by omega
    subst hin
    rw [List.drop_length] at w'
    refine itr.done γ' H' s' _ _ R' hst' iv' fun h1 tk1 hk1 => ?_
    first | refine e2_1 (change (tk := tk1) hk1) fun stc Rc frc => ?_ | refine e1_2 (change (tk := tk1) hk1) fun stc Rc frc => ?_ | refine e0_3 (change (tk := tk1) hk1) fun stc Rc frc => ?_ | obtain ⟨stc, Rc, frc⟩ := change (tk := tk1) hk1
    exact wpAny_execs_nil ⟨γ', H', L', .next, stc, Rc, frc, rfl, w'⟩
end
end Mine

set_option autoImplicit false
/- What is raised: it lands, or leaves. -/
namespace Mine
open PySem PyProof.Rows

section
variable {D : Wd} {γ γ0 : List Addr} {H H0 : Hp} {s s1 : Shared} {env : Env} {outer : List Env} {A : Around} {E : Value → Shared → Prop} {v : Value} {x : Exc} {La : Addr} {Q : Unit → Shared → Prop}

theorem leave_any (hfr : A.frames = some D.fr) (R0 : HRel D γ0 H0 s.heap) (R : HRel D γ H s1.heap) (htop : D.fr = env :: outer) (hf : env.frame = some La) (hx : XNew D s s1.heap v x ∨ XFly D s s1.heap v x)
    (h : ∀ a C a0 ex h', v = .ref a → D.mg x.cls = some (.ref C) → s.heap.get? a = none → a ∈ ex → ExF D s s1.heap ex → Land ex s1.heap h' → h'.TracedW (PySem.W.hideAll s1.heap ex) a (.ref C) a0 → Q () { s1 with heap := h' }) :
    wpAny D.M A (leaving env v) Q E s1 := by
  unfold leaving
  refine wpAny_bind (note_any hfr R0 R htop hf hx fun a C a0 ex h' e1 hm hn hax X up hh => ?_)
  subst e1
  exact lands hh fun h2 ⟨k1, k2, k3, k4⟩ up2 => h a C a0 ex h2 rfl hm hn hax X (Land.of k1 (up.trans up2)) k4
end
end Mine

set_option autoImplicit false
/- raise and try. -/
namespace Mine
open PySem PyProof.Rows

theorem globV_lookup {c : CC} {x : Str} {W : V} (hz : globV c x = some W) : c.G.lookup x = some W := by
  first | refine e2_1 (Option.bind_eq_some_iff.mp hz) fun kk _ h => ?_ | refine e1_2 (Option.bind_eq_some_iff.mp hz) fun kk _ h => ?_ | refine e0_3 (Option.bind_eq_some_iff.mp hz) fun kk _ h => ?_ | obtain ⟨kk, _, h⟩ := Option.bind_eq_some_iff.mp hz
  cases kk with
  | globalImplicit => exact h
  | _ => exact no_some h
theorem Stp.toks {wr γ γ' : List Addr} {s s' : Shared} (t : Stp wr γ γ' s s') (tk : Nat) : Stp wr γ γ' s { s' with toks := tk } :=
  ⟨(let ⟨h1, t1, e⟩ := t.same; ⟨h1, tk, by rw [e]⟩), t.keepS, t.ext⟩

section
variable {D : Wd} {Φ : Orc} {k : Nat} {c : CC}

theorem s_raise (g : GOk D c.G) {x : Str} {np cpos pos kp : Pos} {kk : Const} {kn : Nat} {W : V} {ups : List Str} (hg : globV c x = some (.cls x ups)) (hk : constV kk = some W) :
    SS D Φ k c (.Raise (some (.Call (.Name x np) [.Constant kk kn kp] [] cpos)) none pos) (.raise x ups) := by
  intro env A γ H s L Q X hE hA R fr w
  have hex : (x, ups) ∈ D.ex := g.cls x x ups (globV_lookup hg)
  first | refine e3_3 (g.exs _ _ hex) fun C bm hmg hat hcon hve => ?_ | refine e2_4 (g.exs _ _ hex) fun C bm hmg hat hcon hve => ?_ | obtain ⟨C, bm, hmg, hat, hcon, hve⟩ := g.exs _ _ hex
  obtain ⟨N, nm, q, bs, hdct, sn, sub, ab, col, dd, k0, k1, k2, k3, k5, mN, hC, hN, hmN, T⟩ := id hat
  have e1 : backTo cpos (starEach [.Constant kk kn kp] env) = [(false, eval (.Constant kk kn kp) env)] := by rw [starEach_of (by rfl)]; rfl
  refine wpAny_Raise_call_subT (nm := nm) (q := q) (C := C) (N := N) (bs := bs) (hdct := hdct) (sn := sn) (sub := sub) (ab := ab) (col := col) (dd := dd) (k0 := k0) (k1 := k1) (k2 := k2) (k3 := k3) (k5 := k5) F.excBase_ValueError (T.tail.hasType rfl) hA.handled (by rw [e1]; rfl) (hmN _ (.head _)) (glob_ok g hE R hg fun v r => ?_)
  first | refine e2_1 r fun C' e_239 hC' => ?_ | refine e1_2 r fun C' e_239 hC' => ?_ | refine e0_3 r fun C' e_239 hC' => ?_ | obtain ⟨C', e_239, hC'⟩ := r
  obtain rfl := e_239
  rw [hmg] at hC'; cases hC'
  refine ⟨rfl, ?_⟩
  rw [e1]
  refine Calls.evalArgs_plain (Calls.spliced_cons (wpAny_mono (const_ok (Q := fun _ H' => H' = H) (X := fun x => X x L) R hk rfl) (fun v s1 p => Calls.spliced_nil ?_) fun _ _ p => p.toE fr R))
  first | refine e3_4 p fun γ1 V H1 st R1 rv e_240 => ?_ | obtain ⟨γ1, V, H1, st, R1, rv, e_240⟩ := p
  obtain rfl := e_240
  refine ⟨rfl, by rw [sizeLine_eq]; simp, R1.base _ _ hC, hN.keeps R1.base, T.tail.keeps R1.base, fun h' e hm => ?_⟩
  first | refine e3_1 (hm.there) fun t ht _ _ => ?_ | refine e2_2 (hm.there) fun t ht _ _ => ?_ | refine e1_3 (hm.there) fun t ht _ _ => ?_ | refine e0_4 (hm.there) fun t ht _ _ => ?_ | obtain ⟨t, ht, _, _⟩ := hm.there
  have st2 : Stp [] γ1 γ1 s1 { s1 with heap := h' } := stp_grow (tk := s1.toks) hm.keeps
  have st3 := st.trans0 R1 st2
  exact ⟨γ1, _, L, ⟨x, ups⟩, st3.weak, R1.grow hm.keeps, fr.stp R st3, ⟨.inl ⟨e, _, _, C, .ref t, rfl, fresh_back st R1 hm.new, ht, rfl, hmg, rfl, rfl, rfl⟩, hex⟩, w⟩

/- a name of the frame set to something that is not told -/
theorem frel_but {env : Env} {γ : List Addr} {H : Hp} {L : Lc} {h h' : Heap} {m m' : Str → Option Value} {n : Str} {i : Nat} (so : SlotsOk c) (R : HRel D γ H h) (f : FRel D γ env c.slots h L) (hn : h.Ns env.locals m)
    (hm : ∀ (x : Str) (i : Nat) (V : V), env.kindOf x = some .local → c.slots.lookup x = some i → L[i]? = some (some V) → ∃ v, m x = some v ∧ Rep D γ h v V)
    (hn' : h'.Ns env.locals m') (hs : Heap.SameBut env.locals h h') (he : ∀ y, y ≠ n → m' y = m y) (hi : c.slots.lookup n = some i) (hk : env.kindOf n = some .local) :
    HRel D γ H h' ∧ FRel D γ env c.slots h' (L.set i none) ∧ (∀ (x : Str) (i' : Nat) (V : V), env.kindOf x = some .local → c.slots.lookup x = some i' → (L.set i none)[i']? = some (some V) → ∃ v, m' x = some v ∧ Rep D γ h' v V) := by
  first | refine e3_1 (f.own env.locals List.mem_cons_self) fun lg lB _ cL => ?_ | refine e2_2 (f.own env.locals List.mem_cons_self) fun lg lB _ cL => ?_ | refine e1_3 (f.own env.locals List.mem_cons_self) fun lg lB _ cL => ?_ | refine e0_4 (f.own env.locals List.mem_cons_self) fun lg lB _ cL => ?_ | obtain ⟨lg, lB, _, cL⟩ := f.own env.locals List.mem_cons_self
  have hkk : ∀ b o, b ≠ env.locals → h.get? b = some o → h'.get? b = some o := fun b o hb e => hs.extBut b o hb e
  have tt : ∀ a ws, TupAt h a ws → TupAt h' a ws := fun a ws q => tupAt_but hkk cL q
  have key : ∀ (x : Str) (i' : Nat) (V : V), env.kindOf x = some .local → c.slots.lookup x = some i' → (L.set i none)[i']? = some (some V) → ∃ v, m' x = some v ∧ Rep D γ h' v V := fun y j V hy hj hL => by
    by_cases hxy : y = n
    · subst hxy
      rw [hi] at hj; obtain rfl := Option.some.inj hj
      by_cases hl : i < L.length
      · rw [List.getElem?_set_self hl] at hL; exact no_some (Option.some.inj hL)
      · rw [List.getElem?_eq_none_iff.mpr (by rw [List.length_set]; exact Nat.le_of_not_lt hl)] at hL; exact no_some hL
    · have hij : i ≠ j := fun q => hxy (so.inj y n i (q ▸ hj) hi)
      rw [List.getElem?_set_ne hij] at hL
      first | refine e2_1 (hm y j V hy hj hL) fun u hu ru => ?_ | refine e1_2 (hm y j V hy hj hL) fun u hu ru => ?_ | refine e0_3 (hm y j V hy hj hL) fun u hu ru => ?_ | obtain ⟨u, hu, ru⟩ := hm y j V hy hj hL
      exact ⟨u, by rw [he y hxy]; exact hu, Rep.mono ⟨[], by simp⟩ tt ru⟩
  refine ⟨R.but hkk lg lB cL (.inr (isD_ns hn')), ⟨⟨⟨_, hn', key⟩, ?_, lg, f.l.tp⟩, ?_, f.apart, f.above, f.top⟩, key⟩
  · intro y hy
    first | refine e3_3 (f.l.cel y hy) fun ca u e1 e2 e3 e4 => ?_ | refine e2_4 (f.l.cel y hy) fun ca u e1 e2 e3 e4 => ?_ | obtain ⟨ca, u, e1, e2, e3, e4⟩ := f.l.cel y hy
    refine ⟨ca, u, e1, e2.sameBut hs (f.above (y, ca) (mem_of_lookup e1)), e3, fun j V hj hL => ?_⟩
    have hij : i ≠ j := fun q => by
      have := so.inj y n i (q ▸ hj) hi
      subst this; rw [hy] at hk; cases hk
    rw [List.getElem?_set_ne hij] at hL
    first | refine e2_1 (e4 j V hj hL) fun w hw rw_ => ?_ | refine e1_2 (e4 j V hj hL) fun w hw rw_ => ?_ | refine e0_3 (e4 j V hj hL) fun w hw rw_ => ?_ | obtain ⟨w, hw, rw_⟩ := e4 j V hj hL
    exact ⟨w, hw, Rep.mono ⟨[], by simp⟩ tt rw_⟩
  · intro a ha
    first | refine e3_1 (f.own a ha) fun a1 a2 e_241 a3 => ?_ | refine e2_2 (f.own a ha) fun a1 a2 e_241 a3 => ?_ | refine e1_3 (f.own a ha) fun a1 a2 e_241 a3 => ?_ | refine e0_4 (f.own a ha) fun a1 a2 e_241 a3 => ?_ | obtain ⟨a1, a2, e_241, a3⟩ := f.own a ha
    obtain ⟨o, e⟩ := e_241
    by_cases hal : a = env.locals
    · subst hal
      exact ⟨a1, a2, (let ⟨o', _, _, eo, _⟩ := hn'; ⟨o', eo⟩), notTup_dict hn'⟩
    · exact ⟨a1, a2, ⟨o, hkk _ _ hal e⟩, notTup_same e (hkk _ _ hal e) a3⟩

theorem compH_inv {n : Nat} {h : ExceptHandler} {ih : Str × Option Nat × IE} (hc : compH n c h = some ih) :
    ∃ y yp e rp hp ups ie, globV c y = some (.cls y ups) ∧ ((h = .ExceptHandler (some (.Name y yp)) none [.Return (some e) rp] hp ∧ compR n c none e = some ie ∧ ih = (y, none, ie)) ∨
      ∃ nm i, h = .ExceptHandler (some (.Name y yp)) (some nm) [.Return (some e) rp] hp ∧ compR n c (some nm) e = some ie ∧ ih = (y, some i, ie) ∧ c.scope.names.lookup nm = some .local ∧ c.slots.lookup nm = some i) := by
  have own : ∀ y, isOwn y (globV c y) = true → ∃ ups, globV c y = some (.cls y ups) := fun y h => by
    first | refine e2_1 (Option.bind_eq_some_iff.mp (eq_of_beq h)) fun V hV h => ?_ | refine e1_2 (Option.bind_eq_some_iff.mp (eq_of_beq h)) fun V hV h => ?_ | refine e0_3 (Option.bind_eq_some_iff.mp (eq_of_beq h)) fun V hV h => ?_ | obtain ⟨V, hV, h⟩ := Option.bind_eq_some_iff.mp (eq_of_beq h)
    cases V with
    | cls z ups => obtain rfl := Option.some.inj h; exact ⟨ups, hV⟩
    | _ => exact no_some h
  first | refine e3_1 h fun ty nm body p => ?_ | refine e2_2 h fun ty nm body p => ?_ | refine e1_3 h fun ty nm body p => ?_ | refine e0_4 h fun ty nm body p => ?_ | obtain ⟨ty, nm, body, p⟩ := h
  cases ty with
  | none => exact no_some hc
  | some t =>
    first | refine e3_1 (onName_some (show onName t _ = some ih from hc)) fun y yp e_242 hc => ?_ | refine e2_2 (onName_some (show onName t _ = some ih from hc)) fun y yp e_242 hc => ?_ | refine e1_3 (onName_some (show onName t _ = some ih from hc)) fun y yp e_242 hc => ?_ | refine e0_4 (onName_some (show onName t _ = some ih from hc)) fun y yp e_242 hc => ?_ | obtain ⟨y, yp, e_242, hc⟩ := onName_some (show onName t _ = some ih from hc)
    obtain rfl := e_242
    first | refine e2_1 (on1_some hc) fun st e_243 hc => ?_ | refine e1_2 (on1_some hc) fun st e_243 hc => ?_ | refine e0_3 (on1_some hc) fun st e_243 hc => ?_ | obtain ⟨st, e_243, hc⟩ := on1_some hc
    obtain rfl := e_243
    first | refine e3_1 (onRet_some hc) fun e rp e_244 hc => ?_ | refine e2_2 (onRet_some hc) fun e rp e_244 hc => ?_ | refine e1_3 (onRet_some hc) fun e rp e_244 hc => ?_ | refine e0_4 (onRet_some hc) fun e rp e_244 hc => ?_ | obtain ⟨e, rp, e_244, hc⟩ := onRet_some hc
    obtain rfl := e_244
    obtain ⟨h0, hc⟩ := onlyIf_some hc
    obtain ⟨ups, hu⟩ := own _ h0
    cases nm with
    | none =>
      first | refine e2_1 (Option.map_eq_some_iff.mp (show (compR n c none e).map _ = some ih from hc)) fun ie h1 e_245 => ?_ | refine e1_2 (Option.map_eq_some_iff.mp (show (compR n c none e).map _ = some ih from hc)) fun ie h1 e_245 => ?_ | refine e0_3 (Option.map_eq_some_iff.mp (show (compR n c none e).map _ = some ih from hc)) fun ie h1 e_245 => ?_ | obtain ⟨ie, h1, e_245⟩ := Option.map_eq_some_iff.mp (show (compR n c none e).map _ = some ih from hc)
      obtain rfl := e_245
      exact ⟨_, _, _, _, _, ups, ie, hu, .inl ⟨rfl, h1, rfl⟩⟩
    | some nm =>
      obtain ⟨h3, hc⟩ := onlyIf_some (show onlyIf _ _ = some ih from hc)
      first | refine e3_2 (oTwo_some hc) fun i ie h1 h2 e_246 => ?_ | refine e2_3 (oTwo_some hc) fun i ie h1 h2 e_246 => ?_ | refine e1_4 (oTwo_some hc) fun i ie h1 h2 e_246 => ?_ | obtain ⟨i, ie, h1, h2, e_246⟩ := oTwo_some hc
      obtain rfl := e_246
      exact ⟨_, _, _, _, _, ups, ie, hu, .inr ⟨_, i, rfl, h2, rfl, eq_of_beq h3, h1⟩⟩

theorem handle_ok {n : Nat} {env : Env} {A : Around} {E : Value → Shared → Prop} {γ γ1 : List Addr} {H1 : Hp} {s s1 : Shared} {L1 : Lc} {Q : QS} {x : Exc} {a C : Addr} {a0 : Value} {ex : List Addr} (g : GOk D c.G) (so : SlotsOk c) (hE : EnvOk c env)
    (alive : ∀ a ∈ ownA env, ∃ o, s.heap.get? a = some o) (st : Stp (ownA env) γ γ1 s s1) (R1 : HRel D γ1 H1 s1.heap) (f1 : FRel D γ1 env c.slots s1.heap L1) (hex : (x.cls, x.ups) ∈ D.ex) (hmg : D.mg x.cls = some (.ref C)) (XF : ExF D s s1.heap ex) :
    ∀ {hd : ExceptHandler} {b : Str × Option Nat × IE} {h2 : Heap}, compH n c hd = some b → Land ex s1.heap h2 → Heap.FlyingW (PySem.W.hideAll s1.heap ex) D.fr a (.ref C) a0 h2 → hndl b.1 b.2.1 b.2.2 x L1 H1 Q →
      wpAny D.M A (handleBy (.ref a) env [hd]) (PostF D γ s env c.slots Q) E { s1 with heap := h2 } := by
    intro hd b h2 hb land fl w
    obtain ⟨hu, w⟩ := w
    first | refine e4_5 (compH_inv hb) fun y yp e rp hp ups ie hy hd' => ?_ | obtain ⟨y, yp, e, rp, hp, ups, ie, hy, hd'⟩ := compH_inv hb
    first | refine e3_3 (g.exs _ _ hex) fun C' bm hmg' hat hcon hve => ?_ | refine e2_4 (g.exs _ _ hex) fun C' bm hmg' hat hcon hve => ?_ | obtain ⟨C', bm, hmg', hat, hcon, hve⟩ := g.exs _ _ hex
    rw [hmg] at hmg'; cases hmg'
    have hexy := g.cls _ _ _ (globV_lookup hy)
    first | refine e3_2 (g.exs _ _ hexy) fun Cy bmy hmgy haty _ => ?_ | refine e2_3 (g.exs _ _ hexy) fun Cy bmy hmgy haty _ => ?_ | refine e1_4 (g.exs _ _ hexy) fun Cy bmy hmgy haty _ => ?_ | obtain ⟨Cy, bmy, hmgy, haty, _⟩ := g.exs _ _ hexy
    have R2 := land.rel R1 XF
    first | refine e2_1 (fl.there) fun oe he hc => ?_ | refine e1_2 (fl.there) fun oe he hc => ?_ | refine e0_3 (fl.there) fun oe he hc => ?_ | obtain ⟨oe, he, hc⟩ := fl.there
    have test : ∀ {name : Option Str} {body : List Stmt}, hd = .ExceptHandler (some (.Name y yp)) name body hp → b.1 = y →
        (codeAny D.M (A.mark (some (.ref a))) (.handlers (.ref a) [.ExceptHandler none name body hp] env) (fun r s₂ => match r with
          | .ok f => (match name with
            | none => PostF D γ s env c.slots Q f s₂
            | some n => wpAny D.M A (do bindName env n .none; unbindBehindTheSuite env n hp) (fun _ s₃ => PostF D γ s env c.slots Q f s₃) E s₂)
          | .error x => cameBackBy D.M A env E x s₂) { s1 with heap := h2 }) →
        wpAny D.M A (handleBy (.ref a) env [hd]) (PostF D γ s env c.slots Q) E { s1 with heap := h2 } := by
      intro name body eh eb hk
      subst eh
      refine wpAny_handleBy_cons (codeAny_handlers_test (glob_ok g hE R2 hy fun v rv => ?_)) (by intro q; cases q)
      first | refine e2_1 rv fun Cy' e_247 hy' => ?_ | refine e1_2 rv fun Cy' e_247 hy' => ?_ | refine e0_3 rv fun Cy' e_247 hy' => ?_ | obtain ⟨Cy', e_247, hy'⟩ := rv
      obtain rfl := e_247
      rw [hmgy] at hy'; cases hy'
      refine matchOwn (s := { s1 with heap := h2 }) (hat.keeps R2.base) (haty.keeps R2.base) he hc ?_
      rw [eb] at hu
      rw [hcon y ups Cy hexy hmgy, hu]
      exact hk
    rcases hd' with ⟨eh, hcr, rfl⟩ | ⟨nm, i, eh, hcr, rfl, hnl, hni⟩
    · refine test eh rfl (codeAny_handlers_suite (lands_againW fl fun h3 fl3 up3 => ?_))
      have land3 : Land ex s1.heap h3 := Land.of fl3.1 (land.up.trans up3)
      have R3 := land3.rel R1 XF
      have f3 := land3.frel R1 XF alive f1
      first | refine e2_1 (oK_elim w) fun V hV w => ?_ | refine e1_2 (oK_elim w) fun V hV w => ?_ | refine e0_3 (oK_elim w) fun V hV w => ?_ | obtain ⟨V, hV, w⟩ := oK_elim w
      have rc : RC D c none env γ1 H1 (unL none L1) x h3 := ⟨hE, g, R3, f3.l, hex, fun y q => by cases q⟩
      refine wpAny_execs_cons (wpAny_Return_some (wpAny_mono (soundR rc n e ie hcr _ _ { s1 with heap := h3 } V rfl hV) (fun v s4 p => ?_) fun _ _ q => q))
      obtain ⟨⟨tk, rfl⟩, rv⟩ := p
      exact ⟨γ1, H1, L1, .ret V, (land3.stp R1.frs XF st).toks tk, R3, f3, ⟨v, rfl, rv⟩, w⟩
    · refine test eh rfl (codeAny_handlers_suite_as (lands_againW fl fun h3 fl3 up3 => ?_))
      have land3 : Land ex s1.heap h3 := Land.of fl3.1 (land.up.trans up3)
      have R3 := land3.rel R1 XF
      have f3 := land3.frel R1 XF alive f1
      have hkf : env.scope.kind = .function := by rw [hE.scope]; exact hE.kind
      have hk' : env.kindOf nm = some .local := by unfold Env.kindOf; rw [hE.scope]; exact hnl
      have hpk : (env.scope.kind == .class || (env.scope.kind == .module && env.locals != env.globals)) = false := by rw [hkf]; rfl
      first | refine e2_1 (f3.l.ns) fun m hn fm => ?_ | refine e1_2 (f3.l.ns) fun m hn fm => ?_ | refine e0_3 (f3.l.ns) fun m hn fm => ?_ | obtain ⟨m, hn, fm⟩ := f3.l.ns
      refine wpAny_storeName_local hk' hn (fun h4 hn4 hs4 => ?_) hpk
      first | refine e2_1 (frel_but so R3 f3 hn fm hn4 hs4 (fun y hy => by simp [hy]) hni hk') fun R4 f4 fm4 => ?_ | refine e1_2 (frel_but so R3 f3 hn fm hn4 hs4 (fun y hy => by simp [hy]) hni hk') fun R4 f4 fm4 => ?_ | refine e0_3 (frel_but so R3 f3 hn fm hn4 hs4 (fun y hy => by simp [hy]) hni hk') fun R4 f4 fm4 => ?_ | obtain ⟨R4, f4, fm4⟩ := frel_but so R3 f3 hn fm hn4 hs4 (fun y hy => by simp [hy]) hni hk'
      first | refine e2_1 (fl3.there) fun oe3 he3 hc3 => ?_ | refine e1_2 (fl3.there) fun oe3 he3 hc3 => ?_ | refine e0_3 (fl3.there) fun oe3 he3 hc3 => ?_ | obtain ⟨oe3, he3, hc3⟩ := fl3.there
      have hal : a ≠ env.locals := fun q => by
        obtain ⟨_, _, _, oe, vs, _, _, _, q1, _, q2, _⟩ := fl3
        first | refine e3_3 hn fun o es ep ho hd _ => ?_ | refine e2_4 hn fun o es ep ho hd _ => ?_ | obtain ⟨o, es, ep, ho, hd, _⟩ := hn
        subst q
        rw [q1] at ho; cases ho
        rw [q2] at hd; cases hd
      first | refine e2_1 (oK_elim w) fun V hV w => ?_ | refine e1_2 (oK_elim w) fun V hV w => ?_ | refine e0_3 (oK_elim w) fun V hV w => ?_ | obtain ⟨V, hV, w⟩ := oK_elim w
      have rc : RC D c (some nm) env γ1 H1 (unL (some i) L1) x h4 := ⟨hE, g, R4, f4.l, hex, fun y q => by
        cases q
        exact ⟨a, oe3, C, _, hn4, by simp, hs4.extBut _ _ hal he3, hc3, hmg⟩⟩
      refine wpAny_execs_cons (wpAny_Return_some (wpAny_mono (soundR rc n e ie hcr _ _ _ V rfl hV) (fun v s4 p => ?_) fun _ _ q => q))
      obtain ⟨⟨tk, rfl⟩, rv⟩ := p
      refine wpAny_nameGoes_keeps hk' hn4 hpk fun h5 v5 hn5 hs5 => ?_
      first | refine e2_1 (frel_but so R4 f4 hn4 fm4 hn5 hs5 (fun y hy => by simp [hy]) hni hk') fun R5 f5 _ => ?_ | refine e1_2 (frel_but so R4 f4 hn4 fm4 hn5 hs5 (fun y hy => by simp [hy]) hni hk') fun R5 f5 _ => ?_ | refine e0_3 (frel_but so R4 f4 hn4 fm4 hn5 hs5 (fun y hy => by simp [hy]) hni hk') fun R5 f5 _ => ?_ | obtain ⟨R5, f5, _⟩ := frel_but so R4 f4 hn4 fm4 hn5 hs5 (fun y hy => by simp [hy]) hni hk'
      rw [List.set_set] at f5
      have st3 := land3.stp R1.frs XF st
      have lo : env.locals ∈ ownA env := List.mem_cons_self
      have st5 : Stp (ownA env) γ γ1 s { s1 with heap := h5, toks := tk + 1 } := by
        refine ⟨(let ⟨h1, t1, e⟩ := st3.same; ⟨h5, tk + 1, by rw [show s1 = { s1 with heap := s1.heap } from rfl]; obtain ⟨h1', t1', e'⟩ := st.same; rw [e']⟩), fun b o hb hw q => ?_, st3.ext⟩
        first | refine e2_1 (st3.keepS b o hb hw q) fun sl q1 q2 => ?_ | refine e1_2 (st3.keepS b o hb hw q) fun sl q1 q2 => ?_ | refine e0_3 (st3.keepS b o hb hw q) fun sl q1 q2 => ?_ | obtain ⟨sl, q1, q2⟩ := st3.keepS b o hb hw q
        have hne : b ≠ env.locals := fun z => hw (z ▸ lo)
        exact ⟨sl, hs5.extBut _ _ hne (hs4.extBut _ _ hne q1), q2⟩
      have tt : ∀ a ws, TupAt h4 a ws → TupAt h5 a ws := fun a ws q => tupAt_but (fun b o hb e => hs5.extBut b o hb e) (f4.own env.locals lo).2.2.2 q
      exact ⟨γ1, H1, _, .ret V, st5, R5, f5, ⟨v, rfl, Rep.mono ⟨[], by simp⟩ tt rv⟩, w⟩

theorem s_try {n : Nat} {b : List Stmt} {ib : List IS} {hd : ExceptHandler} {u : Str × Option Nat × IE} {pos : Pos} (g : GOk D c.G) (so : SlotsOk c) (hb : SSs D Φ k c b ib) (hh : compH n c hd = some u) :
    SS D Φ k c (.Try b [hd] [] [] pos) (.tryR ib u.1 u.2.1 u.2.2) := by
  intro env A γ H s L Q X hE hA R fr w
  refine wpAny_Try_except (wpAny_mono (hb env A γ H s L Q _ hE hA R fr w) (fun fl s1 p => ?_) fun v s1 p => ?_)
  · cases fl <;> first | exact p | exact wpAny_execs_nil p
  · first | refine e4_5 p fun γ1 H1 L1 x st R1 fr1 e_248 q => ?_ | obtain ⟨γ1, H1, L1, x, st, R1, fr1, e_248, q⟩ := p
    obtain ⟨hx, hex⟩ := e_248
    first | refine e2_1 (fr1.top) fun outer htop hfr => ?_ | refine e1_2 (fr1.top) fun outer htop hfr => ?_ | refine e0_3 (fr1.top) fun outer htop hfr => ?_ | obtain ⟨outer, htop, hfr⟩ := fr1.top
    refine note_any hA.frames R R1 htop hfr hx fun a C a0 ex h' e1 hmg hn hax XF up hh' => ?_
    subst e1
    refine lands hh' fun h2 fl up2 => ?_
    exact handle_ok g so hE fr.alive st R1 fr1 hex hmg XF hh (Land.of fl.1 (up.trans up2)) fl q
end
end Mine

set_option autoImplicit false
/- Statements together; a call of a def. -/
namespace Mine
open PySem PyProof.Rows

section
variable {D : Wd} {Φ : Orc} {k : Nat}

theorem noSwap {e : Expr} {n : Nat} {c : CC} {ie : IE} (h : compE n c e = some ie) (hl : ∀ a b d f, e ≠ .ListComp a b d f) (t : Option Expr) (l : Nat) (env : Env) : swapsWith e t l env = pure false := by
  cases e <;> first | rfl | exact absurd rfl (hl _ _ _ _) | (cases n <;> exact no_some h)

theorem s_assign_any (hO : OrcOk D k Φ) {n : Nat} {c : CC} (g : GOk D c.G) (so : SlotsOk c) {x : Str} {px pos : Pos} {e : Expr} {i : Nat} {ie : IE} (hz : isZipC e = false) (h1 : slotV c x = some i) (h2 : compE n c e = some ie) : SS D Φ k c (.Assign [.Name x px] e pos) (.assign i ie) := by
  by_cases hl : ∃ a b d f, e = .ListComp a b d f
  · first | refine e3_2 hl fun elt gens scope pos' e_249 => ?_ | refine e2_3 hl fun elt gens scope pos' e_249 => ?_ | refine e1_4 hl fun elt gens scope pos' e_249 => ?_ | obtain ⟨elt, gens, scope, pos', e_249⟩ := hl
    obtain rfl := e_249
    cases n with
    | zero => exact no_some h2
    | succ n =>
      have h2 : cLc (compE n) c elt gens scope = some ie := h2
      unfold cLc at h2
      have hz' : (zipPat elt gens).isSome = false := hz
      cases hp : zipPat elt gens with
      | some p => rw [hp] at hz'; exact Bool.noConfusion hz'
      | none =>
        rw [hp] at h2
        obtain ⟨y, px', iter, kk, ss, ielt, rfl, ok, e1, e2, rfl⟩ := lc_inv h2
        exact s_assign_comp g so (fun c e ie g h => soundE hO n c e ie g h) ok e1 e2 (noSetIter e1) h1
  · exact s_assign so (soundE hO n c e ie g h2).1 h1 (fun env _ => noSwap h2 (fun a b d f q => hl ⟨a, b, d, f, q⟩) _ _ env)

theorem clsU_some {v : V} {u : Str × List Str} (h : clsU v = some u) : v = .cls u.1 u.2 := by
  cases v with
  | cls z w => rw [← Option.some.inj h]
  | _ => exact no_some h
theorem soundS (hO : OrcOk D k Φ) : ∀ (n : Nat) (c : CC) (st : Stmt) (is : IS), GOk D c.G → SlotsOk c → compS n c st = some is → SS D Φ k c st is := by
  intro n
  induction n with
  | zero => intro c st is g so h; exact no_some h
  | succ n ih =>
    intro c st is g so h
    have ihE : ∀ e ie, compE n c e = some ie → Both D Φ k c e ie := fun e ie h => soundE hO n c e ie g h
    have ihS := sss_of (f := compS n c) (fun st is h => ih c st is g so h)
    cases st with
    | Expr e p =>
      obtain ⟨hc, h⟩ := onlyIf_some h
      first | refine e2_1 (Option.map_eq_some_iff.mp h) fun a ha e_252 => ?_ | refine e1_2 (Option.map_eq_some_iff.mp h) fun a ha e_252 => ?_ | refine e0_3 (Option.map_eq_some_iff.mp h) fun a ha e_252 => ?_ | obtain ⟨a, ha, e_252⟩ := Option.map_eq_some_iff.mp h
      obtain rfl := e_252
      exact s_expr (ihE _ _ ha).1 (bnot hc)
    | Assign ts e p =>
      first | refine e2_1 (on1_some (show on1 ts _ = some is from h)) fun t e_253 h => ?_ | refine e1_2 (on1_some (show on1 ts _ = some is from h)) fun t e_253 h => ?_ | refine e0_3 (on1_some (show on1 ts _ = some is from h)) fun t e_253 h => ?_ | obtain ⟨t, e_253, h⟩ := on1_some (show on1 ts _ = some is from h)
      obtain rfl := e_253
      cases t with
      | Name x px =>
        obtain ⟨hz, h⟩ := onlyIf_some (show onlyIf (!isZipC e) _ = some is from h)
        obtain ⟨a, b, h1, h2, rfl⟩ := oTwo_some h; exact s_assign_any hO g so (bnot hz) h1 h2
      | Subscript o i p' =>
        obtain ⟨hc, h⟩ := onlyIf_some (show onlyIf (!isComp e) _ = some is from h)
        first | refine e3_4 (oThree_some h) fun a b d h1 h2 h3 e_254 => ?_ | obtain ⟨a, b, d, h1, h2, h3, e_254⟩ := oThree_some h
        obtain rfl := e_254
        exact s_set (ihE _ _ h1).1 (ihE _ _ h2).1 (ihE _ _ h3).1 (fun env => noSwap h1 (fun a b d f q => by subst q; exact Bool.noConfusion hc) _ _ env)
      | _ => exact no_some h
    | Return e p =>
      first | refine e2_1 (Option.bind_eq_some_iff.mp h) fun e e_255 h => ?_ | refine e1_2 (Option.bind_eq_some_iff.mp h) fun e e_255 h => ?_ | refine e0_3 (Option.bind_eq_some_iff.mp h) fun e e_255 h => ?_ | obtain ⟨e, e_255, h⟩ := Option.bind_eq_some_iff.mp h
      obtain rfl := e_255
      obtain ⟨a, ha, rfl⟩ := Option.map_eq_some_iff.mp h; exact s_ret (ihE _ _ ha).1
    | If t a b p => obtain ⟨t, a, b, h1, h2, h3, rfl⟩ := oThree_some h; exact s_if (ihE _ _ h1).2 (ihS _ _ h2) (ihS _ _ h3)
    | While t b e p =>
      obtain ⟨h0, h⟩ := onlyIf_some h
      obtain rfl : e = [] := List.isEmpty_iff.mp h0
      obtain ⟨t, b, h1, h2, rfl⟩ := oTwo_some h; exact s_while (ihE _ _ h1).2 (ihS _ _ h2)
    | For t iter b e p =>
      obtain ⟨h0, h⟩ := onlyIf_some h
      obtain rfl : e = [] := List.isEmpty_iff.mp h0
      first | refine e3_1 (onName_some h) fun x px e_256 h => ?_ | refine e2_2 (onName_some h) fun x px e_256 h => ?_ | refine e1_3 (onName_some h) fun x px e_256 h => ?_ | refine e0_4 (onName_some h) fun x px e_256 h => ?_ | obtain ⟨x, px, e_256, h⟩ := onName_some h
      obtain rfl := e_256
      obtain ⟨i, ks, b, h1, h2, h3, rfl⟩ := oThree_some h; exact s_for g so (fun e ie h => (ihE e ie h).1) h1 h2 (ihS _ _ h3)
    | Raise e d p =>
      first | refine e2_1 (Option.bind_eq_some_iff.mp (show (raiseOf e d).bind _ = some is from h)) fun e_257 hr h1 => ?_ | refine e1_2 (Option.bind_eq_some_iff.mp (show (raiseOf e d).bind _ = some is from h)) fun e_257 hr h1 => ?_ | refine e0_3 (Option.bind_eq_some_iff.mp (show (raiseOf e d).bind _ = some is from h)) fun e_257 hr h1 => ?_ | obtain ⟨e_257, hr, h1⟩ := Option.bind_eq_some_iff.mp (show (raiseOf e d).bind _ = some is from h)
      obtain ⟨x, kk⟩ := e_257
      obtain ⟨h0, h2⟩ := onlyIf_some h1
      clear h h1
      first | refine e3_3 (raiseOf_some hr) fun np kn kp cp e_258 e_259 => ?_ | refine e2_4 (raiseOf_some hr) fun np kn kp cp e_258 e_259 => ?_ | obtain ⟨np, kn, kp, cp, e_258, e_259⟩ := raiseOf_some hr
      obtain rfl := e_258
      obtain rfl := e_259
      obtain ⟨W, hW⟩ := Option.isSome_iff_exists.mp h0
      first | refine e2_1 (Option.bind_eq_some_iff.mp (show ((globV c x).bind clsU).bind _ = some is from h2)) fun e_260 hz h3 => ?_ | refine e1_2 (Option.bind_eq_some_iff.mp (show ((globV c x).bind clsU).bind _ = some is from h2)) fun e_260 hz h3 => ?_ | refine e0_3 (Option.bind_eq_some_iff.mp (show ((globV c x).bind clsU).bind _ = some is from h2)) fun e_260 hz h3 => ?_ | obtain ⟨e_260, hz, h3⟩ := Option.bind_eq_some_iff.mp (show ((globV c x).bind clsU).bind _ = some is from h2)
      obtain ⟨z, ups⟩ := e_260
      obtain ⟨h1, h4⟩ := onlyIf_some h3
      obtain rfl := Option.some.inj h4
      obtain rfl : z = x := eq_of_beq h1
      first | refine e2_1 (Option.bind_eq_some_iff.mp hz) fun V hV hz => ?_ | refine e1_2 (Option.bind_eq_some_iff.mp hz) fun V hV hz => ?_ | refine e0_3 (Option.bind_eq_some_iff.mp hz) fun V hV hz => ?_ | obtain ⟨V, hV, hz⟩ := Option.bind_eq_some_iff.mp hz
      rw [clsU_some hz] at hV
      exact s_raise g hV hW
    | Try b hs o f p =>
      obtain ⟨h0, h⟩ := onlyIf_some h
      rw [Bool.and_eq_true] at h0
      obtain rfl : o = [] := List.isEmpty_iff.mp h0.1
      obtain rfl : f = [] := List.isEmpty_iff.mp h0.2
      first | refine e2_1 (on1_some h) fun hd e_261 h => ?_ | refine e1_2 (on1_some h) fun hd e_261 h => ?_ | refine e0_3 (on1_some h) fun hd e_261 h => ?_ | obtain ⟨hd, e_261, h⟩ := on1_some h
      obtain rfl := e_261
      first | refine e3_2 (oTwo_some h) fun a u h1 h2 e_262 => ?_ | refine e2_3 (oTwo_some h) fun a u h1 h2 e_262 => ?_ | refine e1_4 (oTwo_some h) fun a u h1 h2 e_262 => ?_ | obtain ⟨a, u, h1, h2, e_262⟩ := oTwo_some h
      obtain rfl := e_262
      exact s_try g so (ihS _ _ h1) h2
    | _ => exact no_some h

theorem slotsGo_lookup : ∀ (names : List Str) (k : Nat) (x : Str) (i : Nat), (slotsGo names k).lookup x = some i → ∃ j, i = k + j ∧ names[j]? = some x
  | [], _, _, _, h => by simp [slotsGo] at h
  | y :: r, k, x, i, h => by
    simp only [slotsGo, List.lookup_cons] at h
    cases hxy : x == y with
    | true =>
      rw [hxy] at h
      simp only [Option.some.injEq] at h
      exact ⟨0, by omega, by simp; exact (by simpa using hxy : x = y).symm⟩
    | false =>
      rw [hxy] at h
      first | refine e2_1 (slotsGo_lookup r (k + 1) x i h) fun j e1 e2 => ?_ | refine e1_2 (slotsGo_lookup r (k + 1) x i h) fun j e1 e2 => ?_ | refine e0_3 (slotsGo_lookup r (k + 1) x i h) fun j e1 e2 => ?_ | obtain ⟨j, e1, e2⟩ := slotsGo_lookup r (k + 1) x i h
      exact ⟨j + 1, by omega, by simpa using e2⟩

theorem bindL_spec {kindOf : Str → Option NameKind} : ∀ (binds : List (Str × Value)) (m : Str → Option Value) (x : Str), kindOf x = some .local → (binds.map (·.1)).Nodup → bindL kindOf binds m x = (binds.lookup x).or (m x)
  | [], m, x, _, _ => by simp [bindL]
  | (n, v) :: r, m, x, hx, hn => by
    simp only [List.map_cons, List.nodup_cons] at hn
    rw [bindL, bindL_spec r _ x hx hn.2, List.lookup_cons]
    cases hxn : x == n with
    | true =>
      have : x = n := by simpa using hxn
      subst this
      have hr : r.lookup x = none := by
        rw [List.lookup_eq_none_iff]
        intro p hp
        have : x ≠ p.1 := fun q => hn.1 (q ▸ List.mem_map_of_mem hp)
        simpa using this
      simp [hr, hx]
    | false =>
      have hne : x ≠ n := by simpa using hxn
      congr 1
      split
      · simp [hne]
      · rfl
theorem bindC_spec {kindOf : Str → Option NameKind} : ∀ (binds : List (Str × Value)) (m : Str → Option Value) (x : Str), kindOf x ≠ some .local → (binds.map (·.1)).Nodup → bindC kindOf binds m x = (binds.lookup x).or (m x)
  | [], m, x, _, _ => by simp [bindC]
  | (n, v) :: r, m, x, hx, hn => by
    simp only [List.map_cons, List.nodup_cons] at hn
    rw [bindC, bindC_spec r _ x hx hn.2, List.lookup_cons]
    cases hxn : x == n with
    | true =>
      have : x = n := by simpa using hxn
      subst this
      have hr : r.lookup x = none := by
        rw [List.lookup_eq_none_iff]
        intro p hp
        have : x ≠ p.1 := fun q => hn.1 (q ▸ List.mem_map_of_mem hp)
        simpa using this
      simp [hr, hx]
    | false =>
      have hne : x ≠ n := by simpa using hxn
      congr 1
      split
      · rfl
      · simp [hne]

theorem zip_lookup : ∀ (ps : List Str) (vals : List Value) (i : Nat) (x : Str) (v : Value), ps.Nodup → ps[i]? = some x → vals[i]? = some v → (ps.zip vals).lookup x = some v
  | p :: ps, [], i, x, v, _, _, h => by simp at h
  | p :: ps, w :: vals, 0, x, v, hn, h1, h2 => by
    simp at h1 h2; subst h1; subst h2; simp [List.lookup_cons]
  | p :: ps, w :: vals, i + 1, x, v, hn, h1, h2 => by
    simp only [List.nodup_cons] at hn
    simp at h1 h2
    have hne : (x == p) = false := by
      have : x ≠ p := fun q => hn.1 (q ▸ List.mem_of_getElem? h1)
      simpa using this
    rw [List.zip_cons_cons, List.lookup_cons, hne]
    exact zip_lookup ps vals i x v hn.2 h1 h2
  | [], _, _, _, _, _, h, _ => by simp at h

theorem cellsFrom_names : ∀ (names : List (Str × NameKind)) (n : Nat) (acc : List (Str × Addr)) (x : Str), x ∈ (cellsFrom n names acc).map (·.1) → x ∈ acc.map (·.1) ∨ (x, NameKind.cell) ∈ names
  | [], _, _, _, h => .inl h
  | (y, kd) :: r, n, acc, x, h => by
    unfold cellsFrom at h
    split at h
    · rename_i hk
      rcases cellsFrom_names r _ _ x h with q | q
      · simp only [List.map_cons, List.mem_cons] at q
        rcases q with q | q
        · subst q
          have : kd = .cell := by simpa using hk
          subst this
          exact .inr List.mem_cons_self
        · exact .inl q
      · exact .inr (List.mem_cons_of_mem _ q)
    · rcases cellsFrom_names r _ _ x h with q | q
      · exact .inl q
      · exact .inr (List.mem_cons_of_mem _ q)
theorem cellsFrom_nodup : ∀ (names : List (Str × NameKind)) (n : Nat) (acc : List (Str × Addr)), (names.map (·.1)).Nodup → (acc.map (·.1)).Nodup → (∀ x ∈ acc.map (·.1), x ∉ names.map (·.1)) → ((cellsFrom n names acc).map (·.1)).Nodup
  | [], _, _, _, h, _ => h
  | (y, kd) :: r, n, acc, hn, ha, hd => by
    simp only [List.map_cons, List.nodup_cons] at hn
    unfold cellsFrom
    split
    · refine cellsFrom_nodup r _ _ hn.2 ?_ ?_
      · simp only [List.map_cons, List.nodup_cons]
        exact ⟨fun q => hd y q (by simp), ha⟩
      · intro x hx
        simp only [List.map_cons, List.mem_cons] at hx
        rcases hx with q | q
        · subst q; exact hn.1
        · exact fun q' => hd x q (by simp at q' ⊢; exact .inr q')
    · exact cellsFrom_nodup r _ _ hn.2 ha (fun x hx q' => hd x hx (by simp at q' ⊢; exact .inr q'))
theorem lookup_of_nodup : ∀ {l : List (Str × Addr)} {n : Str} {a : Addr}, (l.map (·.1)).Nodup → (n, a) ∈ l → l.lookup n = some a
  | (m, b) :: r, n, a, hn, h => by
    simp only [List.map_cons, List.nodup_cons] at hn
    rw [List.lookup_cons]
    rcases List.mem_cons.mp h with q | q
    · cases q; simp
    · have : (n == m) = false := by
        have : n ≠ m := fun e => hn.1 (e ▸ List.mem_map_of_mem q)
        simpa using this
      rw [this]
      exact lookup_of_nodup hn.2 q

/- what is known of a def of the text -/
structure FnOk (D : Wd) (G : List (Str × V)) (x : Str) (f : Fn) : Prop where
  at' : ∃ a o name params body scope pm cd doc ps, D.mg x = some (.ref a) ∧ D.hB.get? a = some o ∧ o.data = .func (Calls.docDef name params body scope pm cd doc) ∧ D.hB.CodeRec cd name ∧
    compFn G ps body scope = some f ∧ (∀ vals : List Value, vals.length = ps.length → bindArgs (Calls.docDef name params body scope pm cd doc) ⟨vals, []⟩ = pure (ps.zip vals)) ∧
    ps.Nodup ∧ (scope.names.map (·.1)).Nodup ∧ (∀ p ∈ ps, scope.names.lookup p = some .local ∨ scope.names.lookup p = some .cell) ∧ scope.isCoroutine = false ∧ scope.isGenerator = false ∧ scope.kind = .function

mutual
theorem Rep.wd {D D' : Wd} (hm : D'.mg = D.mg) (hB : D'.hB = D.hB) {γ : List Addr} {h : Heap} {v : Value} : ∀ {V : V}, Rep D γ h v V → Rep D' γ h v V
  | .none, x => x
  | .bool _, x => x
  | .int _, x => x
  | .str _, x => x
  | .opq _, x => x
  | .tup l, x => by
    first | refine e3_2 x fun a vs e t r => ?_ | refine e2_3 x fun a vs e t r => ?_ | refine e1_4 x fun a vs e t r => ?_ | obtain ⟨a, vs, e, t, r⟩ := x
    exact Exists.intro a ⟨vs, e, t, Reps.wd hm hB r⟩
  | .ref _, x => x
  | .fn _, x => by obtain ⟨a, e, m⟩ := x; exact Exists.intro a ⟨e, by rw [hm]; exact m⟩
  | .ty _, x => x
  | .bi _, x => x
  | .scr _, x => by obtain ⟨a, vs, e, m, r⟩ := x; exact Exists.intro a ⟨vs, e, by rw [hB]; exact m, r⟩
  | .cls _ _, x => by obtain ⟨a, e, m⟩ := x; exact Exists.intro a ⟨e, by rw [hm]; exact m⟩
theorem Reps.wd {D D' : Wd} (hm : D'.mg = D.mg) (hB : D'.hB = D.hB) {γ : List Addr} {h : Heap} {vs : List Value} : ∀ {l : List V}, Reps D γ h vs l → Reps D' γ h vs l
  | [], x => x
  | V :: l, x => by
    first | refine e3_2 x fun v r e a b => ?_ | refine e2_3 x fun v r e a b => ?_ | refine e1_4 x fun v r e a b => ?_ | obtain ⟨v, r, e, a, b⟩ := x
    exact Exists.intro v ⟨r, e, Rep.wd hm hB a, Reps.wd hm hB b⟩
end
noncomputable abbrev Wd.on (D : Wd) (fr : List Env) : Wd := { D with fr := fr }
theorem HRel.on {D : Wd} {fr fr' : List Env} {γ : List Addr} {H : Hp} {h : Heap} (R : HRel (D.on fr) γ H h) (F : FrsOk (D.on fr') h) : HRel (D.on fr') γ H h where
  len := R.len
  nodup := R.nodup
  objs := fun i a o e1 e2 => by
    have := R.objs i a o e1 e2
    cases o with
    | list xs =>
      first | refine e3_2 this fun vs n e r z => ?_ | refine e2_3 this fun vs n e r z => ?_ | refine e1_4 this fun vs n e r z => ?_ | obtain ⟨vs, n, e, r, z⟩ := this
      exact ⟨vs, n, e, Reps.wd (D := D.on fr) (D' := D.on fr') rfl rfl r, z⟩
  fresh := R.fresh
  base := R.base
  frs := F
theorem GOk.on {D : Wd} {G : List (Str × V)} (g : GOk D G) (fr : List Env) : GOk (D.on fr) G where
  gns := g.gns
  bns := g.bns
  val := fun x V h => by
    first | refine e2_1 (g.val x V h) fun v hv r => ?_ | refine e1_2 (g.val x V h) fun v hv r => ?_ | refine e0_3 (g.val x V h) fun v hv r => ?_ | obtain ⟨v, hv, r⟩ := g.val x V h
    exact ⟨v, hv, fun γ => Rep.wd (D := D) (D' := D.on fr) rfl rfl (r γ)⟩
  lim := g.lim
  cls := g.cls
  exs := g.exs

theorem fn_ok {G : List (Str × V)} (g0 : GOk D G) (hO : OrcOk D k Φ) {x : Str} {f : Fn} (fo : FnOk D G x f) : ∀ fr vs H Q X, wpFn Φ f vs H Q X → ∀ A γ s vals a, AOk (D.on fr) (k + 1) A → HRel (D.on fr) γ H s.heap → Reps (D.on fr) γ s.heap vals vs → D.mg x = some (.ref a) →
    (∃ o fd, D.hB.get? a = some o ∧ o.data = .func fd) ∧ wpAny D.M A (call (.ref a) vals) (PostV (D.on fr) γ s Q) (PostX (D.on fr) γ s X) s := by
  intro fr
  intro vs H Q X w A γ s vals a hA R rv hxa
  obtain ⟨a', o, name, params, body, scope, pm, cd, doc, ps, hx, ho, hd, hcd, hf, hb, hps, hnn, hk, hco, hgen, hkind⟩ := fo.at'
  rw [hxa] at hx; cases hx
  refine ⟨⟨o, _, ho, hd⟩, ?_⟩
  first | refine e2_1 (Option.map_eq_some_iff.mp hf) fun ib hib e_263 => ?_ | refine e1_2 (Option.map_eq_some_iff.mp hf) fun ib hib e_263 => ?_ | refine e0_3 (Option.map_eq_some_iff.mp hf) fun ib hib e_263 => ?_ | obtain ⟨ib, hib, e_263⟩ := Option.map_eq_some_iff.mp hf
  obtain rfl := e_263
  obtain ⟨hlen, w⟩ := w
  simp only at hlen
  have hvl : vals.length = ps.length := by rw [rv.length, hlen]
  have hz : (ps.zip vals).map (·.1) = ps := by rw [List.map_fst_zip]; omega
  have hzn : ((ps.zip vals).map (·.1)).Nodup := by rw [hz]; exact hps
  have kinds : ∀ y ∈ ps.zip vals, scope.names.lookup y.1 = some .local ∨ (scope.names.lookup y.1 = some .cell ∧ ((cellsFrom (s.heap.objs.size + 1) scope.names []).lookup y.1).isSome = true) := fun y hy => by
    have : y.1 ∈ ps := by rw [← hz]; exact List.mem_map_of_mem hy
    rcases hk y.1 this with q | q
    · exact .inl q
    · exact .inr ⟨q, PySem.W.cellsFrom_some _ _ _ (.inl q)⟩
  refine wpAny_call (codeAny_call_cells (fd := Calls.docDef name params body scope pm cd doc) (body := body) (binds := ps.zip vals) (Nat.lt_of_lt_of_le (Nat.lt_of_le_of_lt (Nat.le_add_right _ _) hA.depth) (by decide)) (R.base _ _ ho) hd (g0.lim.keeps R.base) (hcd.keeps R.base) rfl (hb vals hvl) rfl kinds (fun s1 ic => ?_) hco hgen hkind)
  generalize henv : callEnvC (Calls.docDef name params body scope pm cd doc) s.heap.objs.size a = env at ic ⊢
  have hko : ∀ y, env.kindOf y = scope.names.lookup y := fun y => by subst henv; rfl
  have hloc : env.locals = s.heap.objs.size := by subst henv; rfl
  have hcells : env.cells = cellsFrom (s.heap.objs.size + 1) scope.names [] := by subst henv; rfl
  let c : CC := { G, scope, slots := slotsGo (ownNames ps scope) 0, nxt := (ownNames ps scope).length }
  have g : GOk (D.on (env :: fr)) G := g0.on _
  have hE : EnvOk c env := ⟨by subst henv; rfl, hkind, by subst henv; rfl, by subst henv; rfl⟩
  have so : SlotsOk c := ⟨fun y z i h1 h2 => by
    first | refine e2_1 (slotsGo_lookup _ _ _ _ h1) fun j e1 e2 => ?_ | refine e1_2 (slotsGo_lookup _ _ _ _ h1) fun j e1 e2 => ?_ | refine e0_3 (slotsGo_lookup _ _ _ _ h1) fun j e1 e2 => ?_ | obtain ⟨j, e1, e2⟩ := slotsGo_lookup _ _ _ _ h1
    first | refine e2_1 (slotsGo_lookup _ _ _ _ h2) fun j' e1' e2' => ?_ | refine e1_2 (slotsGo_lookup _ _ _ _ h2) fun j' e1' e2' => ?_ | refine e0_3 (slotsGo_lookup _ _ _ _ h2) fun j' e1' e2' => ?_ | obtain ⟨j', e1', e2'⟩ := slotsGo_lookup _ _ _ _ h2
    have : j = j' := by omega
    subst this
    rw [e2] at e2'; cases e2'; rfl⟩
  have new : ∀ b, s.heap.objs.size ≤ b → b ∉ γ ∧ D.hB.get? b = none := fun b hb => by
    have e : s.heap.get? b = none := by
      cases q : s.heap.get? b with
      | none => rfl
      | some o => exact absurd (Heap.lt_size q) (Nat.not_lt.mpr hb)
    exact ⟨(fun hm => by obtain ⟨o, e', _⟩ := R.alive hm; rw [e] at e'; cases e'), base_none R e⟩
  have keep := ic.toInCall.keep
  have tt : ∀ a ws, TupAt s.heap a ws → TupAt s1.heap a ws := fun _ _ q => tupAt_grow keep q
  have cn : ((env.cells).map (·.1)).Nodup := by rw [hcells]; exact cellsFrom_nodup _ _ _ hnn (by simp) (by simp)
  have ini : ∀ (y : Str) (i : Nat) (V : V), c.slots.lookup y = some i → (initL { names := (ownNames ps scope).length + 3, params := ps.length, body := ib } vs)[i]? = some (some V) → ∃ v, (ps.zip vals).lookup y = some v ∧ Rep (D.on (env :: fr)) γ s1.heap v V := by
    intro y i V hs hL
    first | refine e2_1 (slotsGo_lookup _ _ _ _ hs) fun j e1 e2 => ?_ | refine e1_2 (slotsGo_lookup _ _ _ _ hs) fun j e1 e2 => ?_ | refine e0_3 (slotsGo_lookup _ _ _ _ hs) fun j e1 e2 => ?_ | obtain ⟨j, e1, e2⟩ := slotsGo_lookup _ _ _ _ hs
    have hij : i = j := by omega
    subst hij
    unfold initL at hL
    have hi : i < vs.length := by
      apply Classical.byContradiction
      intro hn
      rw [List.getElem?_append_right (by simp; omega), List.getElem?_replicate] at hL
      split at hL <;> cases hL
    rw [List.getElem?_append_left (by simpa using hi), List.getElem?_map] at hL
    simp only [Option.map_eq_some_iff, Option.some.injEq, exists_eq_right] at hL
    first | refine e2_1 (rv.get hL) fun v hv rvv => ?_ | refine e1_2 (rv.get hL) fun v hv rvv => ?_ | refine e0_3 (rv.get hL) fun v hv rvv => ?_ | obtain ⟨v, hv, rvv⟩ := rv.get hL
    have hpi : ps[i]? = some y := by
      unfold ownNames at e2
      rw [List.getElem?_append_left (by omega)] at e2
      exact e2
    exact ⟨v, zip_lookup ps vals i y v hps hpi hv, Rep.wd (D := D.on fr) (D' := D.on (env :: fr)) rfl rfl (Rep.mono ⟨[], by simp⟩ tt rvv)⟩
  have frl : FRel (D.on (env :: fr)) γ env c.slots s1.heap (initL { names := (ownNames ps scope).length + 3, params := ps.length, body := ib } vs) := by
    refine ⟨⟨⟨_, ic.toInCall.ns, ?_⟩, ?_, ?_, ⟨env, fr, rfl, rfl⟩⟩, ?_, ic.apart, ?_, ⟨fr, rfl, by subst henv; rfl⟩⟩
    · intro y i V hy hs hL
      first | refine e2_1 (ini y i V hs hL) fun v hv r => ?_ | refine e1_2 (ini y i V hs hL) fun v hv r => ?_ | refine e0_3 (ini y i V hs hL) fun v hv r => ?_ | obtain ⟨v, hv, r⟩ := ini y i V hs hL
      exact ⟨v, by rw [bindL_spec _ _ _ hy hzn, hv]; rfl, r⟩
    · intro y hy
      have hc' : (env.cells.lookup y).isSome = true := by rw [hcells]; exact PySem.W.cellsFrom_some _ _ _ (.inl (by rw [← hko]; exact hy))
      obtain ⟨ca, hca⟩ := Option.isSome_iff_exists.mp hc'
      have habove := ic.above y ca (mem_of_lookup hca)
      rw [hloc] at habove
      refine ⟨ca, _, hca, ic.cell y ca hca, (new ca (Nat.le_of_lt habove)).1, fun i V hs hL => ?_⟩
      first | refine e2_1 (ini y i V hs hL) fun v hv r => ?_ | refine e1_2 (ini y i V hs hL) fun v hv r => ?_ | refine e0_3 (ini y i V hs hL) fun v hv r => ?_ | obtain ⟨v, hv, r⟩ := ini y i V hs hL
      exact ⟨v, by rw [bindC_spec _ _ _ (by rw [hy]; intro q; cases q) hzn, hv]; rfl, r⟩
    · exact (new _ (by rw [hloc]; exact Nat.le_refl _)).1
    · intro b hb
      rcases List.mem_cons.mp hb with q | q
      · subst q
        have n1 := new env.locals (by rw [hloc]; exact Nat.le_refl _)
        exact ⟨n1.1, n1.2, (let ⟨o, _, _, e, _⟩ := ic.toInCall.ns; ⟨o, e⟩), notTup_dict ic.toInCall.ns⟩
      · first | refine e2_1 (List.mem_map.mp q) fun e_264 hm e_265 => ?_ | refine e1_2 (List.mem_map.mp q) fun e_264 hm e_265 => ?_ | refine e0_3 (List.mem_map.mp q) fun e_264 hm e_265 => ?_ | obtain ⟨e_264, hm, e_265⟩ := List.mem_map.mp q
        obtain ⟨y, ca⟩ := e_264
        obtain rfl := e_265
        have habove := ic.above y ca hm
        rw [hloc] at habove
        have n1 := new ca (Nat.le_of_lt habove)
        have hcell := ic.cell y ca (lookup_of_nodup cn hm)
        exact ⟨n1.1, n1.2, (let ⟨o, e, _⟩ := hcell; ⟨o, e⟩), notTup_cell hcell⟩
    · intro p hp
      exact Nat.ne_of_gt (ic.above p.1 p.2 hp)
  have own0 : ∀ b ∈ ownA env, s.heap.get? b = none := fun b hb => by
    have hge : s.heap.objs.size ≤ b := by
      rcases List.mem_cons.mp hb with q | q
      · rw [q, hloc]; exact Nat.le_refl _
      · first | refine e2_1 (List.mem_map.mp q) fun e_266 hm e_267 => ?_ | refine e1_2 (List.mem_map.mp q) fun e_266 hm e_267 => ?_ | refine e0_3 (List.mem_map.mp q) fun e_266 hm e_267 => ?_ | obtain ⟨e_266, hm, e_267⟩ := List.mem_map.mp q
        obtain ⟨y, ca⟩ := e_266
        obtain rfl := e_267
        have habove := ic.above y ca hm
        rw [hloc] at habove
        exact Nat.le_of_lt habove
    cases q : s.heap.get? b with
    | none => rfl
    | some o => exact absurd (Heap.lt_size q) (Nat.not_lt.mpr hge)
  have fresh0 : ∀ b, s1.heap.get? b = none → s.heap.get? b = none := fun b hb => by
    cases q : s.heap.get? b with
    | none => rfl
    | some o => rw [keep b o q] at hb; cases hb
  have stp0 : ∀ {γ2 : List Addr} {s2 : Shared}, Stp (ownA env) γ γ2 s1 s2 → Stp [] γ γ2 s s2 := fun {γ2 s2} st2 => by
    refine ⟨?_, fun b o hb _ e => st2.keepS b o hb (fun q => by rw [own0 b q] at e; cases e) (keep b o e), ?_⟩
    · first | refine e2_1 (ic.toInCall.same) fun h1 t1 e1 => ?_ | refine e1_2 (ic.toInCall.same) fun h1 t1 e1 => ?_ | refine e0_3 (ic.toInCall.same) fun h1 t1 e1 => ?_ | obtain ⟨h1, t1, e1⟩ := ic.toInCall.same
      first | refine e2_1 (st2.same) fun h2 t2 e2 => ?_ | refine e1_2 (st2.same) fun h2 t2 e2 => ?_ | refine e0_3 (st2.same) fun h2 t2 e2 => ?_ | obtain ⟨h2, t2, e2⟩ := st2.same
      rw [e2, e1]; exact ⟨_, _, rfl⟩
    · first | refine e2_1 (st2.ext) fun δ e f => ?_ | refine e1_2 (st2.ext) fun δ e f => ?_ | refine e0_3 (st2.ext) fun δ e f => ?_ | obtain ⟨δ, e, f⟩ := st2.ext
      exact ⟨δ, e, fun b hb => fresh0 b (f b hb)⟩
  have frs1 : FrsOk (D.on (env :: fr)) s1.heap := fun e he => by
    rcases List.mem_cons.mp he with q | q
    · subst q
      first | refine e2_1 (isD_ns ic.toInCall.ns) fun o e1 e2 => ?_ | refine e1_2 (isD_ns ic.toInCall.ns) fun o e1 e2 => ?_ | refine e0_3 (isD_ns ic.toInCall.ns) fun o e1 e2 => ?_ | obtain ⟨o, e1, e2⟩ := isD_ns ic.toInCall.ns
      exact ⟨by rw [hE.scope]; exact hkind, _, o, (by subst henv; rfl), (new _ (by rw [hloc]; exact Nat.le_refl _)).2, e1, e2⟩
    · exact (R.frs.grow keep) e q
  have R1 : HRel (D.on (env :: fr)) γ H s1.heap := (R.grow keep).on frs1
  have outer : ∀ {h : Heap}, FrsOk (D.on (env :: fr)) h → FrsOk (D.on fr) h := fun F e he => F e (List.mem_cons_of_mem _ he)
  have body_ok := sss_of (D := D.on (env :: fr)) (f := compS 40 c) (fun st is h => soundS (D := D.on (env :: fr)) (Φ := Φ) (k := k) hO 40 c st is g so h) body ib hib env (A.deeper env) γ H s1 _ _ _ hE (hA.deeper env) R1 frl w
  refine wpAny_mono body_ok (fun fl s2 p => ?_) fun e s2 p => ?_
  · first | refine e4_5 p fun γ2 H2 L2 F st2 R2 fr2 hf2 q2 => ?_ | obtain ⟨γ2, H2, L2, F, st2, R2, fr2, hf2, q2⟩ := p
    have st0 := stp0 st2
    have R2' : HRel (D.on fr) γ2 H2 s2.heap := R2.on (outer R2.frs)
    cases F with
    | next => obtain rfl := hf2; exact ⟨γ2, .none, H2, st0, R2', (show Rep _ _ _ _ .none from rfl), q2⟩
    | ret V => obtain ⟨v, rfl, rv⟩ := hf2; exact ⟨γ2, V, H2, st0, R2', Rep.wd (D := D.on (env :: fr)) (D' := D.on fr) rfl rfl rv, q2⟩
  · first | refine e4_5 p fun γ2 H2 L2 x st2 R2 fr2 e_268 q2 => ?_ | obtain ⟨γ2, H2, L2, x, st2, R2, fr2, e_268, q2⟩ := p
    obtain ⟨hx, hex⟩ := e_268
    refine leave_any (D := D.on (env :: fr)) (hA.deeper env).frames R1 R2 rfl (by subst henv; rfl) hx fun a C a0 ex h' e1 hmg hn hax XF land tr => ?_
    subst e1
    have fly := fly_of (fun b => fresh_backF st2 R2 fr2.alive) R2.frs XF land hmg hn tr
    have R3 := land.rel R2 XF
    exact ⟨γ2, H2, x, stp0 (land.stp R2.frs XF st2), R3.on (outer R3.frs), ⟨fly.from fresh0, hex⟩, q2⟩
end
end Mine

set_option autoImplicit false
/- From the text's top: what is known of each def. -/
namespace Mine
open PySem PyProof.Rows

theorem zip_lookup_some : ∀ (ps : List Str) (vals : List Value) (n : Str), vals.length = ps.length → n ∈ ps → ((ps.zip vals).lookup n).isSome = true
  | [], _, n, _, h => by cases h
  | p :: ps, [], n, e, _ => by simp at e
  | p :: ps, v :: vals, n, e, h => by
    simp only [List.zip_cons_cons, List.lookup_cons]
    split
    · rfl
    · rename_i q
      refine zip_lookup_some ps vals n (by simpa using e) ?_
      rcases List.mem_cons.mp h with q' | q'
      · subst q'; simp at q
      · exact q'

theorem zip_filterMap : ∀ (ps : List Str) (vals : List Value) (pre : List (Str × Value)), vals.length = ps.length → ps.Nodup → (∀ p ∈ ps, pre.lookup p = none) → ps.filterMap (fun n => ((pre ++ ps.zip vals).lookup n).map (n, ·)) = ps.zip vals
  | [], _, _, _, _, _ => by simp
  | p :: ps, [], _, e, _, _ => by simp at e
  | p :: ps, v :: vals, pre, e, hn, hp => by
    have h1 : (pre ++ (p :: ps).zip (v :: vals)).lookup p = some v := by
      rw [List.lookup_append, hp p (by simp)]; simp
    simp only [List.filterMap_cons, h1, Option.map_some]
    simp only [List.zip_cons_cons, List.cons.injEq, true_and]
    have := zip_filterMap ps vals (pre ++ [(p, v)]) (by simpa using e) (List.nodup_cons.mp hn).2 (fun q hq => by
      rw [List.lookup_append, hp q (by simp [hq])]
      have : (q == p) = false := by
        have : q ≠ p := fun e => (List.nodup_cons.mp hn).1 (e ▸ hq)
        simpa using this
      simp [List.lookup_cons, this])
    simpa using this

theorem bind_simple {name : Str} {args : List Arg} {body : List Stmt} {scope : Scope} {pm cd doc : Value} {kd : List (Option Expr)} {vals : List Value} (hn : (args.map (·.arg)).Nodup) (hl : vals.length = (args.map (·.arg)).length) :
    bindArgs (Calls.docDef name ⟨[], args, none, [], kd, none, []⟩ body scope pm cd doc) ⟨vals, []⟩ = pure ((args.map (·.arg)).zip vals) := by
  unfold bindArgs
  simp only [Calls.docDef, seqItems?, notAStandIn, List.map_nil, List.nil_append, List.append_nil, Option.isNone_none]
  generalize args.map (·.arg) = ps at *
  have h1 : (ps.filter fun n => ((ps.zip vals).lookup n).isNone) = [] := by
    rw [List.filter_eq_nil_iff]
    intro n hm
    have := zip_lookup_some _ vals n hl hm
    simp only [Option.isNone_iff_eq_none]
    intro q; rw [q] at this; cases this
  have h2 := zip_filterMap _ vals [] hl hn (by simp)
  simp only [List.nil_append] at h2
  have h3 : ¬ vals.length > ps.length := by omega
  simp [h1, h2, h3]

/- everything about a def that can be looked at -/
noncomputable def strsNodup : List Str → Bool
  | [] => true
  | x :: r => !r.contains x && strsNodup r
theorem strsNodup_ok : ∀ {l : List Str}, strsNodup l = true → l.Nodup
  | [], _ => List.nodup_nil
  | x :: r, h => by
    simp only [strsNodup, Bool.and_eq_true, Bool.not_eq_true', List.contains_eq_mem, decide_eq_false_iff_not] at h
    exact List.nodup_cons.mpr ⟨h.1, strsNodup_ok h.2⟩

noncomputable def simpleArgs (a : Arguments) : Option (List Str) := onlyIf (a.posonlyargs.isEmpty && a.vararg.isNone && a.kwonlyargs.isEmpty && a.kwarg.isNone && a.defaults.isEmpty) (some (a.args.map (·.arg)))

noncomputable def checkRec (G : List (Str × V)) (d : DefRec) : Option Fn :=
  match simpleArgs d.params with
  | some ps => if strsNodup ps && strsNodup (d.scope.names.map (·.1)) && (ps.all fun p => d.scope.names.lookup p == some .local || d.scope.names.lookup p == some .cell) && !d.scope.isCoroutine && !d.scope.isGenerator && d.scope.kind == .function then
      compFn G ps d.body d.scope else none
  | none => none

noncomputable def checkFn (G : List (Str × V)) (p : Program) (x : Str) : Option Fn :=
  match (recsOf p).find? (fun d => d.name == x) with
  | some d => checkRec G d
  | none => none

theorem fnOk_of_top {D : Wd} {G : List (Str × V)} {p : Program} {loose : List Str} {mean : ExcName → Option Value} (T : Top p loose mean D.mg D.mb D.hB) {x : Str} {f : Fn} (h : checkFn G p x = some f) : FnOk D G x f := by
  unfold checkFn at h
  split at h
  · rename_i d hd
    have hx : d.name = x := by have := List.find?_some hd; simpa using this
    have hm := List.mem_of_find?_eq_some hd
    first | refine e4_5 (T.fn d hm) fun a o pm cd doc h1 h2 h3 h4 => ?_ | obtain ⟨a, o, pm, cd, doc, h1, h2, h3, h4⟩ := T.fn d hm
    subst hx
    unfold checkRec at h
    split at h
    · rename_i ps hps
      split at h
      · rename_i hc
        simp only [Bool.and_eq_true, Bool.not_eq_true'] at hc
        obtain ⟨⟨⟨⟨⟨c1, c2⟩, c3⟩, c4⟩, c5⟩, c6⟩ := hc
        have hnd := strsNodup_ok c1
        refine ⟨⟨a, o, d.name, d.params, d.body, d.scope, pm, cd, doc, ps, h1, h2, h3, h4, h, ?_, hnd, strsNodup_ok c2, ?_, c4, c5, ?_⟩⟩
        · intro vals hl
          revert hps
          cases d.params with
          | mk po ar va ko kd kw df =>
            intro hps
            obtain ⟨hb, hps⟩ := onlyIf_some (show onlyIf (po.isEmpty && va.isNone && ko.isEmpty && kw.isNone && df.isEmpty) (some (ar.map (·.arg))) = some ps from hps)
            simp only [Bool.and_eq_true, List.isEmpty_iff, Option.isNone_iff_eq_none] at hb
            obtain ⟨⟨⟨⟨rfl, rfl⟩, rfl⟩, rfl⟩, rfl⟩ := hb
            cases hps
            exact bind_simple hnd hl
        · intro q hq
          have := List.all_eq_true.mp c3 q hq
          simpa using this
        · revert c6; cases d.scope.kind <;> intro c6 <;> first | rfl | cases c6
      · cases h
    · cases h
  · cases h
end Mine

set_option autoImplicit false
/- The top of a law, and its end. -/
namespace Mine
open PySem PySem.W PyProof.Rows

noncomputable def isName : Stmt → Bool
  | .Assign [.Name x _] _ _ => x == ("__name__" : Str)
  | _ => false
noncomputable def viewOf (p : Program) : Program := { p with main := { p.main with body := p.main.body.filter fun st => !isName st } }
theorem noΦ_ok {D : Wd} : OrcOk D 0 noΦ := fun _ _ _ _ _ _ h => h.elim
theorem ext_ok {D : Wd} {G : List (Str × V)} {k : Nat} {Φ : Orc} {n : Str} {f : Fn} {C : List V → Hp → (V → Hp → Prop) → XL → Prop} (g : GOk D G) (hO : OrcOk D k Φ) (fo : FnOk D G n f)
    (h : ∀ vs H Q X, C vs H Q X → wpFn Φ f vs H Q X) : OrcOk D (k + 1) (ext n C Φ) := by
  intro fr x vs H Q X hx A γ s vals a hA R rv ha
  unfold ext at hx
  split at hx
  · rename_i e
    have e : x = n := by simpa using e
    subst e
    exact fn_ok g hO fo fr vs H Q X (h vs H Q X hx) A γ s vals a hA R rv ha
  · exact hO fr x vs H Q X hx A γ s vals a (hA.mono (by omega)) R rv ha

theorem ext_none {D : Wd} {k : Nat} {Φ : Orc} {n : Str} {C : List V → Hp → (V → Hp → Prop) → XL → Prop} (h : D.mg n = none) (hO : OrcOk D k Φ) : OrcOk D k (ext n C Φ) := by
  intro fr x vs H Q X hx A γ s vals a hA R rv ha
  unfold ext at hx
  split at hx
  · rename_i e
    have e : x = n := by simpa using e
    subst e
    rw [h] at ha; cases ha
  · exact hO fr x vs H Q X hx A γ s vals a hA R rv ha

theorem ints_get : ∀ {vs : List Value} {ns : List Int}, IntsAre vs ns → vs.length = ns.length ∧ ∀ (k : Nat) (i : Int), ns[k]? = some i → ∃ t, vs[k]? = some (.int i t)
  | _, _, .nil => ⟨rfl, fun k i h => by simp at h⟩
  | _, _, .cons n t r => by
    obtain ⟨h1, h2⟩ := ints_get r
    refine ⟨by simp [h1], fun k i h => ?_⟩
    cases k with
    | zero => simp at h; subst h; exact ⟨t, by simp⟩
    | succ k => simp at h; obtain ⟨u, hu⟩ := h2 k i h; exact ⟨u, by simpa using hu⟩

noncomputable def GVal (D : Wd) (x : Str) (W : V) : Prop := ∃ v, (D.mg x = some v ∨ (D.mg x = none ∧ D.mb x = some v)) ∧ ∀ γ, Rep D γ D.hB v W
noncomputable def GAll (D : Wd) : List (Str × V) → Prop
  | [] => True
  | p :: r => GVal D p.1 p.2 ∧ GAll D r
theorem gall_lookup {D : Wd} : ∀ {G : List (Str × V)}, GAll D G → ∀ (x : Str) (W : V), G.lookup x = some W → GVal D x W
  | [], _, x, W, h => by cases h
  | (y, U) :: r, g, x, W, h => by
    rw [List.lookup_cons] at h
    split at h
    · rename_i e
      have e : x = y := by simpa using e
      cases h; subst e; exact g.1
    · exact gall_lookup g.2 x W h
/- the exception classes of the text, looked at in the heap's fragment -/
noncomputable def tailInN (K : Frag) : List Value → Bool
  | [] => false
  | v :: r => (v :: r) == bmV || match v with
    | .ref A => (match K.lookup A with
      | some ⟨_, _, .cls cd, _⟩ => nsOkIn K cd.ns && (qN.all fun n => nsIn K cd.ns n == some none) && tailInN K r
      | _ => false)
    | _ => false
theorem qN_of {K : Frag} {h : Heap} {N : Addr} (X : K.In h) (e : nsOkIn K N = true) (q : (qN.all fun n => nsIn K N n == some none) = true) : ∀ n ∈ qN, h.nsMap N n = none := fun n hn => by
  have := List.all_eq_true.mp q n hn
  exact nsMap_none_of_in X e (beq_iff_eq.mp this)
theorem tailN_of {K : Frag} {h : Heap} (X : K.In h) : ∀ {l : List Value}, tailInN K l = true → TailN h bmV l
  | [], e => by cases e
  | v :: r, e => by
    unfold tailInN at e
    rcases Bool.or_eq_true_iff.mp e with q | q
    · rw [beq_iff_eq.mp q]; exact .base
    · split at q
      · split at q
        · rename_i ho
          simp only [Bool.and_eq_true] at q
          exact .own (X _ _ ho) (.of_isNs (isNs_of_in X q.1.1)) (qN_of X q.1.1 q.1.2) (tailN_of X q.2)
        · cases q
      · cases q
noncomputable def clsIn (K : Frag) (C : Addr) : Option (List Value) := match K.lookup C with
  | some ⟨.type "type", _, .cls cd, sl⟩ => (match cd.mro, sl.toList with
    | .ref C' :: bm, [_, _, _, _, some (.builtin n), _] => onlyIf (C' == C && n == "ValueError.__new__" && !cd.hasDel && tailInN K bm && nsOkIn K cd.ns && qN.all fun n => nsIn K cd.ns n == some none) (some bm)
    | _, _ => none)
  | _ => none
theorem clsAt_of {K : Frag} {h : Heap} {C : Addr} {bm : List Value} (X : K.In h) (q : clsIn K C = some bm) : ClsAt h C bm := by
  unfold clsIn at q
  split at q
  · rename_i dd cd sl ho
    split at q
    · rename_i C' bm k0 k1 k2 k3 n k5 hm hs
      obtain ⟨q, q2⟩ := onlyIf_some q
      cases q2
      simp only [Bool.and_eq_true, beq_iff_eq, Bool.not_eq_true'] at q
      obtain ⟨⟨⟨⟨⟨rfl, rfl⟩, hdel⟩, ht⟩, hok⟩, hni⟩ := q
      obtain ⟨nm, bs, mro, ns, qn, hd, sn, sub, ab, col, del⟩ := cd
      dsimp only at hm hdel hok hni
      subst hm hdel
      have hsl : sl = #[k0, k1, k2, k3, some (.builtin "ValueError.__new__"), k5] := by
        obtain ⟨l⟩ := sl
        simp only at hs
        rw [hs]
      subst hsl
      exact ⟨ns, nm, qn, bs, hd, sn, sub, ab, col, dd, k0, k1, k2, k3, k5, _, X _ _ ho, .of_isNs (isNs_of_in X hok), qN_of X hok hni, tailN_of X ht⟩
    · cases q
  · cases q
noncomputable def exRow (K : Frag) (tab : List (Str × List Str × Addr)) (t : Str × List Str × Addr) : Bool := match clsIn K t.2.2 with
  | some bm => nsIn K mainGlobals t.1 == some (some (.ref t.2.2)) && (tab.all fun u => (Value.ref t.2.2 :: bm).contains (.ref u.2.2) == t.2.1.contains u.1) && t.2.1.contains ("ValueError" : Str)
  | none => false
noncomputable def exOk (K : Frag) (tab : List (Str × List Str × Addr)) : Bool := tab.all (exRow K tab)
noncomputable def exOf (tab : List (Str × List Str × Addr)) : List (Str × List Str) := tab.map fun t => (t.1, t.2.1)
noncomputable def clsG (G : List (Str × V)) (ex : List (Str × List Str)) : Bool := G.all fun p => match p.2 with
  | .cls z ups => ex.any fun e => e.1 == z && e.2 == ups
  | _ => true
theorem exs_of {D : Wd} {K : Frag} {tab : List (Str × List Str × Addr)} (X : K.In D.hB) (g : D.hB.Ns mainGlobals D.mg) (he : D.ex = exOf tab) (q : exOk K tab = true) : ∀ (x : Str) (ups : List Str), (x, ups) ∈ D.ex → ∃ C, ClsOk D x ups C := by
  have row : ∀ t ∈ tab, ∃ bm, D.mg t.1 = some (.ref t.2.2) ∧ ClsAt D.hB t.2.2 bm ∧ (∀ u ∈ tab, (Value.ref t.2.2 :: bm).contains (.ref u.2.2) = t.2.1.contains u.1) ∧ t.2.1.contains ("ValueError" : Str) = true := fun t ht => by
    have h := List.all_eq_true.mp q t ht
    unfold exRow at h
    split at h
    · rename_i bm hb
      simp only [Bool.and_eq_true, beq_iff_eq, List.all_eq_true] at h
      exact ⟨bm, mg_of X g h.1.1, clsAt_of X hb, h.1.2, h.2⟩
    · cases h
  intro x ups hx
  rw [he] at hx
  first | refine e2_1 (List.mem_map.mp hx) fun t ht e => ?_ | refine e1_2 (List.mem_map.mp hx) fun t ht e => ?_ | refine e0_3 (List.mem_map.mp hx) fun t ht e => ?_ | obtain ⟨t, ht, e⟩ := List.mem_map.mp hx
  cases e
  first | refine e3_2 (row t ht) fun bm h1 h2 h3 h4 => ?_ | refine e2_3 (row t ht) fun bm h1 h2 h3 h4 => ?_ | refine e1_4 (row t ht) fun bm h1 h2 h3 h4 => ?_ | obtain ⟨bm, h1, h2, h3, h4⟩ := row t ht
  refine ⟨t.2.2, bm, h1, h2, fun y ups' Cy hy hmy => ?_, h4⟩
  rw [he] at hy
  first | refine e2_1 (List.mem_map.mp hy) fun u hu e => ?_ | refine e1_2 (List.mem_map.mp hy) fun u hu e => ?_ | refine e0_3 (List.mem_map.mp hy) fun u hu e => ?_ | obtain ⟨u, hu, e⟩ := List.mem_map.mp hy
  cases e
  first | refine e2_1 (row u hu) fun _ g1 _ => ?_ | refine e1_2 (row u hu) fun _ g1 _ => ?_ | refine e0_3 (row u hu) fun _ g1 _ => ?_ | obtain ⟨_, g1, _⟩ := row u hu
  rw [hmy] at g1
  cases g1
  exact h3 u hu
theorem cls_of {G : List (Str × V)} {ex : List (Str × List Str)} (q : clsG G ex = true) : ∀ (x z : Str) (ups : List Str), G.lookup x = some (.cls z ups) → (z, ups) ∈ ex := fun x z ups h => by
  have := List.all_eq_true.mp q (x, .cls z ups) (mem_of_lookup h)
  simp only at this
  first | refine e2_1 (List.any_eq_true.mp this) fun e he h2 => ?_ | refine e1_2 (List.any_eq_true.mp this) fun e he h2 => ?_ | refine e0_3 (List.any_eq_true.mp this) fun e he h2 => ?_ | obtain ⟨e, he, h2⟩ := List.any_eq_true.mp this
  simp only [Bool.and_eq_true, beq_iff_eq] at h2
  obtain ⟨rfl, rfl⟩ := h2
  exact he
theorem gok {D : Wd} {G : List (Str × V)} {p : Program} {loose : List Str} {mean : ExcName → Option Value} {K : Frag} {tab : List (Str × List Str × Addr)} (T : Top p loose mean D.mg D.mb D.hB) (g : GAll D G) (X : K.In D.hB) (he : D.ex = exOf tab) (q : exOk K tab = true) (hc : clsG G (exOf tab) = true) : GOk D G :=
  ⟨T.g, T.b, fun x V h => gall_lookup g x V h, T.nolimit, by rw [he]; exact cls_of hc, exs_of X T.g he q⟩
theorem gv_cls {D : Wd} {x : Str} {ups : List Str} {a : Addr} (h : D.mg x = some (.ref a)) : GVal D x (.cls x ups) :=
  ⟨_, .inl h, fun _ => by simp only [Rep]; exact ⟨a, rfl, h⟩⟩
theorem gv_fn {D : Wd} {x : Str} {a : Addr} (h : D.mg x = some (.ref a)) : GVal D x (.fn x) :=
  ⟨_, .inl h, fun _ => by simp only [Rep]; exact ⟨a, rfl, h⟩⟩
theorem gv_int {D : Wd} {x : Str} {i : Int} {t : Tok} (h : D.mg x = some (.int i t)) : GVal D x (.int i) :=
  ⟨_, .inl h, fun _ => by simp only [Rep]; exact ⟨t, rfl⟩⟩
theorem gv_str {D : Wd} {x s : Str} {t : Tok} (h : D.mg x = some (.str s t)) (f : StrFine s) : GVal D x (.str s) :=
  ⟨_, .inl h, fun _ => by simp only [Rep]; exact ⟨t, rfl, f⟩⟩
theorem gv_tup {D : Wd} {x : Str} {a : Addr} {vs : List Value} {n : Nat} {l : List V} (h : D.mg x = some (.ref a)) (e : D.hB.get? a = some { cls := .type "tuple", data := .seq vs.toArray n }) (hz : vs.length ≤ 2000000) (r : ∀ γ, Reps D γ D.hB vs l) : GVal D x (.tup l) :=
  ⟨_, .inl h, fun γ => by simp only [Rep]; exact ⟨a, vs, rfl, ⟨n, e, hz⟩, r γ⟩⟩
theorem gv_bi {D : Wd} {b : Bi} {x : Str} (h : D.mg x = none) (e : D.mb x = some (.builtin b.name)) : GVal D x (.bi b) :=
  ⟨_, .inr ⟨h, e⟩, fun _ => by simp only [Rep]⟩
theorem gv_ty {D : Wd} {b : Ty} {x : Str} (h : D.mg x = none) (e : D.mb x = some (.type b.name)) : GVal D x (.ty b) :=
  ⟨_, .inr ⟨h, e⟩, fun _ => by simp only [Rep]⟩
theorem reps_int {D : Wd} {γ : List Addr} {h : Heap} {i : Int} {t : Tok} {vs : List Value} {l : List V} (r : Reps D γ h vs l) : Reps D γ h (.int i t :: vs) (.int i :: l) := by
  simp only [Reps]; exact ⟨_, _, rfl, by simp only [Rep]; exact ⟨t, rfl⟩, r⟩
theorem reps_str {D : Wd} {γ : List Addr} {h : Heap} {x : Str} {t : Tok} {vs : List Value} {l : List V} (f : StrFine x) (r : Reps D γ h vs l) : Reps D γ h (.str x t :: vs) (.str x :: l) := by
  simp only [Reps]; exact ⟨_, _, rfl, by simp only [Rep]; exact ⟨t, rfl, f⟩, r⟩
theorem reps_nil {D : Wd} {γ : List Addr} {h : Heap} : Reps D γ h [] [] := by simp only [Reps]

theorem law_top {prog : Program} {w : World} {s₁ : Shared} {mg mb : Str → Option Value} {k : Nat} {Φ : Orc} {c : ClaimW} {cl : Str → Option Addr} {mean : ExcName → Option Value} {fa a : Addr} {vs : List Value} {ns : List Int} {args : List WData} {x : Str} {exs : List (Str × List Str)}
    (hO : OrcOk ⟨prog, w, s₁.heap, mg, mb, exs, []⟩ k Φ) (hA : AOk ⟨prog, w, s₁.heap, mg, mb, exs, []⟩ k callerA) (hx : mg x = some (.ref fa)) (hΦ : Φ x [.scr ns] [] (fun V _ => V = .bool true) (fun _ _ => False))
    (hL : s₁.heap.IsList a vs.toArray) (hI : IntsAre vs ns) (hlen : ns.length ≤ 2000000) (hg : s₁.gens = #[]) (hr : ∀ cls, c.raises args cls = false) (hp : c.post args (.bool true) args = true) :
    wpAny (model prog w) callerA (call (.ref fa) [.ref a]) (fun v s' => GoodWG c cl mean args s₁ (.ok (.ret v)) s') (fun e s' => GoodWG c cl mean args s₁ (.error e) s') s₁ := by
  obtain ⟨h1, h2⟩ := ints_get hI
  have R : HRel ⟨prog, w, s₁.heap, mg, mb, exs, []⟩ [] [] s₁.heap := ⟨rfl, List.nodup_nil, fun i a o e => by simp at e, fun a h => by simp at h, fun _ _ e => e, fun e he => nomatch he⟩
  have rv : Reps ⟨prog, w, s₁.heap, mg, mb, exs, []⟩ [] s₁.heap [.ref a] [.scr ns] := Reps.one (by simp only [Rep]; exact ⟨a, vs, rfl, hL, by omega, h1, h2⟩)
  refine wpAny_mono (hO [] x [.scr ns] [] _ _ hΦ callerA [] s₁ [.ref a] fa hA R rv hx).2 ?_ ?_
  · rintro v s' ⟨γ', V, H', st, R', r, rfl⟩
    simp only [Rep] at r; subst r
    first | refine e2_1 (st.same) fun h' tk e_269 => ?_ | refine e1_2 (st.same) fun h' tk e_269 => ?_ | refine e0_3 (st.same) fun h' tk e_269 => ?_ | obtain ⟨h', tk, e_269⟩ := st.same
    obtain rfl := e_269
    exact GoodW.toG ⟨.inl ⟨_, _, [], rfl, hr, ReadsW.bool true, hp, fun _ => ⟨List.nodup_nil, fun _ hm => (nomatch hm)⟩⟩, fun b o e => R'.base b o e, rfl, hg⟩
  · rintro e s' ⟨γ', H', x, _, _, _, h⟩
    exact h.elim
theorem caller_ok {D : Wd} {k : Nat} (h : k ≤ 500) (hf : D.fr = []) : AOk D k callerA := ⟨by rw [hf]; rfl, rfl, by show 1 + claimMargin + k < 900; unfold claimMargin; omega, by show 4 + 4 * k < 9000; omega, rfl⟩
end Mine

set_option autoImplicit false
/- Numbers and texts. -/
namespace Mine
open PySem PyProof.Rows

noncomputable def numS (i : Int) : Str := Str.ofString (toString i)
noncomputable abbrev chs (x : Str) : List Nat := x.cps.toList
theorem str_ext {x y : Str} (h : chs x = chs y) : x = y := by
  apply Str.ext'
  exact Array.toList_inj.mp h
theorem len_chs (x : Str) : x.length = (chs x).length := by simp [Str.length, chs]
theorem chs_append (x y : Str) : chs (x ++ y) = chs x ++ chs y := by
  show (x.cps ++ y.cps).toList = _
  simp [chs]

noncomputable def digs (m : Nat) : List Nat := (Nat.toDigits 10 m).map Char.toNat
theorem num_pos (m : Nat) : chs (numS (m : Int)) = digs m := PySem.W.KIN.signs_num m
theorem num_neg (m : Nat) : chs (numS (Int.negSucc m)) = 45 :: digs (m + 1) := by
  unfold chs numS
  rw [signs_ofString]
  show (("-" ++ Nat.repr (m + 1)).toList).map Char.toNat = _
  rw [String.toList_append, List.map_append, Nat.toList_repr]
  rfl
theorem digs_are (m : Nat) : ∀ c ∈ digs m, 48 ≤ c ∧ c ≤ 57 := by
  intro c hc
  first | refine e2_1 (List.mem_map.mp hc) fun ch hch e => ?_ | refine e1_2 (List.mem_map.mp hc) fun ch hch e => ?_ | refine e0_3 (List.mem_map.mp hc) fun ch hch e => ?_ | obtain ⟨ch, hch, e⟩ := List.mem_map.mp hc
  have r := digit_range (Nat.isDigit_of_mem_toDigits (by decide) (by decide) hch)
  rw [← e]
  exact r
theorem digs_ne (m : Nat) : digs m ≠ [] := by
  intro e
  have h := toDigits_len_ge 10 m
  rw [List.map_eq_nil_iff.mp e] at h
  exact absurd h (by decide)
theorem digs_len {m k : Nat} (hk : 1 ≤ k) (h : m < 10 ^ k) : (digs m).length ≤ k := by
  unfold digs
  rw [List.length_map]
  exact toDigits_len_pow (by decide) hk h
theorem num_are (i : Int) : ∀ c ∈ chs (numS i), c = 45 ∨ (48 ≤ c ∧ c ≤ 57) := by
  intro c hc
  cases i with
  | ofNat m => rw [show Int.ofNat m = (m : Int) from rfl, num_pos] at hc; exact .inr (digs_are m c hc)
  | negSucc m =>
    rw [num_neg] at hc
    rcases List.mem_cons.mp hc with q | q
    · exact .inl q
    · exact .inr (digs_are _ c q)
theorem num_ne (i : Int) : chs (numS i) ≠ [] := by
  cases i with
  | ofNat m => rw [show Int.ofNat m = (m : Int) from rfl, num_pos]; exact digs_ne m
  | negSucc m => rw [num_neg]; exact List.cons_ne_nil _ _
theorem num_len {i : Int} (h1 : -(10 ^ 12) < i) (h2 : i < 10 ^ 12) : (numS i).length ≤ 13 := by
  rw [len_chs]
  cases i with
  | ofNat m =>
    rw [show Int.ofNat m = (m : Int) from rfl, num_pos]
    exact Nat.le_trans (digs_len (k := 12) (by decide) (by have : (Int.ofNat m) = (m : Int) := rfl; omega)) (by decide)
  | negSucc m =>
    rw [num_neg, List.length_cons]
    have := digs_len (m := m + 1) (k := 12) (by decide) (by omega)
    omega
theorem num_reads {i : Int} (h1 : -(10 ^ 12) < i) (h2 : i < 10 ^ 12) : intText? (numS i) = some i := by
  have hl := num_len h1 h2
  cases i with
  | ofNat m =>
    have hc : chs (numS (Int.ofNat m)) = digs m := num_pos m
    have hd : NumText.AllDigits (chs (numS (Int.ofNat m))) := by rw [hc]; exact digs_are m
    have e := intText_digits hd (by show chs _ ≠ []; rw [hc]; exact digs_ne m) (by omega)
    have hc' : (numS (Int.ofNat m)).cps.toList = (Nat.toDigits 10 m).map Char.toNat := hc
    rw [hc', PySem.W.KIN.val_back] at e
    exact e
  | negSucc m =>
    have hc : (numS (Int.negSucc m)).cps.toList = 45 :: digs (m + 1) := num_neg m
    have e := intText_neg hc (digs_are _) (digs_ne _) (by omega)
    have hv : NumText.digitsVal (digs (m + 1)) = m + 1 := PySem.W.KIN.val_back (m + 1)
    rw [hv] at e
    exact e

/- parts between a sign that none of them has -/
noncomputable abbrev one (c : Nat) : Str := ⟨#[c]⟩
theorem join_cons (s p q : Str) (r : List Str) : Str.join s (p :: q :: r) = p ++ s ++ Str.join s (q :: r) := rfl
theorem cut_eq {c : Nat} : ∀ {p q X Y : List Nat}, c ∉ p → c ∉ q → p ++ c :: X = q ++ c :: Y → p = q ∧ X = Y
  | [], [], X, Y, _, _, h => by simp at h; exact ⟨rfl, h⟩
  | [], b :: q, X, Y, _, hq, h => by simp at h; exact absurd (List.mem_cons.mpr (.inl h.1)) hq
  | a :: p, [], X, Y, hp, _, h => by simp at h; exact absurd (List.mem_cons.mpr (.inl h.1.symm)) hp
  | a :: p, b :: q, X, Y, hp, hq, h => by
    simp only [List.cons_append, List.cons.injEq] at h
    obtain ⟨h1, h2⟩ := cut_eq (fun m => hp (List.mem_cons_of_mem _ m)) (fun m => hq (List.mem_cons_of_mem _ m)) h.2
    exact ⟨by rw [h.1, h1], h2⟩
theorem chs_join (c : Nat) (p q : Str) (r : List Str) : chs (Str.join (one c) (p :: q :: r)) = chs p ++ c :: chs (Str.join (one c) (q :: r)) := by
  rw [join_cons, chs_append, chs_append]
  simp [chs, one]
theorem join_inj {c : Nat} : ∀ {ps qs : List Str}, ps ≠ [] → qs ≠ [] → (∀ p ∈ ps, c ∉ chs p) → (∀ q ∈ qs, c ∉ chs q) → Str.join (one c) ps = Str.join (one c) qs → ps = qs
  | [], _, h, _, _, _, _ => absurd rfl h
  | _, [], _, h, _, _, _ => absurd rfl h
  | [p], [q], _, _, _, _, h => by rw [show p = q from h]
  | [p], q :: q2 :: r, _, _, hp, _, h => by
    have e := congrArg chs (show p = Str.join (one c) (q :: q2 :: r) from h)
    rw [chs_join] at e
    exact absurd (by rw [e]; simp) (hp p (by simp))
  | p :: p2 :: r, [q], _, _, _, hq, h => by
    have e := congrArg chs (show Str.join (one c) (p :: p2 :: r) = q from h)
    rw [chs_join] at e
    exact absurd (by rw [← e]; simp) (hq q (by simp))
  | p :: p2 :: r, q :: q2 :: r', _, _, hp, hq, h => by
    have e := congrArg chs h
    rw [chs_join, chs_join] at e
    obtain ⟨e1, e2⟩ := cut_eq (hp p (by simp)) (hq q (by simp)) e
    have := join_inj (List.cons_ne_nil p2 r) (List.cons_ne_nil q2 r') (fun x hx => hp x (List.mem_cons_of_mem _ hx)) (fun x hx => hq x (List.mem_cons_of_mem _ hx)) (str_ext e2)
    rw [str_ext e1, this]
theorem split_join {c : Nat} {ps : List Str} (hne : ps ≠ []) (hp : ∀ p ∈ ps, c ∉ chs p) : Txt.split (Str.join (one c) ps) (one c) = ps := by
  refine join_inj (c := c) ?_ hne (StrLaws.split_free _ c) hp (StrLaws.join_split _ _)
  intro e
  have := split_pos (Str.join (one c) ps) (one c)
  rw [e] at this
  exact absurd this (by decide)
theorem join_two (s : Str) : ∀ (ps qs : List Str), ps ≠ [] → qs ≠ [] → Str.join s (ps ++ [Str.join s qs]) = Str.join s (ps ++ qs)
  | [], _, h, _ => absurd rfl h
  | _, [], _, h => absurd rfl h
  | [p], q :: qs, _, _ => rfl
  | p :: p2 :: r, q :: qs, _, h => by
    have := join_two s (p2 :: r) (q :: qs) (List.cons_ne_nil _ _) h
    simp only [List.cons_append] at this ⊢
    rw [join_cons, join_cons, this]
theorem join_chars {s : Str} {P : Nat → Prop} (hs : ∀ c ∈ chs s, P c) : ∀ (ps : List Str), (∀ p ∈ ps, ∀ c ∈ chs p, P c) → ∀ c ∈ chs (Str.join s ps), P c
  | [], _, c, hc => by simp [Str.join, chs, Str.empty] at hc
  | [p], h, c, hc => h p (by simp) c hc
  | p :: q :: r, h, c, hc => by
    rw [join_cons, chs_append, chs_append] at hc
    rcases List.mem_append.mp hc with hc | hc
    · rcases List.mem_append.mp hc with hc | hc
      · exact h p (by simp) c hc
      · exact hs c hc
    · exact join_chars hs (q :: r) (fun x hx => h x (List.mem_cons_of_mem _ hx)) c hc
theorem join_len (s : Str) (B : Nat) (ps : List Str) (h : ∀ p ∈ ps, p.length ≤ B) : (ps.map (·.length)).sum + ps.length * s.length ≤ ps.length * (B + s.length) := by
  have := StrLaws.sumLen_le ps h
  rw [Nat.mul_add]; omega
end Mine

set_option autoImplicit false
namespace Mine
open PySem

noncomputable def f_is_whole : Fn := { names := 4, params := 1, body := [
  (.ret (.and (.call (.bi .isinstance) [(.loc 0), (.lit (.ty .int))]) (.not (.call (.bi .isinstance) [(.loc 0), (.lit (.ty .bool))]))))] }

noncomputable def f_is_between : Fn := { names := 6, params := 3, body := [
  (.ret (.and (.call (.fn "is_whole") [(.loc 0)]) (.cmp2 (.loc 1) .LtE (.loc 0) .LtE (.loc 2))))] }

noncomputable def f_is_time : Fn := { names := 4, params := 1, body := [
  (.ret (.call (.fn "is_between") [(.loc 0), (.lit (.int 0)), (.bin .Sub (.lit (.int 1000000000000)) (.lit (.int 1)))]))] }

noncomputable def f_are_rising : Fn := { names := 8, params := 3, body := [
  (.ite (.or (.not (.call (.bi .isinstance) [(.loc 0), (.lit (.ty .tuple))])) (.not (.cmp2 (.lit (.int 1)) .LtE (.call (.bi .len) [(.loc 0)]) .LtE (.loc 1)))) [(.ret (.lit (.bool false)))] []),
  (.assign 3 (.neg (.lit (.int 1)))),
  (.for 4 .val (.loc 0) [(.ite (.not (.call (.fn "is_between") [(.loc 4), (.bin .Add (.loc 3) (.lit (.int 1))), (.loc 2)])) [(.ret (.lit (.bool false)))] []), (.assign 3 (.loc 4))]),
  (.ret (.lit (.bool true)))] }

noncomputable def f_is_plain : Fn := { names := 5, params := 1, body := [
  (.assign 1 (.sub (.loc 0) (.lit (.int 0)))),
  (.ite (.cmp (.loc 1) .Eq (.lit (.str "once"))) [(.ret (.and (.cmp (.call (.bi .len) [(.loc 0)]) .Eq (.lit (.int 3))) (.and (.call (.fn "is_time") [(.sub (.loc 0) (.lit (.int 1)))]) (.call (.fn "is_between") [(.sub (.loc 0) (.lit (.int 2))), (.lit (.int 1)), (.lit (.int 48))]))))] []),
  (.ite (.cmp (.call (.bi .len) [(.loc 0)]) .NotEq (.lit (.int 4))) [(.ret (.lit (.bool false)))] []),
  (.ite (.cmp (.loc 1) .Eq (.lit (.str "every"))) [(.ret (.and (.call (.fn "is_time") [(.sub (.loc 0) (.lit (.int 1)))]) (.and (.call (.fn "is_between") [(.sub (.loc 0) (.lit (.int 2))), (.lit (.int 1)), (.lit (.int 48))]) (.call (.fn "is_between") [(.sub (.loc 0) (.lit (.int 3))), (.lit (.int 1)), (.lit (.int 1000000))]))))] []),
  (.ite (.or (.not (.call (.fn "is_between") [(.sub (.loc 0) (.lit (.int 2))), (.lit (.int 0)), (.lit (.int 23))])) (.not (.call (.fn "is_between") [(.sub (.loc 0) (.lit (.int 3))), (.lit (.int 1)), (.lit (.int 48))]))) [(.ret (.lit (.bool false)))] []),
  (.ite (.cmp (.loc 1) .Eq (.lit (.str "week"))) [(.ret (.call (.fn "are_rising") [(.sub (.loc 0) (.lit (.int 1))), (.lit (.int 7)), (.lit (.int 6))]))] []),
  (.ret (.and (.cmp (.loc 1) .Eq (.lit (.str "month"))) (.and (.call (.fn "is_between") [(.sub (.loc 0) (.lit (.int 1))), (.neg (.lit (.int 31))), (.lit (.int 31))]) (.cmp (.sub (.loc 0) (.lit (.int 1))) .NotEq (.lit (.int 0))))))] }

noncomputable def f_is_rule : Fn := { names := 5, params := 1, body := [
  (.for 1 .range (.lit (.int 8)) [(.ite (.or (.not (.call (.bi .isinstance) [(.loc 0), (.lit (.ty .tuple))])) (.or (.cmp (.call (.bi .len) [(.loc 0)]) .Eq (.lit (.int 0))) (.not (.call (.bi .isinstance) [(.sub (.loc 0) (.lit (.int 0))), (.lit (.ty .str))])))) [(.ret (.lit (.bool false)))] []), (.ite (.cmp (.sub (.loc 0) (.lit (.int 0))) .NotIn (.lit (.tup [(.str "from"), (.str "until"), (.str "also"), (.str "but")]))) [(.ret (.call (.fn "is_plain") [(.loc 0)]))] []), (.ite (.cmp (.call (.bi .len) [(.loc 0)]) .NotEq (.lit (.int 3))) [(.ret (.lit (.bool false)))] []), (.ite (.and (.cmp (.sub (.loc 0) (.lit (.int 0))) .Eq (.lit (.str "but"))) (.not (.call (.fn "are_rising") [(.sub (.loc 0) (.lit (.int 1))), (.lit (.int 20)), (.bin .Sub (.lit (.int 100000000000)) (.lit (.int 1)))]))) [(.ret (.lit (.bool false)))] []), (.ite (.and (.cmp (.sub (.loc 0) (.lit (.int 0))) .NotEq (.lit (.str "but"))) (.not (.call (.fn "is_time") [(.sub (.loc 0) (.lit (.int 1)))]))) [(.ret (.lit (.bool false)))] []), (.assign 0 (.sub (.loc 0) (.lit (.int 2))))]),
  (.ret (.lit (.bool false)))] }

noncomputable def f_shown : Fn := { names := 6, params := 1, body := [
  (.assign 1 (.lst [])),
  (.for 2 .val (.loc 0) [(.ite (.call (.bi .isinstance) [(.loc 2), (.lit (.ty .str))]) [(.expr (.meth (.loc 1) .append [(.loc 2)]))] [(.ite (.call (.bi .isinstance) [(.loc 2), (.lit (.ty .int))]) [(.expr (.meth (.loc 1) .append [(.call (.ty .str) [(.loc 2)])]))] [(.ite (.call (.bi .isinstance) [(.sub (.loc 2) (.lit (.int 0))), (.lit (.ty .str))]) [(.expr (.meth (.loc 1) .append [(.call (.fn "shown") [(.loc 2)])]))] [(.expr (.meth (.loc 1) .append [(.strm (.lit (.str ",")) true (.comp (.call (.ty .str) [(.loc 3)]) 3 .val (.loc 2)))]))])])])]),
  (.ret (.strm (.lit (.str " ")) true (.loc 1)))] }

noncomputable def f_number_of : Fn := { names := 6, params := 1, body := [
  (.assign 1 (.loc 0)),
  (.ite (.cmp (.slice (.loc 0) none (some (.lit (.int 1)))) .Eq (.lit (.str "-"))) [(.assign 1 (.slice (.loc 0) (some (.lit (.int 1))) none))] []),
  (.ite (.or (.cmp (.loc 1) .Eq (.lit (.str ""))) (.cmp (.call (.bi .len) [(.loc 1)]) .Gt (.lit (.int 13)))) [(.raise "NoRule" ["NoRule", "HourError", "ValueError"])] []),
  (.for 2 .val (.loc 1) [(.ite (.cmp (.loc 2) .NotIn (.lit (.str "0123456789"))) [(.raise "NoRule" ["NoRule", "HourError", "ValueError"])] [])]),
  (.ret (.call (.ty .int) [(.loc 0)]))] }

noncomputable def f_numbers_of : Fn := { names := 4, params := 1, body := [
  (.ret (.call (.ty .tuple) [(.comp (.call (.fn "number_of") [(.loc 1)]) 1 .val (.strm (.loc 0) false (.lit (.str ","))))]))] }

noncomputable def f_plain_of : Fn := { names := 4, params := 1, body := [
  (.ite (.or (.cmp (.call (.bi .len) [(.loc 0)]) .Lt (.lit (.int 3))) (.cmp (.call (.bi .len) [(.loc 0)]) .Gt (.lit (.int 4)))) [(.raise "NoRule" ["NoRule", "HourError", "ValueError"])] []),
  (.ite (.cmp (.sub (.loc 0) (.lit (.int 0))) .Eq (.lit (.str "week"))) [(.ret (.call (.ty .tuple) [(.bin .Add (.lst [(.sub (.loc 0) (.lit (.int 0))), (.call (.fn "numbers_of") [(.sub (.loc 0) (.lit (.int 1)))])]) (.comp (.call (.fn "number_of") [(.loc 1)]) 1 .val (.slice (.loc 0) (some (.lit (.int 2))) none)))]))] []),
  (.ret (.call (.ty .tuple) [(.bin .Add (.lst [(.sub (.loc 0) (.lit (.int 0)))]) (.comp (.call (.fn "number_of") [(.loc 1)]) 1 .val (.slice (.loc 0) (some (.lit (.int 1))) none)))]))] }

noncomputable def f_rule_of : Fn := { names := 6, params := 2, body := [
  (.ite (.or (.cmp (.call (.bi .len) [(.loc 0)]) .Eq (.lit (.int 0))) (.cmp (.loc 1) .Eq (.lit (.int 0)))) [(.raise "NoRule" ["NoRule", "HourError", "ValueError"])] []),
  (.ite (.cmp (.sub (.loc 0) (.lit (.int 0))) .NotIn (.lit (.tup [(.str "from"), (.str "until"), (.str "also"), (.str "but")]))) [(.ret (.call (.fn "plain_of") [(.loc 0)]))] []),
  (.ite (.cmp (.call (.bi .len) [(.loc 0)]) .Lt (.lit (.int 3))) [(.raise "NoRule" ["NoRule", "HourError", "ValueError"])] []),
  (.assign 2 (.call (.fn "rule_of") [(.slice (.loc 0) (some (.lit (.int 2))) none), (.bin .Sub (.loc 1) (.lit (.int 1)))])),
  (.ite (.cmp (.sub (.loc 0) (.lit (.int 0))) .Eq (.lit (.str "but"))) [(.ret (.tup [(.sub (.loc 0) (.lit (.int 0))), (.call (.fn "numbers_of") [(.sub (.loc 0) (.lit (.int 1)))]), (.loc 2)]))] []),
  (.ret (.tup [(.sub (.loc 0) (.lit (.int 0))), (.call (.fn "number_of") [(.sub (.loc 0) (.lit (.int 1)))]), (.loc 2)]))] }

noncomputable def f_read : Fn := { names := 5, params := 1, body := [
  (.assign 1 (.call (.fn "rule_of") [(.strm (.loc 0) false (.lit (.str " "))), (.lit (.int 8))])),
  (.ite (.or (.not (.call (.fn "is_rule") [(.loc 1)])) (.cmp (.call (.fn "shown") [(.loc 1)]) .NotEq (.loc 0))) [(.raise "NoRule" ["NoRule", "HourError", "ValueError"])] []),
  (.ret (.loc 1))] }

noncomputable def f_l_cell_at : Fn := { names := 5, params := 2, body := [
  (.ite (.cmp (.loc 1) .Lt (.call (.bi .len) [(.loc 0)])) [(.ret (.sub (.loc 0) (.loc 1)))] []),
  (.ret (.lit (.int 0)))] }

noncomputable def f_l_whole : Fn := { names := 4, params := 1, body := [
  (.ret (.and (.call (.bi .isinstance) [(.loc 0), (.lit (.ty .int))]) (.not (.call (.bi .isinstance) [(.loc 0), (.lit (.ty .bool))]))))] }

noncomputable def f_l_weekdays : Fn := { names := 6, params := 1, body := [
  (.assign 1 (.lst [])),
  (.for 2 .range (.lit (.int 7)) [(.ite (.cmp (.bin .Mod (.loc 0) (.lit (.int 2))) .Eq (.lit (.int 1))) [(.expr (.meth (.loc 1) .append [(.loc 2)]))] []), (.assign 0 (.bin .FloorDiv (.loc 0) (.lit (.int 2))))]),
  (.ret (.call (.ty .tuple) [(.loc 1)]))] }

noncomputable def f_l_time : Fn := { names := 4, params := 1, body := [
  (.ret (.sub (.lst [(.bin .Mod (.bin .FloorDiv (.loc 0) (.lit (.int 3))) (.lit (.int 200))), (.bin .Mod (.bin .FloorDiv (.loc 0) (.lit (.int 3))) (.bin .Pow (.lit (.int 10)) (.lit (.int 12)))), (.bin .Sub (.bin .Sub (.bin .Pow (.lit (.int 10)) (.lit (.int 12))) (.lit (.int 1))) (.bin .Mod (.bin .FloorDiv (.loc 0) (.lit (.int 3))) (.lit (.int 3))))]) (.bin .Mod (.loc 0) (.lit (.int 3)))))] }

noncomputable def f_l_wide_plain : Fn := { names := 7, params := 1, body := [
  (.assign 1 (.bin .Mod (.sub (.loc 0) (.lit (.int 0))) (.lit (.int 4)))),
  (.assign 2 (.bin .Add (.lit (.int 1)) (.bin .Mod (.bin .FloorDiv (.sub (.loc 0) (.lit (.int 0))) (.lit (.int 4))) (.lit (.int 48))))),
  (.ite (.cmp (.loc 1) .Eq (.lit (.int 0))) [(.ret (.tup [(.lit (.str "once")), (.call (.fn "_law_time") [(.sub (.loc 0) (.lit (.int 1)))]), (.loc 2)]))] []),
  (.ite (.cmp (.loc 1) .Eq (.lit (.int 1))) [(.ret (.tup [(.lit (.str "every")), (.call (.fn "_law_time") [(.sub (.loc 0) (.lit (.int 1)))]), (.loc 2), (.bin .Add (.lit (.int 1)) (.sub (.lst [(.bin .Mod (.bin .FloorDiv (.sub (.loc 0) (.lit (.int 2))) (.lit (.int 2))) (.lit (.int 30))), (.bin .Mod (.bin .FloorDiv (.sub (.loc 0) (.lit (.int 2))) (.lit (.int 2))) (.bin .Pow (.lit (.int 10)) (.lit (.int 6))))]) (.bin .Mod (.sub (.loc 0) (.lit (.int 2))) (.lit (.int 2)))))]))] []),
  (.ite (.cmp (.loc 1) .Eq (.lit (.int 2))) [(.ret (.tup [(.lit (.str "week")), (.call (.fn "_law_weekdays") [(.bin .Add (.lit (.int 1)) (.bin .Mod (.sub (.loc 0) (.lit (.int 2))) (.lit (.int 127))))]), (.bin .Mod (.sub (.loc 0) (.lit (.int 1))) (.lit (.int 24))), (.loc 2)]))] []),
  (.assign 3 (.bin .Sub (.bin .Mod (.sub (.loc 0) (.lit (.int 2))) (.lit (.int 62))) (.lit (.int 31)))),
  (.ret (.tup [(.lit (.str "month")), (.bin .Add (.loc 3) (.call (.ty .int) [(.cmp (.loc 3) .GtE (.lit (.int 0)))])), (.bin .Mod (.sub (.loc 0) (.lit (.int 1))) (.lit (.int 24))), (.loc 2)]))] }

noncomputable def f_l_wide_head : Fn := { names := 8, params := 2, body := [
  (.assign 2 (.sub (.lst [(.lit (.str "from")), (.lit (.str "until")), (.lit (.str "also")), (.lit (.str "but"))]) (.bin .Mod (.loc 0) (.lit (.int 4))))),
  (.ite (.cmp (.loc 2) .NotEq (.lit (.str "but"))) [(.ret (.tup [(.loc 2), (.call (.fn "_law_time") [(.bin .FloorDiv (.loc 0) (.lit (.int 4)))]), (.loc 1)]))] []),
  (.assign 3 (.bin .Add (.lit (.int 1)) (.bin .Mod (.bin .FloorDiv (.loc 0) (.lit (.int 4))) (.lit (.int 20))))),
  (.assign 4 (.sub (.lst [(.bin .Mod (.bin .FloorDiv (.loc 0) (.lit (.int 80))) (.lit (.int 100))), (.bin .Mod (.bin .FloorDiv (.loc 0) (.lit (.int 80))) (.bin .Sub (.bin .Pow (.lit (.int 10)) (.lit (.int 11))) (.lit (.int 200)))), (.bin .Sub (.bin .Pow (.lit (.int 10)) (.lit (.int 11))) (.bin .Mult (.loc 3) (.lit (.int 3))))]) (.bin .Mod (.bin .FloorDiv (.loc 0) (.lit (.int 7))) (.lit (.int 3))))),
  (.ret (.tup [(.loc 2), (.call (.ty .tuple) [(.comp (.bin .Add (.loc 4) (.bin .Mult (.loc 5) (.bin .Add (.lit (.int 1)) (.bin .Mod (.bin .FloorDiv (.loc 0) (.lit (.int 11))) (.lit (.int 3)))))) 5 .range (.loc 3))]), (.loc 1)]))] }

noncomputable def f_l_bearing : Fn := { names := 3, params := 0, body := [
  (.ret (.lst [(.lit (.str "from")), (.lit (.str "until")), (.lit (.str "also")), (.lit (.str "but"))]))] }

noncomputable def f_l_heads : Fn := { names := 5, params := 1, body := [
  (.assign 1 (.lst [])),
  (.while (.cmp (.sub (.loc 0) (.lit (.int 0))) .In (.call (.fn "_law_bearing") [])) [(.expr (.meth (.loc 1) .append [(.loc 0)])), (.assign 0 (.sub (.loc 0) (.lit (.int 2))))]),
  (.ret (.bin .Add (.loc 1) (.lst [(.loc 0)])))] }

noncomputable def f_l_part : Fn := { names := 4, params := 1, body := [
  (.ite (.call (.bi .isinstance) [(.loc 0), (.lit (.ty .tuple))]) [(.ret (.strm (.lit (.str ",")) true (.comp (.call (.ty .str) [(.loc 1)]) 1 .val (.loc 0))))] []),
  (.ret (.call (.ty .str) [(.loc 0)]))] }

noncomputable def f_l_written : Fn := { names := 7, params := 1, body := [
  (.assign 1 (.lst [])),
  (.for 2 .val (.call (.fn "_law_heads") [(.loc 0)]) [(.assign 3 (.call (.ty .list) [(.loc 2)])), (.ite (.cmp (.sub (.loc 2) (.lit (.int 0))) .In (.call (.fn "_law_bearing") [])) [(.assign 3 (.lst [(.sub (.loc 2) (.lit (.int 0))), (.sub (.loc 2) (.lit (.int 1)))]))] []), (.assign 1 (.bin .Add (.loc 1) (.comp (.call (.fn "_law_part") [(.loc 4)]) 4 .val (.loc 3))))]),
  (.ret (.strm (.lit (.str " ")) true (.loc 1)))] }

noncomputable def f_l_between : Fn := { names := 6, params := 3, body := [
  (.ret (.and (.call (.fn "_law_whole") [(.loc 0)]) (.cmp2 (.loc 1) .LtE (.loc 0) .LtE (.loc 2))))] }

noncomputable def f_l_good_days : Fn := { names := 6, params := 3, body := [
  (.ite (.or (.not (.call (.bi .isinstance) [(.loc 0), (.lit (.ty .tuple))])) (.not (.cmp2 (.lit (.int 1)) .LtE (.call (.bi .len) [(.loc 0)]) .LtE (.loc 2)))) [(.ret (.lit (.bool false)))] []),
  (.ite (.not (.call (.bi .all) [(.comp (.call (.fn "_law_between") [(.loc 3), (.lit (.int 0)), (.bin .Sub (.loc 1) (.lit (.int 1)))]) 3 .val (.loc 0))])) [(.ret (.lit (.bool false)))] []),
  (.ret (.call (.bi .all) [(.zlt [(.loc 0), (.slice (.loc 0) (some (.lit (.int 1))) none)])]))] }

noncomputable def f_l_good_plain : Fn := { names := 6, params := 1, body := [
  (.assign 1 (.slice (.loc 0) (some (.lit (.int 1))) none)),
  (.ite (.cmp (.sub (.loc 0) (.lit (.int 0))) .In (.lst [(.lit (.str "once")), (.lit (.str "every"))])) [(.ite (.cmp (.call (.bi .len) [(.loc 1)]) .NotEq (.sub (.lst [(.lit (.int 2)), (.lit (.int 3))]) (.call (.ty .int) [(.cmp (.sub (.loc 0) (.lit (.int 0))) .Eq (.lit (.str "every")))]))) [(.ret (.lit (.bool false)))] []), (.assign 2 (.ite (.cmp (.call (.bi .len) [(.loc 1)]) .Eq (.lit (.int 3))) (.sub (.loc 1) (.neg (.lit (.int 1)))) (.lit (.int 1)))), (.ite (.or (.not (.call (.fn "_law_between") [(.loc 2), (.lit (.int 1)), (.bin .Pow (.lit (.int 10)) (.lit (.int 6)))])) (.not (.call (.fn "_law_between") [(.sub (.loc 1) (.lit (.int 1))), (.lit (.int 1)), (.lit (.int 48))]))) [(.ret (.lit (.bool false)))] []), (.ret (.call (.fn "_law_between") [(.sub (.loc 1) (.lit (.int 0))), (.lit (.int 0)), (.bin .Sub (.bin .Pow (.lit (.int 10)) (.lit (.int 12))) (.lit (.int 1)))]))] []),
  (.ite (.or (.cmp (.sub (.loc 0) (.lit (.int 0))) .NotIn (.lst [(.lit (.str "week")), (.lit (.str "month"))])) (.cmp (.call (.bi .len) [(.loc 1)]) .NotEq (.lit (.int 3)))) [(.ret (.lit (.bool false)))] []),
  (.ite (.or (.not (.call (.fn "_law_between") [(.sub (.loc 1) (.lit (.int 1))), (.lit (.int 0)), (.lit (.int 23))])) (.not (.call (.fn "_law_between") [(.sub (.loc 1) (.lit (.int 2))), (.lit (.int 1)), (.lit (.int 48))]))) [(.ret (.lit (.bool false)))] []),
  (.ite (.cmp (.sub (.loc 0) (.lit (.int 0))) .Eq (.lit (.str "week"))) [(.ret (.call (.fn "_law_good_days") [(.sub (.loc 1) (.lit (.int 0))), (.lit (.int 7)), (.lit (.int 7))]))] []),
  (.ret (.or (.call (.fn "_law_between") [(.sub (.loc 1) (.lit (.int 0))), (.lit (.int 1)), (.lit (.int 31))]) (.call (.fn "_law_between") [(.sub (.loc 1) (.lit (.int 0))), (.neg (.lit (.int 31))), (.neg (.lit (.int 1)))])))] }

noncomputable def f_l_good : Fn := { names := 5, params := 1, body := [
  (.assign 1 (.lit (.int 1))),
  (.while (.and (.call (.bi .isinstance) [(.loc 0), (.lit (.ty .tuple))]) (.and (.cmp (.call (.bi .len) [(.loc 0)]) .Eq (.lit (.int 3))) (.cmp (.sub (.loc 0) (.lit (.int 0))) .In (.lst [(.lit (.str "from")), (.lit (.str "until")), (.lit (.str "also")), (.lit (.str "but"))])))) [(.ite (.and (.cmp (.sub (.loc 0) (.lit (.int 0))) .Eq (.lit (.str "but"))) (.not (.call (.fn "_law_good_days") [(.sub (.loc 0) (.lit (.int 1))), (.bin .Pow (.lit (.int 10)) (.lit (.int 11))), (.lit (.int 20))]))) [(.ret (.lit (.bool false)))] []), (.ite (.and (.cmp (.sub (.loc 0) (.lit (.int 0))) .NotEq (.lit (.str "but"))) (.not (.call (.fn "_law_between") [(.sub (.loc 0) (.lit (.int 1))), (.lit (.int 0)), (.bin .Sub (.bin .Pow (.lit (.int 10)) (.lit (.int 12))) (.lit (.int 1)))]))) [(.ret (.lit (.bool false)))] []), (.assign 0 (.sub (.loc 0) (.lit (.int 2)))), (.assign 1 (.bin .Add (.loc 1) (.lit (.int 1))))]),
  (.ret (.and (.cmp (.loc 1) .LtE (.lit (.int 8))) (.and (.call (.bi .isinstance) [(.loc 0), (.lit (.ty .tuple))]) (.and (.cmp (.call (.bi .len) [(.loc 0)]) .Gt (.lit (.int 0))) (.call (.fn "_law_good_plain") [(.loc 0)])))))] }

noncomputable def f_l_sign_by : Fn := { names := 5, params := 1, body := [
  (.assign 1 (.lit (.str " !\"#$&'()*+,-./0123456789:;<=>?@ABCDEFGHIJKLMNOPQRSTUVWXYZ[\\]^_`"))),
  (.assign 1 (.bin .Add (.loc 1) (.lit (.str "abcdefghijklmnopqrstuvwxyz{|}~")))),
  (.ite (.cmp (.bin .Mod (.loc 0) (.lit (.int 3))) .Eq (.lit (.int 0))) [(.ret (.sub (.lit (.str "0123456789,- ")) (.bin .Mod (.bin .FloorDiv (.loc 0) (.lit (.int 3))) (.lit (.int 13)))))] []),
  (.ret (.sub (.loc 1) (.bin .Mod (.bin .FloorDiv (.loc 0) (.lit (.int 3))) (.lit (.int 94)))))] }

noncomputable def f_l_odd_line : Fn := { names := 5, params := 1, body := [
  (.assign 1 (.lst [(.lit (.str "")), (.lit (.str " ")), (.lit (.str "once")), (.lit (.str "once 5")), (.lit (.str "once 5 2 ")), (.lit (.str " once 5 2")), (.lit (.str "once  5 2")), (.lit (.str "once 05 2")), (.lit (.str "once 5 02")), (.lit (.str "once +5 2"))])),
  (.assign 1 (.bin .Add (.loc 1) (.lst [(.lit (.str "month -0 9 8")), (.lit (.str "month 0 9 8")), (.lit (.str "month -1 9 8")), (.lit (.str "week 0,,1 9 8")), (.lit (.str "week , 9 8"))]))),
  (.assign 1 (.bin .Add (.loc 1) (.lst [(.lit (.str "week 1, 9 8")), (.lit (.str "week 6 9 8")), (.lit (.str "Once 5 2")), (.lit (.str "but 3 once 5 2")), (.lit (.str "but -3 once 5 2"))]))),
  (.assign 1 (.bin .Add (.loc 1) (.lst [(.lit (.str "from 5 2")), (.lit (.str "from 5")), (.lit (.str "once 5 --2")), (.lit (.str "every 5 2 24 1"))]))),
  (.ret (.sub (.loc 1) (.bin .Mod (.loc 0) (.lit (.int 24)))))] }

noncomputable def f_l_number : Fn := { names := 5, params := 1, body := [
  (.assign 1 (.loc 0)),
  (.ite (.cmp (.slice (.loc 0) none (some (.lit (.int 1)))) .Eq (.lit (.str "-"))) [(.assign 1 (.slice (.loc 0) (some (.lit (.int 1))) none))] []),
  (.ite (.or (.cmp (.loc 1) .Eq (.lit (.str ""))) (.or (.cmp (.call (.bi .len) [(.loc 1)]) .Gt (.lit (.int 40))) (.not (.call (.bi .all) [(.comp (.cmp (.loc 2) .In (.lit (.str "0123456789"))) 2 .val (.loc 1))])))) [(.ret (.lit .none))] []),
  (.ite (.and (.cmp (.sub (.loc 1) (.lit (.int 0))) .Eq (.lit (.str "0"))) (.cmp (.loc 0) .NotEq (.lit (.str "0")))) [(.ret (.lit .none))] []),
  (.ret (.bin .Mult (.call (.ty .int) [(.loc 1)]) (.bin .Sub (.lit (.int 1)) (.bin .Mult (.lit (.int 2)) (.call (.ty .int) [(.cmp (.loc 1) .NotEq (.loc 0))])))))] }

noncomputable def f_l_meant : Fn := { names := 5, params := 1, body := [
  (.ite (.and (.cmp (.call (.bi .len) [(.loc 0)]) .Gt (.lit (.int 2))) (.and (.cmp (.sub (.loc 0) (.lit (.int 0))) .In (.call (.fn "_law_bearing") [])) (.cmp (.sub (.loc 0) (.lit (.int 0))) .NotEq (.lit (.str "but"))))) [(.ret (.lst [(.sub (.loc 0) (.lit (.int 0))), (.call (.fn "_law_number") [(.sub (.loc 0) (.lit (.int 1)))])]))] []),
  (.ite (.and (.cmp (.call (.bi .len) [(.loc 0)]) .Gt (.lit (.int 2))) (.cmp (.sub (.loc 0) (.lit (.int 0))) .Eq (.lit (.str "but")))) [(.ret (.lst [(.sub (.loc 0) (.lit (.int 0))), (.call (.ty .tuple) [(.comp (.call (.fn "_law_number") [(.loc 2)]) 2 .val (.strm (.sub (.loc 0) (.lit (.int 1))) false (.lit (.str ","))))])]))] []),
  (.assign 1 (.comp (.call (.fn "_law_number") [(.loc 2)]) 2 .val (.slice (.loc 0) (some (.lit (.int 1))) none))),
  (.ite (.and (.cmp (.sub (.loc 0) (.lit (.int 0))) .Eq (.lit (.str "week"))) (.cmp (.call (.bi .len) [(.loc 0)]) .Gt (.lit (.int 1)))) [(.setItem (.loc 1) (.lit (.int 0)) (.call (.ty .tuple) [(.comp (.call (.fn "_law_number") [(.loc 2)]) 2 .val (.strm (.sub (.loc 0) (.lit (.int 1))) false (.lit (.str ","))))]))] []),
  (.ret (.bin .Add (.lst [(.sub (.loc 0) (.lit (.int 0)))]) (.loc 1)))] }

noncomputable def f_l_rule_of : Fn := { names := 8, params := 1, body := [
  (.assign 1 (.strm (.loc 0) false (.lit (.str " ")))),
  (.assign 2 (.lst [])),
  (.while (.and (.cmp (.call (.bi .len) [(.loc 1)]) .Gt (.lit (.int 2))) (.cmp (.sub (.loc 1) (.lit (.int 0))) .In (.call (.fn "_law_bearing") []))) [(.expr (.meth (.loc 2) .append [(.call (.fn "_law_meant") [(.loc 1)])])), (.assign 1 (.slice (.loc 1) (some (.lit (.int 2))) none))]),
  (.assign 3 (.call (.ty .tuple) [(.call (.fn "_law_meant") [(.loc 1)])])),
  (.for 4 .rev (.loc 2) [(.assign 3 (.call (.ty .tuple) [(.bin .Add (.loc 4) (.lst [(.loc 3)]))]))]),
  (.ret (.loc 3))] }

noncomputable def f_l_refused : Fn := { names := 6, params := 2, body := [
  (.tryR [(.expr (.call (.fn "read") [(.loc 0)]))] "NoRule" (some 2) (.or (.cmp (.bin .Mod (.loc 1) (.lit (.int 2))) .Eq (.lit (.int 0))) (.excIs "ValueError"))),
  (.ret (.lit (.bool false)))] }

noncomputable def f_l_refused_by_any : Fn := { names := 4, params := 1, body := [
  (.tryR [(.expr (.call (.fn "read") [(.loc 0)]))] "HourError" none (.lit (.bool true))),
  (.ret (.lit (.bool false)))] }

noncomputable def f_l_line : Fn := { names := 10, params := 3, body := [
  (.assign 4 (.call (.fn "_law_wide_plain") [(.comp (.call (.fn "_law_cell_at") [(.loc 0), (.loc 7)]) 7 .range (.lit (.int 3)))])),
  (.for 3 .range (.bin .Mod (.call (.fn "_law_cell_at") [(.loc 0), (.lit (.int 3))]) (.lit (.int 9))) [(.assign 4 (.call (.fn "_law_wide_head") [(.call (.fn "_law_cell_at") [(.loc 0), (.bin .Add (.lit (.int 7)) (.loc 3))]), (.loc 4)]))]),
  (.assign 5 (.call (.fn "_law_written") [(.loc 4)])),
  (.assign 6 (.bin .Mod (.loc 2) (.call (.bi .len) [(.loc 5)]))),
  (.ite (.cmp (.loc 1) .Eq (.lit (.int 1))) [(.ret (.bin .Add (.bin .Add (.slice (.loc 5) none (some (.loc 6))) (.call (.fn "_law_sign_by") [(.call (.fn "_law_cell_at") [(.loc 0), (.lit (.int 6))])])) (.slice (.loc 5) (some (.loc 6)) none)))] []),
  (.ite (.cmp (.loc 1) .Eq (.lit (.int 2))) [(.ret (.bin .Add (.bin .Add (.slice (.loc 5) none (some (.loc 6))) (.call (.fn "_law_sign_by") [(.call (.fn "_law_cell_at") [(.loc 0), (.lit (.int 6))])])) (.slice (.loc 5) (some (.bin .Add (.loc 6) (.lit (.int 1)))) none)))] []),
  (.ite (.cmp (.loc 1) .Eq (.lit (.int 3))) [(.ret (.bin .Add (.slice (.loc 5) none (some (.loc 6))) (.slice (.loc 5) (some (.bin .Add (.loc 6) (.lit (.int 1)))) none)))] []),
  (.ite (.cmp (.loc 1) .Eq (.lit (.int 4))) [(.ret (.call (.fn "_law_odd_line") [(.loc 2)]))] []),
  (.ret (.loc 5))] }

noncomputable def f_lawF : Fn := { names := 8, params := 1, body := [
  (.assign 1 (.bin .Mod (.call (.fn "_law_cell_at") [(.loc 0), (.lit (.int 4))]) (.lit (.int 6)))),
  (.assign 2 (.call (.fn "_law_line") [(.loc 0), (.loc 1), (.call (.fn "_law_cell_at") [(.loc 0), (.lit (.int 5))])])),
  (.assign 3 (.call (.fn "_law_rule_of") [(.loc 2)])),
  (.ite (.not (.call (.fn "_law_good") [(.loc 3)])) [(.ret (.and (.call (.fn "_law_refused") [(.loc 2), (.call (.fn "_law_cell_at") [(.loc 0), (.lit (.int 4))])]) (.call (.fn "_law_refused_by_any") [(.loc 2)])))] []),
  (.assign 4 (.call (.fn "read") [(.loc 2)])),
  (.ret (.and (.call (.bi .isinstance) [(.loc 4), (.lit (.ty .tuple))]) (.cmp (.call (.bi .repr) [(.loc 4)]) .Eq (.call (.bi .repr) [(.loc 3)]))))] }
end Mine

set_option autoImplicit false
set_option linter.unusedSimpArgs false
set_option maxRecDepth 20000
/- Law 07: words. -/
namespace Mine
open PySem

theorem sw_once_once : ((Str.ofString "once") == (Str.ofString "once")) = true := by decide
theorem sw_once_every : ((Str.ofString "once") == (Str.ofString "every")) = false := by decide
theorem sw_once_week : ((Str.ofString "once") == (Str.ofString "week")) = false := by decide
theorem sw_once_month : ((Str.ofString "once") == (Str.ofString "month")) = false := by decide
theorem sw_once_from : ((Str.ofString "once") == (Str.ofString "from")) = false := by decide
theorem sw_once_until : ((Str.ofString "once") == (Str.ofString "until")) = false := by decide
theorem sw_once_also : ((Str.ofString "once") == (Str.ofString "also")) = false := by decide
theorem sw_once_but : ((Str.ofString "once") == (Str.ofString "but")) = false := by decide
theorem sw_every_once : ((Str.ofString "every") == (Str.ofString "once")) = false := by decide
theorem sw_every_every : ((Str.ofString "every") == (Str.ofString "every")) = true := by decide
theorem sw_every_week : ((Str.ofString "every") == (Str.ofString "week")) = false := by decide
theorem sw_every_month : ((Str.ofString "every") == (Str.ofString "month")) = false := by decide
theorem sw_every_from : ((Str.ofString "every") == (Str.ofString "from")) = false := by decide
theorem sw_every_until : ((Str.ofString "every") == (Str.ofString "until")) = false := by decide
theorem sw_every_also : ((Str.ofString "every") == (Str.ofString "also")) = false := by decide
theorem sw_every_but : ((Str.ofString "every") == (Str.ofString "but")) = false := by decide
theorem sw_week_once : ((Str.ofString "week") == (Str.ofString "once")) = false := by decide
theorem sw_week_every : ((Str.ofString "week") == (Str.ofString "every")) = false := by decide
theorem sw_week_week : ((Str.ofString "week") == (Str.ofString "week")) = true := by decide
theorem sw_week_month : ((Str.ofString "week") == (Str.ofString "month")) = false := by decide
theorem sw_week_from : ((Str.ofString "week") == (Str.ofString "from")) = false := by decide
theorem sw_week_until : ((Str.ofString "week") == (Str.ofString "until")) = false := by decide
theorem sw_week_also : ((Str.ofString "week") == (Str.ofString "also")) = false := by decide
theorem sw_week_but : ((Str.ofString "week") == (Str.ofString "but")) = false := by decide
theorem sw_month_once : ((Str.ofString "month") == (Str.ofString "once")) = false := by decide
theorem sw_month_every : ((Str.ofString "month") == (Str.ofString "every")) = false := by decide
theorem sw_month_week : ((Str.ofString "month") == (Str.ofString "week")) = false := by decide
theorem sw_month_month : ((Str.ofString "month") == (Str.ofString "month")) = true := by decide
theorem sw_month_from : ((Str.ofString "month") == (Str.ofString "from")) = false := by decide
theorem sw_month_until : ((Str.ofString "month") == (Str.ofString "until")) = false := by decide
theorem sw_month_also : ((Str.ofString "month") == (Str.ofString "also")) = false := by decide
theorem sw_month_but : ((Str.ofString "month") == (Str.ofString "but")) = false := by decide
theorem sw_from_once : ((Str.ofString "from") == (Str.ofString "once")) = false := by decide
theorem sw_from_every : ((Str.ofString "from") == (Str.ofString "every")) = false := by decide
theorem sw_from_week : ((Str.ofString "from") == (Str.ofString "week")) = false := by decide
theorem sw_from_month : ((Str.ofString "from") == (Str.ofString "month")) = false := by decide
theorem sw_from_from : ((Str.ofString "from") == (Str.ofString "from")) = true := by decide
theorem sw_from_until : ((Str.ofString "from") == (Str.ofString "until")) = false := by decide
theorem sw_from_also : ((Str.ofString "from") == (Str.ofString "also")) = false := by decide
theorem sw_from_but : ((Str.ofString "from") == (Str.ofString "but")) = false := by decide
theorem sw_until_once : ((Str.ofString "until") == (Str.ofString "once")) = false := by decide
theorem sw_until_every : ((Str.ofString "until") == (Str.ofString "every")) = false := by decide
theorem sw_until_week : ((Str.ofString "until") == (Str.ofString "week")) = false := by decide
theorem sw_until_month : ((Str.ofString "until") == (Str.ofString "month")) = false := by decide
theorem sw_until_from : ((Str.ofString "until") == (Str.ofString "from")) = false := by decide
theorem sw_until_until : ((Str.ofString "until") == (Str.ofString "until")) = true := by decide
theorem sw_until_also : ((Str.ofString "until") == (Str.ofString "also")) = false := by decide
theorem sw_until_but : ((Str.ofString "until") == (Str.ofString "but")) = false := by decide
theorem sw_also_once : ((Str.ofString "also") == (Str.ofString "once")) = false := by decide
theorem sw_also_every : ((Str.ofString "also") == (Str.ofString "every")) = false := by decide
theorem sw_also_week : ((Str.ofString "also") == (Str.ofString "week")) = false := by decide
theorem sw_also_month : ((Str.ofString "also") == (Str.ofString "month")) = false := by decide
theorem sw_also_from : ((Str.ofString "also") == (Str.ofString "from")) = false := by decide
theorem sw_also_until : ((Str.ofString "also") == (Str.ofString "until")) = false := by decide
theorem sw_also_also : ((Str.ofString "also") == (Str.ofString "also")) = true := by decide
theorem sw_also_but : ((Str.ofString "also") == (Str.ofString "but")) = false := by decide
theorem sw_but_once : ((Str.ofString "but") == (Str.ofString "once")) = false := by decide
theorem sw_but_every : ((Str.ofString "but") == (Str.ofString "every")) = false := by decide
theorem sw_but_week : ((Str.ofString "but") == (Str.ofString "week")) = false := by decide
theorem sw_but_month : ((Str.ofString "but") == (Str.ofString "month")) = false := by decide
theorem sw_but_from : ((Str.ofString "but") == (Str.ofString "from")) = false := by decide
theorem sw_but_until : ((Str.ofString "but") == (Str.ofString "until")) = false := by decide
theorem sw_but_also : ((Str.ofString "but") == (Str.ofString "also")) = false := by decide
theorem sw_but_but : ((Str.ofString "but") == (Str.ofString "but")) = true := by decide
theorem listAt_set {H : Hp} {n : Nat} {l m : List V} (h : listAt H n = some l) : listAt (H.set n (.list m)) n = some m := by
  unfold listAt at h ⊢
  split at h
  · rename_i xs e
    have hlt := (List.getElem?_eq_some_iff.mp e).1
    rw [List.getElem?_set_self hlt]
  · cases h
theorem pre_set {H H' : Hp} {n : Nat} {o : O} (p : H <+: H') (hn : H.length ≤ n) : H <+: H'.set n o := by
  obtain ⟨Δ, rfl⟩ := p
  rw [List.set_append_right _ _ hn]
  exact List.prefix_append _ _
theorem isi_int_int {H : Hp} {x : Int} : isInstH H (.int x) .int = some true := rfl
theorem isi_int_bool {H : Hp} {x : Int} : isInstH H (.int x) .bool = some false := rfl
theorem isi_tup_tup {H : Hp} {l : List V} : isInstH H (.tup l) .tuple = some true := rfl
theorem isi_tup_str {H : Hp} {l : List V} : isInstH H (.tup l) .str = some false := rfl
theorem isi_tup_int {H : Hp} {l : List V} : isInstH H (.tup l) .int = some false := rfl
theorem isi_int_str {H : Hp} {x : Int} : isInstH H (.int x) .str = some false := rfl
theorem isi_int_tup {H : Hp} {x : Int} : isInstH H (.int x) .tuple = some false := rfl
theorem isi_str_str {H : Hp} {x : Str} : isInstH H (.str x) .str = some true := rfl
theorem isi_str_tup {H : Hp} {x : Str} : isInstH H (.str x) .tuple = some false := rfl

end Mine

set_option autoImplicit false
set_option linter.unusedSimpArgs false
set_option maxRecDepth 20000
/- Law 07: what the program and the law say of a thing. -/
namespace Mine
open PySem
noncomputable abbrev Ctr := List V → Hp → (V → Hp → Prop) → XL → Prop

noncomputable def al (H : Hp) (v : V) : Prop := match v with
  | .none => True
  | .bool _ => True
  | .int _ => True
  | .str _ => True
  | .tup _ => True
  | .ref i => ∃ l, listAt H i = some l
  | _ => False
noncomputable def intLike : V → Bool
  | .int _ => true
  | .bool _ => true
  | _ => false
noncomputable def boolLike : V → Bool
  | .bool _ => true
  | _ => false
noncomputable def tupLike : V → Bool
  | .tup _ => true
  | _ => false
noncomputable def strLike : V → Bool
  | .str _ => true
  | _ => false
theorem isi_of {H : Hp} {v : V} (h : al H v) : isInstH H v .int = some (intLike v) ∧ isInstH H v .bool = some (boolLike v) ∧ isInstH H v .tuple = some (tupLike v) ∧ isInstH H v .str = some (strLike v) := by
  cases v with
  | none => exact ⟨rfl, rfl, rfl, rfl⟩
  | bool b => exact ⟨rfl, rfl, rfl, rfl⟩
  | int b => exact ⟨rfl, rfl, rfl, rfl⟩
  | str b => exact ⟨rfl, rfl, rfl, rfl⟩
  | tup b => exact ⟨rfl, rfl, rfl, rfl⟩
  | ref i =>
    obtain ⟨l, hl⟩ := h
    have e : ∀ t, (tyOf H (.ref i)).map (fun u => subTy u t) = some (subTy .list t) := fun t => by
      show ((listAt H i).map _).map _ = _
      rw [hl]; rfl
    exact ⟨e _, e _, e _, e _⟩
  | _ => exact h.elim
theorem al_pre {H H' : Hp} {v : V} (p : H <+: H') (h : al H v) : al H' v := by
  cases v with
  | ref i => obtain ⟨l, hl⟩ := h; exact ⟨l, listAt_pre p hl⟩
  | none => trivial
  | bool b => trivial
  | int b => trivial
  | str b => trivial
  | tup b => trivial
  | _ => exact h.elim

noncomputable def whV : V → Bool
  | .int _ => true
  | _ => false
theorem wh_eq (v : V) : (intLike v && !boolLike v) = whV v := by cases v <;> rfl
noncomputable def C_is_whole : Ctr := fun vs H Q _ => ∃ v, vs = [v] ∧ al H v ∧ Q (.bool (whV v)) H
theorem w_is_whole : ∀ vs H Q X, C_is_whole vs H Q X → wpFn noΦ f_is_whole vs H Q X := by
  rintro vs H Q X ⟨v, rfl, hv, q⟩
  refine fn_of rfl ?_
  first | refine e3_1 (isi_of hv) fun h1 h2 _ _ => ?_ | refine e2_2 (isi_of hv) fun h1 h2 _ _ => ?_ | refine e1_3 (isi_of hv) fun h1 h2 _ _ => ?_ | refine e0_4 (isi_of hv) fun h1 h2 _ _ => ?_ | obtain ⟨h1, h2, _, _⟩ := isi_of hv
  rw [← wh_eq] at q
  unfold f_is_whole
  change wpSs noΦ [_] [some v, none, none, none] H _ _
  simp_arith only [h1, h2]
  cases hi : intLike v with
  | true => rw [hi] at q; exact q
  | false => rw [hi] at q; exact q
noncomputable def E1 : Orc := ext "is_whole" C_is_whole noΦ
theorem e1_w : E1 "is_whole" = C_is_whole := rfl
noncomputable def bt (v : V) (lo hi : Int) : Bool := match v with
  | .int i => decide (lo ≤ i) && decide (i ≤ hi)
  | _ => false
noncomputable def C_is_between : Ctr := fun vs H Q _ => ∃ v lo hi, vs = [v, .int lo, .int hi] ∧ al H v ∧ Q (.bool (bt v lo hi)) H
theorem bt_not {v : V} (h : whV v = false) (lo hi : Int) : bt v lo hi = false := by cases v <;> first | rfl | cases h
theorem wh_int {v : V} (h : whV v = true) : ∃ i, v = .int i := by cases v <;> first | exact ⟨_, rfl⟩ | cases h
theorem w_is_between : ∀ vs H Q X, C_is_between vs H Q X → wpFn E1 f_is_between vs H Q X := by
  rintro vs H Q X ⟨v, lo, hi, rfl, hv, q⟩
  refine fn_of rfl ?_
  unfold f_is_between
  change wpSs E1 [_] [some v, some (.int lo), some (.int hi), none, none, none] H _ _
  simp_arith only [↓e1_w]
  refine ⟨v, rfl, hv, ?_⟩
  cases hw : whV v with
  | false => rw [bt_not hw] at q; exact q
  | true =>
    obtain ⟨i, rfl⟩ := wh_int hw
    simp_arith only [X_lit]
    refine ⟨fun h => ?_, fun h => ?_⟩
    · simp only [bt, decide_eq_true h, Bool.true_and] at q; exact q
    · simp only [bt, decide_eq_false h, Bool.false_and] at q; rw [decide_eq_false h]; exact q
noncomputable def E2 : Orc := ext "is_between" C_is_between E1
theorem e2_b : E2 "is_between" = C_is_between := rfl
noncomputable def C_is_time : Ctr := fun vs H Q _ => ∃ v, vs = [v] ∧ al H v ∧ Q (.bool (bt v 0 999999999999)) H
theorem w_is_time : ∀ vs H Q X, C_is_time vs H Q X → wpFn E2 f_is_time vs H Q X := by
  rintro vs H Q X ⟨v, rfl, hv, q⟩
  refine fn_of rfl ?_
  unfold f_is_time
  change wpSs E2 [_] [some v, none, none, none] H _ _
  simp_arith only [↓e2_b]
  exact ⟨v, _, _, rfl, hv, q⟩
noncomputable def E3 : Orc := ext "is_time" C_is_time E2
theorem e3_b : E3 "is_between" = C_is_between := rfl
noncomputable def intOf : V → Int
  | .int i => i
  | _ => 0
noncomputable def risGo (most : Int) : Int → List V → Bool
  | _, [] => true
  | a, v :: r => bt v (a + 1) most && risGo most (intOf v) r
noncomputable def rising (v : V) (many most : Int) : Bool := match v with
  | .tup l => (decide (1 ≤ (l.length : Int)) && decide ((l.length : Int) ≤ many)) && risGo most (-1) l
  | _ => false
/- a thing's parts are alive -/
noncomputable def als (H : Hp) (v : V) : Prop := match v with
  | .tup l => ∀ x ∈ l, al H x
  | _ => True
noncomputable def C_are_rising : Ctr := fun vs H Q _ => ∃ v many most, vs = [v, .int many, .int most] ∧ al H v ∧ als H v ∧ Q (.bool (rising v many most)) H
noncomputable abbrev arB : List IS := [(.ite (.not (.call (.fn "is_between") [(.loc 4), (.bin .Add (.loc 3) (.lit (.int 1))), (.loc 2)])) [(.ret (.lit (.bool false)))] []), (.assign 3 (.loc 4))]
theorem ar_loop {XF : XS} {v0 : V} {many most : Int} {t5 t6 t7 : Option V} {H : Hp} {Q : QS} : ∀ (l : List V) (a : Int) (t4 : Option V), (∀ x ∈ l, al H x) →
    (∀ L', risGo most a l = true → Q .next L' H) → (∀ L', risGo most a l = false → Q (.ret (.bool false)) L' H) →
    forGo (whBX E3 arB XF) (fun _ => True) 4 l [some v0, some (.int many), some (.int most), some (.int a), t4, t5, t6, t7] H Q := by
  intro l
  induction l with
  | nil => intro a t4 _ q _; exact q _ rfl
  | cons v r ih =>
    intro a t4 hal q1 q2
    rw [foX_cons]
    simp_arith only [↓e3_b]
    refine ⟨v, _, _, rfl, hal v List.mem_cons_self, ?_⟩
    simp_arith only [X_lit]
    cases hb : bt v (a + 1) most with
    | false => exact q2 _ (by simp only [risGo, hb, Bool.false_and])
    | true =>
      have hi : ∃ i, v = .int i := by cases v <;> first | exact ⟨_, rfl⟩ | cases hb
      obtain ⟨i, rfl⟩ := hi
      have e : risGo most a (.int i :: r) = risGo most i r := by simp only [risGo, hb, Bool.true_and]; rfl
      rw [e] at q1 q2
      exact ih i _ (fun x hx => hal x (List.mem_cons_of_mem _ hx)) q1 q2
theorem w_are_rising : ∀ vs H Q X, C_are_rising vs H Q X → wpFn E3 f_are_rising vs H Q X := by
  rintro vs H Q X ⟨v, many, most, rfl, hv, hvs, q⟩
  refine fn_of rfl ?_
  first | refine e3_1 (isi_of hv) fun _ _ h3 _ => ?_ | refine e2_2 (isi_of hv) fun _ _ h3 _ => ?_ | refine e1_3 (isi_of hv) fun _ _ h3 _ => ?_ | refine e0_4 (isi_of hv) fun _ _ h3 _ => ?_ | obtain ⟨_, _, h3, _⟩ := isi_of hv
  change wpSs E3 f_are_rising.body [some v, some (.int many), some (.int most), none, none, none, none, none] H _ _
  refine zs_cons ?_
  generalize hK : sqX E3 (_ :: _) = K
  cases ht : tupLike v with
  | false =>
    have e : rising v many most = false := by cases v <;> first | rfl | cases ht
    rw [e] at q
    simp_arith only [h3, ht]
    subst hK; exact q
  | true =>
    have hl : ∃ l, v = .tup l := by cases v <;> first | exact ⟨_, rfl⟩ | cases ht
    obtain ⟨l, rfl⟩ := hl
    simp_arith only [h3, ht]
    have qf : (decide (1 ≤ (l.length : Int)) && decide ((l.length : Int) ≤ many)) = false → Q (.bool false) H := fun h => by simp only [rising, h, Bool.false_and] at q; exact q
    refine ⟨fun h1 => ?_, fun h1 => ?_⟩
    · by_cases h2 : (l.length : Int) ≤ many
      · simp only [decide_eq_true h2, Bool.not_true, iX_f]
        subst hK
        refine zs_cons ?_
        change wpSs E3 (f_are_rising.body.drop 2) [some (.tup l), some (.int many), some (.int most), some (.int (-1)), none, none, none, none] H _ _
        refine zs_cons ?_
        simp only [rising, decide_eq_true h1, decide_eq_true h2, Bool.and_self, Bool.true_and] at q
        refine ar_loop l (-1) _ hvs (fun L' h => ?_) (fun L' h => ?_)
        · rw [h] at q; exact q
        · rw [h] at q; exact q
      · simp only [decide_eq_false h2, Bool.not_false, iX_t]
        subst hK; exact qf (by rw [decide_eq_true h1, decide_eq_false h2]; rfl)
    · simp only [decide_eq_false h1, Bool.not_false, iX_t]
      subst hK; exact qf (by rw [decide_eq_false h1]; rfl)
noncomputable def E4 : Orc := ext "are_rising" C_are_rising E3
end Mine

set_option autoImplicit false
set_option linter.unusedSimpArgs false
set_option maxRecDepth 20000
namespace Mine
open PySem

theorem two_list : ∀ {r : List V}, r.length = 2 → ∃ a b, r = [a, b]
  | [a, b], _ => ⟨a, b, rfl⟩
theorem three_list : ∀ {r : List V}, r.length = 3 → ∃ a b c, r = [a, b, c]
  | [a, b, c], _ => ⟨a, b, c, rfl⟩
theorem e4_t : E4 "is_time" = C_is_time := rfl
theorem e4_b : E4 "is_between" = C_is_between := rfl
theorem e4_r : E4 "are_rising" = C_are_rising := rfl
noncomputable def nz : V → Bool
  | .int i => decide (i ≠ 0)
  | _ => false
noncomputable def isP3 (w : Str) (a b c : V) : Bool :=
  if w == "every" then bt a 0 999999999999 && (bt b 1 48 && bt c 1 1000000)
  else if bt b 0 23 && bt c 1 48 then (if w == "week" then rising a 7 6 else (w == "month") && (bt a (-31) 31 && nz a)) else false
noncomputable def pl2 : List V → Bool
  | [a, b] => bt a 0 999999999999 && bt b 1 48
  | _ => false
noncomputable def pl3 (w : Str) : List V → Bool
  | [a, b, c] => isP3 w a b c
  | _ => false
noncomputable def isPl (w : Str) (r : List V) : Bool := if w == "once" then pl2 r else pl3 w r
noncomputable def C_is_plain : Ctr := fun vs H Q _ => ∃ w r, vs = [.tup (.str w :: r)] ∧ (∀ x ∈ r, al H x ∧ als H x) ∧ Q (.bool (isPl w r)) H
/- and of two answers that calls give -/
theorem not_two : ∀ {r : List V}, r.length ≠ 2 → pl2 r = false
  | [], _ => rfl
  | [_], _ => rfl
  | [_, _], h => absurd rfl h
  | _ :: _ :: _ :: _, _ => rfl
theorem not_three {w : Str} : ∀ {r : List V}, r.length ≠ 3 → pl3 w r = false
  | [], _ => rfl
  | [_], _ => rfl
  | [_, _], _ => rfl
  | [_, _, _], h => absurd rfl h
  | _ :: _ :: _ :: _ :: _, _ => rfl
theorem w_is_plain : ∀ vs H Q X, C_is_plain vs H Q X → wpFn E4 f_is_plain vs H Q X := by
  rintro vs H Q X ⟨w, r, rfl, hr, q⟩
  refine fn_of rfl ?_
  change wpSs E4 f_is_plain.body [some (.tup (.str w :: r)), none, none, none, none] H _ _
  refine zs_cons ?_
  change wpSs E4 (f_is_plain.body.drop 1) [some (.tup (.str w :: r)), some (.str w), none, none, none] H _ _
  unfold isPl at q
  refine zs_cons ?_
  show ifP (w == "once") _ _
  cases ho : w == "once" with
  | true =>
    rw [ho, if_pos rfl] at q
    generalize hK : sqX E4 (_ :: _) = K
    simp_arith only [↓e4_t]
    refine ⟨fun h3 => ?_, fun h3 => ?_⟩
    · first | refine e2_1 (two_list (r := r) (by omega)) fun a b e_270 => ?_ | refine e1_2 (two_list (r := r) (by omega)) fun a b e_270 => ?_ | refine e0_3 (two_list (r := r) (by omega)) fun a b e_270 => ?_ | obtain ⟨a, b, e_270⟩ := two_list (r := r) (by omega)
      obtain rfl := e_270
      replace q : Q (.bool (bt a 0 999999999999 && bt b 1 48)) H := q
      simp_arith only [↓e4_t]
      refine ⟨a, rfl, (hr a (by simp)).1, ?_⟩
      simp_arith only [X_lit]
      cases ha : bt a 0 999999999999 with
      | false => simp only [ha, Bool.false_and] at q; subst hK; exact q
      | true =>
        simp_arith only [↓e4_b]
        refine ⟨b, _, _, rfl, (hr b (by simp)).1, ?_⟩
        simp only [ha, Bool.true_and] at q; subst hK; exact q
    · rw [not_two (by omega)] at q
      subst hK
      rw [decide_eq_false h3]; exact q
  | false =>
    rw [ho, if_neg (by decide)] at q
    refine zs_cons ?_
    generalize hK : sqX E4 (_ :: _) = K
    simp_arith only [X_lit]
    refine ⟨fun h4 => ?_, fun h4 => ?_⟩
    · rw [not_three (by omega)] at q; subst hK; exact q
    · first | refine e3_1 (three_list (r := r) (by omega)) fun a b c e_271 => ?_ | refine e2_2 (three_list (r := r) (by omega)) fun a b c e_271 => ?_ | refine e1_3 (three_list (r := r) (by omega)) fun a b c e_271 => ?_ | refine e0_4 (three_list (r := r) (by omega)) fun a b c e_271 => ?_ | obtain ⟨a, b, c, e_271⟩ := three_list (r := r) (by omega)
      obtain rfl := e_271
      have ha := hr a (by simp)
      have hb := hr b (by simp)
      have hc := hr c (by simp)
      subst hK
      replace q : Q (.bool (isP3 w a b c)) H := q
      unfold isP3 at q
      refine zs_cons ?_
      show ifP (w == "every") _ _
      cases he : w == "every" with
      | true =>
        rw [he, if_pos rfl] at q
        generalize hK : sqX E4 (_ :: _) = K
        simp_arith only [↓e4_t, ↓e4_b]
        refine ⟨a, rfl, ha.1, ?_⟩
        simp_arith only [X_lit]
        cases e1 : bt a 0 999999999999 with
        | false => simp only [e1, Bool.false_and] at q; subst hK; exact q
        | true =>
          simp only [e1, Bool.true_and] at q
          simp_arith only [↓e4_b]
          refine ⟨b, _, _, rfl, hb.1, ?_⟩
          simp_arith only [X_lit]
          cases e2 : bt b 1 48 with
          | false => simp only [e2, Bool.false_and] at q; subst hK; exact q
          | true =>
            simp only [e2, Bool.true_and] at q
            simp_arith only [↓e4_b]
            exact ⟨c, _, _, rfl, hc.1, by subst hK; exact q⟩
      | false =>
        rw [he, if_neg (by decide)] at q
        refine zs_cons ?_
        generalize hK : sqX E4 (_ :: _) = K
        simp_arith only [↓e4_b]
        refine ⟨b, _, _, rfl, hb.1, ?_⟩
        simp_arith only [X_lit]
        cases e1 : bt b 0 23 with
        | false => simp only [e1, Bool.false_and, Bool.false_eq_true, if_false] at q; subst hK; exact q
        | true =>
          simp_arith only [↓e4_b]
          refine ⟨c, _, _, rfl, hc.1, ?_⟩
          simp_arith only [X_lit]
          cases e2 : bt c 1 48 with
          | false => simp only [e1, e2, Bool.and_false, Bool.false_eq_true, if_false] at q; subst hK; exact q
          | true =>
            simp only [e1, e2, Bool.and_self, if_true] at q
            subst hK
            refine zs_cons ?_
            show ifP (w == "week") _ _
            cases ew : w == "week" with
            | true =>
              rw [ew, if_pos rfl] at q
              generalize hK : sqX E4 (_ :: _) = K
              simp_arith only [↓e4_r]
              exact ⟨a, _, _, rfl, ha.1, ha.2, by subst hK; exact q⟩
            | false =>
              rw [ew, if_neg (by decide)] at q
              refine zs_cons ?_
              show ifP (w == "month") _ _
              cases em : w == "month" with
              | false =>
                rw [em] at q
                show Q (.bool (w == Str.ofString "month")) H
                rw [em]; exact q
              | true =>
                rw [em, Bool.true_and] at q
                generalize hK : sqX E4 [] = K
                simp_arith only [↓e4_b]
                refine ⟨a, _, _, rfl, ha.1, ?_⟩
                simp_arith only [X_lit]
                cases e3 : bt a (-31) 31 with
                | false => rw [e3] at q; subst hK; exact q
                | true =>
                  have hi : ∃ i, a = .int i := by cases a <;> first | exact ⟨_, rfl⟩ | cases e3
                  obtain ⟨i, rfl⟩ := hi
                  rw [e3, Bool.true_and] at q
                  simp_arith only [X_lit]
                  subst hK; exact q
noncomputable def E5 : Orc := ext "is_plain" C_is_plain E4
end Mine

set_option autoImplicit false
set_option linter.unusedSimpArgs false
set_option maxRecDepth 20000
namespace Mine
open PySem

mutual
noncomputable def Th (H : Hp) : V → Prop
  | .none => True
  | .bool _ => True
  | .int _ => True
  | .str _ => True
  | .tup l => Ths H l
  | .ref i => ∃ l, listAt H i = some l
  | _ => False
noncomputable def Ths (H : Hp) : List V → Prop
  | [] => True
  | v :: r => Th H v ∧ Ths H r
end
theorem Th.al {H : Hp} : ∀ {v : V}, Th H v → al H v
  | .none, _ => trivial
  | .bool _, _ => trivial
  | .int _, _ => trivial
  | .str _, _ => trivial
  | .tup _, _ => trivial
  | .ref _, h => h
theorem Ths.mem {H : Hp} : ∀ {l : List V}, Ths H l → ∀ x ∈ l, Th H x
  | _ :: _, h, x, hx => by
    rcases List.mem_cons.mp hx with q | q
    · subst q; exact h.1
    · exact Ths.mem h.2 x q
theorem Th.als {H : Hp} {v : V} (h : Th H v) : als H v := by
  cases v with
  | tup l => exact fun x hx => (Ths.mem (l := l) h x hx).al
  | _ => trivial
mutual
theorem Th.pre {H H' : Hp} (p : H <+: H') : ∀ {v : V}, Th H v → Th H' v
  | .none, _ => trivial
  | .bool _, _ => trivial
  | .int _, _ => trivial
  | .str _, _ => trivial
  | .tup l, h => Ths.pre (l := l) p h
  | .ref _, ⟨l, hl⟩ => ⟨l, listAt_pre p hl⟩
theorem Ths.pre {H H' : Hp} (p : H <+: H') : ∀ {l : List V}, Ths H l → Ths H' l
  | [], _ => trivial
  | _ :: _, h => ⟨Th.pre p h.1, Ths.pre p h.2⟩
end

noncomputable def inOut (u : Str) : Bool := ([.str "from", .str "until", .str "also", .str "but"] : List PyData).any fun e => PyData.eqv e (.str u)
theorem mem_out {u : Str} : memV (.str u) [V.str "from", .str "until", .str "also", .str "but"] = some (inOut u) := rfl
noncomputable def hdT2 (u : Str) (a : V) : Bool := if u == "but" then rising a 20 99999999999 else bt a 0 999999999999
noncomputable def isRl : Nat → V → Bool
  | 0, _ => false
  | n + 1, v => match v with
    | .tup (.str u :: r) => if inOut u then (match r with | [a, t] => hdT2 u a && isRl n t | _ => false) else isPl u r
    | _ => false
noncomputable def C_is_rule : Ctr := fun vs H Q _ => ∃ v, vs = [v] ∧ Th H v ∧ Q (.bool (isRl 8 v)) H
theorem e5_t : E5 "is_time" = C_is_time := rfl
theorem e5_r : E5 "are_rising" = C_are_rising := rfl
theorem e5_p : E5 "is_plain" = C_is_plain := rfl
noncomputable abbrev irB : List IS := [(.ite (.or (.not (.call (.bi .isinstance) [(.loc 0), (.lit (.ty .tuple))])) (.or (.cmp (.call (.bi .len) [(.loc 0)]) .Eq (.lit (.int 0))) (.not (.call (.bi .isinstance) [(.sub (.loc 0) (.lit (.int 0))), (.lit (.ty .str))])))) [(.ret (.lit (.bool false)))] []), (.ite (.cmp (.sub (.loc 0) (.lit (.int 0))) .NotIn (.lit (.tup [(.str "from"), (.str "until"), (.str "also"), (.str "but")]))) [(.ret (.call (.fn "is_plain") [(.loc 0)]))] []), (.ite (.cmp (.call (.bi .len) [(.loc 0)]) .NotEq (.lit (.int 3))) [(.ret (.lit (.bool false)))] []), (.ite (.and (.cmp (.sub (.loc 0) (.lit (.int 0))) .Eq (.lit (.str "but"))) (.not (.call (.fn "are_rising") [(.sub (.loc 0) (.lit (.int 1))), (.lit (.int 20)), (.bin .Sub (.lit (.int 100000000000)) (.lit (.int 1)))]))) [(.ret (.lit (.bool false)))] []), (.ite (.and (.cmp (.sub (.loc 0) (.lit (.int 0))) .NotEq (.lit (.str "but"))) (.not (.call (.fn "is_time") [(.sub (.loc 0) (.lit (.int 1)))]))) [(.ret (.lit (.bool false)))] []), (.assign 0 (.sub (.loc 0) (.lit (.int 2))))]
theorem rl_not_two {n : Nat} {u : Str} : ∀ {r : List V}, inOut u = true → r.length ≠ 2 → isRl (n + 1) (.tup (.str u :: r)) = false
  | [], h, _ => by simp only [isRl, h, if_true]
  | [_], h, _ => by simp only [isRl, h, if_true]
  | [_, _], _, h => absurd rfl h
  | _ :: _ :: _ :: _, h, _ => by simp only [isRl, h, if_true]
theorem ir_loop {XF : XS} {t2 t3 t4 : Option V} {H : Hp} {Q : QS} : ∀ (ks : List V) (v : V) (t1 : Option V), Th H v →
    (∀ L' b, isRl ks.length v = b → Q (.ret (.bool b)) L' H) → (∀ L', isRl ks.length v = false → Q .next L' H) →
    forGo (whBX E5 irB XF) (fun _ => True) 1 ks [some v, t1, t2, t3, t4] H Q := by
  intro ks
  induction ks with
  | nil => intro v t1 _ _ hn; exact hn _ rfl
  | cons k ks ih =>
    intro v t1 hv hr hn
    rw [foX_cons]
    show wpSs E5 irB [some v, some k, t2, t3, t4] H _ _
    first | refine e3_1 (isi_of hv.al) fun _ _ h3 _ => ?_ | refine e2_2 (isi_of hv.al) fun _ _ h3 _ => ?_ | refine e1_3 (isi_of hv.al) fun _ _ h3 _ => ?_ | refine e0_4 (isi_of hv.al) fun _ _ h3 _ => ?_ | obtain ⟨_, _, h3, _⟩ := isi_of hv.al
    refine zs_cons ?_
    generalize hK : sqX E5 (_ :: _) = K
    cases ht : tupLike v with
    | false =>
      have e : isRl (k :: ks).length v = false := by cases v <;> first | rfl | cases ht
      simp_arith only [h3, ht]
      subst hK; exact hr _ _ e
    | true =>
      have hl : ∃ l, v = .tup l := by cases v <;> first | exact ⟨_, rfl⟩ | cases ht
      obtain ⟨l, rfl⟩ := hl
      cases l with
      | nil => simp_arith only [h3, ht]; subst hK; exact ⟨fun _ => hr _ _ rfl, fun h => absurd rfl h⟩
      | cons a r =>
        have ha : Th H a := Ths.mem (l := a :: r) hv a List.mem_cons_self
        have hrr : ∀ x ∈ r, Th H x := fun x hx => Ths.mem (l := a :: r) hv x (List.mem_cons_of_mem _ hx)
        first | refine e3_1 (isi_of ha.al) fun _ _ _ h4 => ?_ | refine e2_2 (isi_of ha.al) fun _ _ _ h4 => ?_ | refine e1_3 (isi_of ha.al) fun _ _ _ h4 => ?_ | refine e0_4 (isi_of ha.al) fun _ _ _ h4 => ?_ | obtain ⟨_, _, _, h4⟩ := isi_of ha.al
        simp_arith only [h3, ht]
        refine ⟨fun h => absurd h (by omega), fun _ => ?_⟩
        simp_arith only [h4]
        cases hs : strLike a with
        | false =>
          have e : isRl (k :: ks).length (.tup (a :: r)) = false := by cases a <;> first | rfl | cases hs
          simp_arith only [X_lit]
          subst hK; exact hr _ _ e
        | true =>
          have hu : ∃ u, a = .str u := by cases a <;> first | exact ⟨_, rfl⟩ | cases hs
          obtain ⟨u, rfl⟩ := hu
          simp_arith only [X_lit]
          subst hK
          refine zs_cons ?_
          generalize hK : sqX E5 (_ :: _) = K
          simp_arith only [mem_out, ↓e5_p]
          cases ho : inOut u with
          | false =>
            simp_arith only [↓e5_p]
            refine ⟨u, r, rfl, fun x hx => ⟨(hrr x hx).al, (hrr x hx).als⟩, ?_⟩
            subst hK
            refine hr _ _ ?_
            simp only [List.length_cons, isRl, ho, Bool.false_eq_true, if_false]
          | true =>
            simp_arith only [X_lit]
            subst hK
            refine zs_cons ?_
            generalize hK : sqX E5 (_ :: _) = K
            simp_arith only [X_lit]
            refine ⟨fun h2 => ?_, fun h2 => ?_⟩
            · subst hK; exact hr _ _ (rl_not_two ho (by omega))
            · first | refine e2_1 (two_list (r := r) (by omega)) fun x t e_272 => ?_ | refine e1_2 (two_list (r := r) (by omega)) fun x t e_272 => ?_ | refine e0_3 (two_list (r := r) (by omega)) fun x t e_272 => ?_ | obtain ⟨x, t, e_272⟩ := two_list (r := r) (by omega)
              obtain rfl := e_272
              have hx : Th H x := hrr x (by simp)
              have htt : Th H t := hrr t (by simp)
              have e : isRl (k :: ks).length (.tup [.str u, x, t]) = (hdT2 u x && isRl ks.length t) := by simp only [List.length_cons, isRl, ho, if_true]
              rw [e] at hr hn
              subst hK
              refine zs_cons ?_
              show ifP (u == "but") _ _
              cases hb : u == "but" with
              | true =>
                generalize hK : sqX E5 (_ :: _) = K
                simp_arith only [↓e5_r]
                refine ⟨x, _, _, rfl, hx.al, hx.als, ?_⟩
                have ed : hdT2 u x = rising x 20 99999999999 := by unfold hdT2; rw [hb, if_pos rfl]
                simp_arith only [X_lit]
                cases er : rising x 20 99999999999 with
                | false => subst hK; exact hr _ _ (by rw [ed, er]; rfl)
                | true =>
                  subst hK
                  rw [ed, er, Bool.true_and] at hr hn
                  refine zs_cons ?_
                  show ifP (!(u == "but")) _ _
                  rw [hb]
                  exact ⟨trivial, ih t _ htt hr hn⟩
              | false =>
                have ed : hdT2 u x = bt x 0 999999999999 := by unfold hdT2; rw [hb, if_neg (by decide)]
                refine zs_cons ?_
                show ifP (!(u == "but")) _ _
                rw [hb]
                generalize hK : sqX E5 (_ :: _) = K
                simp_arith only [↓e5_t]
                refine ⟨x, rfl, hx.al, ?_⟩
                simp_arith only [X_lit]
                cases er : bt x 0 999999999999 with
                | false => subst hK; exact hr _ _ (by rw [ed, er]; rfl)
                | true =>
                  subst hK
                  rw [ed, er, Bool.true_and] at hr hn
                  exact ⟨trivial, ih t _ htt hr hn⟩
theorem range8 : (rangeL 0 8).length = 8 := rfl
theorem w_is_rule : ∀ vs H Q X, C_is_rule vs H Q X → wpFn E5 f_is_rule vs H Q X := by
  rintro vs H Q X ⟨v, rfl, hv, q⟩
  refine fn_of rfl ?_
  change wpSs E5 f_is_rule.body [some v, none, none, none, none] H _ _
  refine zs_cons ?_
  generalize hK : sqX E5 (_ :: _) = K
  simp_arith only [X_lit]
  subst hK
  refine ir_loop (rangeL 0 8) v _ hv (fun L' b h => ?_) (fun L' h => ?_)
  · rw [range8] at h; rw [h] at q; exact q
  · rw [range8] at h; rw [h] at q; exact q
noncomputable def E6 : Orc := ext "is_rule" C_is_rule E5
end Mine

set_option autoImplicit false
set_option linter.unusedSimpArgs false
set_option maxRecDepth 20000
namespace Mine
open PySem

theorem w_whole5 {Φ : Orc} : ∀ vs H Q X, C_is_whole vs H Q X → wpFn Φ f_l_whole vs H Q X := by
  rintro vs H Q X ⟨v, rfl, hv, q⟩
  refine fn_of rfl ?_
  first | refine e3_1 (isi_of hv) fun h1 h2 _ _ => ?_ | refine e2_2 (isi_of hv) fun h1 h2 _ _ => ?_ | refine e1_3 (isi_of hv) fun h1 h2 _ _ => ?_ | refine e0_4 (isi_of hv) fun h1 h2 _ _ => ?_ | obtain ⟨h1, h2, _, _⟩ := isi_of hv
  rw [← wh_eq] at q
  unfold f_l_whole
  change wpSs Φ [_] [some v, none, none, none] H _ _
  simp_arith only [h1, h2]
  cases hi : intLike v with
  | true => rw [hi] at q; exact q
  | false => rw [hi] at q; exact q
noncomputable def E7 : Orc := ext "_law_whole" C_is_whole E6
theorem e7_w : E7 "_law_whole" = C_is_whole := rfl
theorem w_between5 : ∀ vs H Q X, C_is_between vs H Q X → wpFn E7 f_l_between vs H Q X := by
  rintro vs H Q X ⟨v, lo, hi, rfl, hv, q⟩
  refine fn_of rfl ?_
  unfold f_l_between
  change wpSs E7 [_] [some v, some (.int lo), some (.int hi), none, none, none] H _ _
  simp_arith only [↓e7_w]
  refine ⟨v, rfl, hv, ?_⟩
  cases hw : whV v with
  | false => rw [bt_not hw] at q; exact q
  | true =>
    obtain ⟨i, rfl⟩ := wh_int hw
    simp_arith only [X_lit]
    refine ⟨fun h => ?_, fun h => ?_⟩
    · simp only [bt, decide_eq_true h, Bool.true_and] at q; exact q
    · simp only [bt, decide_eq_false h, Bool.false_and] at q; rw [decide_eq_false h]; exact q
noncomputable def E8 : Orc := ext "_law_between" C_is_between E7
theorem e8_b : E8 "_law_between" = C_is_between := rfl

noncomputable def prsI : Int → List Int → Bool
  | _, [] => true
  | a, b :: r => decide (a < b) && prsI b r
noncomputable def prs : List Int → Bool
  | [] => true
  | a :: r => prsI a r
noncomputable def goodD (v : V) (below most : Int) : Bool := match v with
  | .tup l => (decide (1 ≤ (l.length : Int)) && decide ((l.length : Int) ≤ most)) && (l.all (fun x => bt x 0 (below - 1)) && prs (l.map intOf))
  | _ => false
theorem ris_eq (most : Int) : ∀ (l : List V) (a : Int), -1 ≤ a → risGo most a l = (l.all (fun x => bt x 0 most) && prsI a (l.map intOf))
  | [], a, _ => rfl
  | v :: r, a, ha => by
    cases hv : whV v with
    | false => simp only [risGo, List.all_cons, bt_not hv, Bool.false_and]
    | true =>
      obtain ⟨i, rfl⟩ := wh_int hv
      show (bt (.int i) (a + 1) most && risGo most i r) = ((bt (.int i) 0 most && r.all _) && (decide (a < i) && prsI i (r.map intOf)))
      by_cases h1 : a + 1 ≤ i
      · have h0 : 0 ≤ i := by omega
        have h2 : a < i := by omega
        rw [ris_eq most r i (by omega)]
        simp only [bt, decide_eq_true h1, decide_eq_true h0, decide_eq_true h2, Bool.true_and]
        cases decide (i ≤ most) <;> simp
      · have h2 : ¬ a < i := by omega
        simp only [bt, decide_eq_false h1, decide_eq_false h2, Bool.false_and, Bool.and_false]
theorem prs_neg : ∀ (l : List V) (most : Int), (l.all fun x => bt x 0 most) = true → prsI (-1) (l.map intOf) = prs (l.map intOf)
  | [], _, _ => rfl
  | v :: r, most, h => by
    rw [List.all_cons, Bool.and_eq_true] at h
    have hi : ∃ i, v = .int i := by cases v <;> first | exact ⟨_, rfl⟩ | exact absurd h.1 (by simp [bt])
    obtain ⟨i, rfl⟩ := hi
    have h0 : 0 ≤ i := by have := h.1; simp only [bt, Bool.and_eq_true, decide_eq_true_eq] at this; exact this.1
    show (decide (-1 < i) && prsI i (r.map intOf)) = prsI i (r.map intOf)
    rw [decide_eq_true (by omega), Bool.true_and]
theorem rising_good (v : V) (many most : Int) : goodD v (most + 1) many = rising v many most := by
  cases v with
  | tup l =>
    show ((_ && _) && ((l.all fun x => bt x 0 (most + 1 - 1)) && _)) = (_ && _)
    have e : most + 1 - 1 = most := by omega
    rw [ris_eq most l (-1) (by omega), e]
    cases h : l.all fun x => bt x 0 most with
    | false => rfl
    | true => rw [prs_neg l most h]
  | _ => rfl

theorem slice_tail : ∀ {l : List V}, l ≠ [] → cutL (.int 1) .none l = some l.tail
  | [], h => absurd rfl h
  | _ :: _, _ => rfl
/- each is between -/
theorem bw_comp {v0 : V} {below most : Int} {t3 t4 t5 : Option V} {X : XL} {H : Hp} {Q : List V → Hp → Prop} : ∀ (l acc : List V), (∀ x ∈ l, al H x) → Q (acc ++ l.map fun x => V.bool (bt x 0 (below - 1))) H →
    compGo (coEX E8 (.call (.fn "_law_between") [(.loc 3), (.lit (.int 0)), (.bin .Sub (.loc 1) (.lit (.int 1)))]) X) (fun _ => True) 3 [some v0, some (.int below), some (.int most), t3, t4, t5] l acc H Q := by
  intro l
  induction l with
  | nil => intro acc _ q; rw [List.map_nil, List.append_nil] at q; exact q
  | cons x l ih =>
    intro acc ha q
    rw [coX_cons]
    simp_arith only [↓e8_b]
    refine ⟨x, _, _, rfl, ha x List.mem_cons_self, ih _ (fun y hy => ha y (List.mem_cons_of_mem _ hy)) ?_⟩
    rw [List.append_assoc]; exact q
theorem all_bools (f : V → Bool) : ∀ l : List V, allBools (l.map fun x => V.bool (f x)) = some (l.map f)
  | [] => rfl
  | k :: r => by
    show (allBools (r.map fun x => V.bool (f x))).map _ = _
    rw [all_bools f r]; rfl
theorem all_map (f : V → Bool) (l : List V) : (l.map f).all id = l.all f := by rw [List.all_map]; rfl
noncomputable def prL : List Int → List Bool
  | [] => []
  | [_] => []
  | a :: b :: r => decide (a < b) :: prL (b :: r)
theorem prL_all : ∀ is : List Int, (prL is).all id = prs is
  | [] => rfl
  | [_] => rfl
  | a :: b :: r => by
    show (decide (a < b) && (prL (b :: r)).all id) = (decide (a < b) && prsI b r)
    rw [prL_all (b :: r)]; rfl
theorem ints_map : ∀ is : List Int, intsOf (is.map V.int) = some is
  | [] => rfl
  | i :: r => by
    show (intsOf (r.map V.int)).map (i :: ·) = _
    rw [ints_map r]; rfl
theorem prL_lt : ∀ is : List Int, ltL is is.tail = prL is
  | [] => rfl
  | [_] => rfl
  | a :: b :: r => congrArg (decide (a < b) :: ·) (prL_lt (b :: r))
noncomputable def C_good_days : Ctr := fun vs H Q _ => ∃ v below most, vs = [v, .int below, .int most] ∧ al H v ∧ als H v ∧ (∀ l, v = .tup l → l.length ≤ 100000) ∧ ∀ H', H <+: H' → Q (.bool (goodD v below most)) H'
theorem all_bool_ints {bs : List Bool} : allBools (bs.map V.bool) = some bs := by
  induction bs with
  | nil => rfl
  | cons b r ih => show (allBools (r.map V.bool)).map _ = _; rw [ih]; rfl
theorem prL_len : ∀ is : List Int, (prL is).length ≤ is.length
  | [] => Nat.le_refl _
  | [_] => Nat.zero_le _
  | a :: b :: r => Nat.succ_le_succ (prL_len (b :: r))
theorem ints_of {below : Int} : ∀ {l : List V}, (l.all fun x => bt x 0 below) = true → l = (l.map intOf).map V.int
  | [], _ => rfl
  | v :: r, h => by
    rw [List.all_cons, Bool.and_eq_true] at h
    have hi : ∃ i, v = .int i := by cases v <;> first | exact ⟨_, rfl⟩ | exact absurd h.1 (by simp [bt])
    obtain ⟨i, rfl⟩ := hi
    rw [List.map_cons, List.map_cons, ← ints_of h.2]; rfl
theorem w_good_days : ∀ vs H Q X, C_good_days vs H Q X → wpFn E8 f_l_good_days vs H Q X := by
  rintro vs H Q X ⟨v, below, most, rfl, hv, hvs, hz, q⟩
  refine fn_of rfl ?_
  have q0 := q H (List.prefix_refl _)
  first | refine e3_1 (isi_of hv) fun _ _ h3 _ => ?_ | refine e2_2 (isi_of hv) fun _ _ h3 _ => ?_ | refine e1_3 (isi_of hv) fun _ _ h3 _ => ?_ | refine e0_4 (isi_of hv) fun _ _ h3 _ => ?_ | obtain ⟨_, _, h3, _⟩ := isi_of hv
  change wpSs E8 f_l_good_days.body [some v, some (.int below), some (.int most), none, none, none] H _ _
  refine zs_cons ?_
  generalize hK : sqX E8 (_ :: _) = K
  cases ht : tupLike v with
  | false =>
    have e : goodD v below most = false := by cases v <;> first | rfl | cases ht
    rw [e] at q0
    simp_arith only [h3, ht]
    subst hK; exact q0
  | true =>
    have hl : ∃ l, v = .tup l := by cases v <;> first | exact ⟨_, rfl⟩ | cases ht
    obtain ⟨l, rfl⟩ := hl
    have hz := hz l rfl
    simp_arith only [h3, ht]
    have qf : (decide (1 ≤ (l.length : Int)) && decide ((l.length : Int) ≤ most)) = false → Q (.bool false) H := fun h => by simp only [goodD, h, Bool.false_and] at q0; exact q0
    refine ⟨fun h1 => ?_, fun h1 => ?_⟩
    · by_cases h2 : (l.length : Int) ≤ most
      · simp only [decide_eq_true h2, Bool.not_true, iX_f]
        have eg : goodD (.tup l) below most = (l.all (fun x => bt x 0 (below - 1)) && prs (l.map intOf)) := by simp only [goodD, decide_eq_true h1, decide_eq_true h2, Bool.and_self, Bool.true_and]
        rw [eg] at q
        subst hK
        refine zs_cons ?_
        generalize hK : sqX E8 (_ :: _) = K
        simp_arith only [X_lit]
        refine bw_comp l [] hvs ?_
        rw [List.nil_append]
        refine ⟨by rw [List.length_map]; omega, ?_⟩
        simp_arith only [listAt_new, all_bools, all_map]
        cases ha : l.all fun x => bt x 0 (below - 1) with
        | false => subst hK; have := q _ (pre_new (o := .list (l.map fun x => V.bool (bt x 0 (below - 1))))); rw [ha] at this; exact this
        | true =>
          subst hK
          have hsl := slice_tail (l := l) fun e => by subst e; exact absurd h1 (by decide)
          have el := ints_of ha
          rw [ha, Bool.true_and] at q
          simp_arith only [hsl]
          have e1 : intsOf l = some (l.map intOf) := by rw [el, ints_map, ← el]
          have e2 : intsOf l.tail = some (l.map intOf).tail := by rw [el, ← List.map_tail, ints_map, ← el]
          simp_arith only [e1, e2, prL_lt, listAt_new, all_bool_ints, prL_all]
          exact q _ (pre_new.trans pre_new)
      · simp only [decide_eq_false h2, Bool.not_false, iX_t]
        subst hK; exact qf (by rw [decide_eq_true h1, decide_eq_false h2]; rfl)
    · simp only [decide_eq_false h1, Bool.not_false, iX_t]
      subst hK; exact qf (by rw [decide_eq_false h1]; rfl)
noncomputable def E9 : Orc := ext "_law_good_days" C_good_days E8
end Mine

set_option autoImplicit false
set_option linter.unusedSimpArgs false
set_option maxRecDepth 20000
namespace Mine
open PySem

theorem e9_b : E9 "_law_between" = C_is_between := rfl
theorem e9_d : E9 "_law_good_days" = C_good_days := rfl
/- a first part that is data -/
noncomputable def Fd (a : V) : Prop := ∃ d, toPy a = some d ∧ d.depth ≤ 60
theorem toPys_strs : ∀ ws : List Str, toPys (ws.map V.str) = some (ws.map PyData.str)
  | [] => rfl
  | w :: r => by
    show (toPys (r.map V.str)).map (PyData.str w :: ·) = _
    rw [toPys_strs r]; rfl
theorem any_ns {d : PyData} (h : ∀ w, PyData.eqv (.str w) d = false) : ∀ ws : List Str, ((ws.map PyData.str).any fun e => PyData.eqv e d) = false
  | [] => rfl
  | w :: r => by rw [List.map_cons, List.any_cons, h, any_ns h r]; rfl
theorem mem_ns {a : V} (h : Fd a) (hn : strLike a = false) (ws : List Str) : memV a (ws.map V.str) = some false := by
  first | refine e2_1 h fun d hd hz => ?_ | refine e1_2 h fun d hd hz => ?_ | refine e0_3 h fun d hd hz => ?_ | obtain ⟨d, hd, hz⟩ := h
  have e3 : ∀ w, PyData.eqv (.str w) d = false := by
    intro w
    cases a with
    | none => cases hd; rfl
    | bool b => cases hd; rfl
    | int b => cases hd; rfl
    | str b => cases hn
    | tup l =>
      simp only [toPy, Option.map_eq_some_iff] at hd
      obtain ⟨ds, _, rfl⟩ := hd; rfl
    | _ => cases hd
  unfold memV
  rw [toPys_strs, hd]
  show (if d.depth ≤ 60 then _ else _) = _
  rw [if_pos hz, any_ns e3]

noncomputable def anyW (ws : List Str) (u : Str) : Bool := (ws.map PyData.str).any fun e => PyData.eqv e (.str u)
theorem mem_w2 {u x y : Str} : memV (.str u) [V.str x, .str y] = some (anyW [x, y] u) := rfl
theorem anyW_two {x y u : Str} : anyW [x, y] u = (x == u || (y == u || false)) := rfl
theorem so1 : (Str.ofString "once" == Str.ofString "every") = false := by decide
theorem so2 : (Str.ofString "every" == Str.ofString "every") = true := by decide
theorem so3 : (Str.ofString "every" == Str.ofString "once") = false := by decide
theorem so4 : (Str.ofString "week" == Str.ofString "once") = false := by decide
theorem so5 : (Str.ofString "week" == Str.ofString "every") = false := by decide
theorem so6 : (Str.ofString "week" == Str.ofString "week") = true := by decide
theorem so7 : (Str.ofString "month" == Str.ofString "once") = false := by decide
theorem so8 : (Str.ofString "month" == Str.ofString "every") = false := by decide
theorem so9 : (Str.ofString "month" == Str.ofString "week") = false := by decide
theorem so0 : (Str.ofString "month" == Str.ofString "month") = true := by decide
theorem month_eq (x : V) : (bt x 1 31 || bt x (-31) (-1)) = (bt x (-31) 31 && nz x) := by
  cases x with
  | int i =>
    simp only [bt, nz]
    rw [Bool.eq_iff_iff]
    simp only [Bool.or_eq_true, Bool.and_eq_true, decide_eq_true_eq]
    omega
  | _ => rfl
noncomputable def goodPl (a : V) (r : List V) : Bool := match a with
  | .str u => isPl u r
  | _ => false
noncomputable def RowOk (H : Hp) (r : List V) : Prop := ∀ x ∈ r, al H x ∧ als H x ∧ ∀ l, x = .tup l → l.length ≤ 100000
theorem RowOk.pre {H H' : Hp} {r : List V} (p : H <+: H') (h : RowOk H r) : RowOk H' r := fun x hx => by
  first | refine e2_1 (h x hx) fun h1 h2 h3 => ?_ | refine e1_2 (h x hx) fun h1 h2 h3 => ?_ | refine e0_3 (h x hx) fun h1 h2 h3 => ?_ | obtain ⟨h1, h2, h3⟩ := h x hx
  refine ⟨al_pre p h1, ?_, h3⟩
  cases x with
  | tup l => exact fun y hy => al_pre p (h2 y hy)
  | _ => trivial
noncomputable def C_good_plain : Ctr := fun vs H Q _ => ∃ a r, vs = [.tup (a :: r)] ∧ Fd a ∧ RowOk H r ∧ ∀ H', H <+: H' → Q (.bool (goodPl a r)) H'
/- behind the first test -/
theorem gp_rest {a : V} {r : List V} {H : Hp} {Q : V → Hp → Prop} {X : XL} {t2 t3 t4 t5 : Option V} (hf : Fd a) (hr : RowOk H r) (hn : ∀ u, a = .str u → anyW ["once", "every"] u = false) (q : ∀ H', H <+: H' → Q (.bool (goodPl a r)) H') :
    wpSs E9 (f_l_good_plain.body.drop 2) [some (.tup (a :: r)), some (.tup r), t2, t3, t4, t5] H (fun fl _ H1 => Q (retV fl) H1) (fun x _ H1 => X x H1) := by
  refine zs_cons ?_
  generalize hK : sqX E9 (_ :: _) = K
  cases hs : strLike a with
  | false =>
    have e : goodPl a r = false := by cases a <;> first | rfl | cases hs
    rw [e] at q
    have hm := mem_ns hf hs ["week", "month"]
    simp only [List.map_cons, List.map_nil] at hm
    simp_arith only [listAt_new, hm]
    subst hK; exact q _ pre_new
  | true =>
    have hu : ∃ u, a = .str u := by cases a <;> first | exact ⟨_, rfl⟩ | cases hs
    obtain ⟨u, rfl⟩ := hu
    have hn := hn u rfl
    replace q : ∀ H', H <+: H' → Q (.bool (isPl u r)) H' := q
    simp_arith only [listAt_new, mem_w2]
    rw [anyW_two, Bool.or_false, Bool.or_eq_false_iff] at hn
    have h1 : (u == Str.ofString "once") = false := by rw [Bool.beq_comm]; exact hn.1
    have h2 : (u == Str.ofString "every") = false := by rw [Bool.beq_comm]; exact hn.2
    cases hw : anyW ["week", "month"] u with
    | false =>
      rw [anyW_two, Bool.or_false, Bool.or_eq_false_iff] at hw
      have h3 : (u == Str.ofString "week") = false := by rw [Bool.beq_comm]; exact hw.1
      have h4 : (u == Str.ofString "month") = false := by rw [Bool.beq_comm]; exact hw.2
      have e : isPl u r = false := by
        unfold isPl
        rw [h1, if_neg (by decide)]
        by_cases hl : r.length = 3
        · first | refine e3_1 (three_list hl) fun x y z e_273 => ?_ | refine e2_2 (three_list hl) fun x y z e_273 => ?_ | refine e1_3 (three_list hl) fun x y z e_273 => ?_ | refine e0_4 (three_list hl) fun x y z e_273 => ?_ | obtain ⟨x, y, z, e_273⟩ := three_list hl
          obtain rfl := e_273
          show isP3 u x y z = false
          unfold isP3
          simp only [h2, h3, h4, Bool.false_eq_true, if_false, Bool.false_and, ite_self]
        · exact not_three hl
      rw [e] at q
      simp_arith only [X_lit]
      subst hK; exact q _ pre_new
    | true =>
      simp_arith only [X_lit]
      refine ⟨fun h => ?_, fun h => ?_⟩
      · have e : isPl u r = false := by
          unfold isPl
          rw [h1, if_neg (by decide)]
          exact not_three (by omega)
        rw [e] at q
        subst hK; exact q _ pre_new
      · first | refine e3_1 (three_list (r := r) (by omega)) fun x y z e_274 => ?_ | refine e2_2 (three_list (r := r) (by omega)) fun x y z e_274 => ?_ | refine e1_3 (three_list (r := r) (by omega)) fun x y z e_274 => ?_ | refine e0_4 (three_list (r := r) (by omega)) fun x y z e_274 => ?_ | obtain ⟨x, y, z, e_274⟩ := three_list (r := r) (by omega)
        obtain rfl := e_274
        have e : isPl u [x, y, z] = (if bt y 0 23 && bt z 1 48 then (if u == "week" then rising x 7 6 else (u == "month") && (bt x (-31) 31 && nz x)) else false) := by
          unfold isPl
          rw [h1, if_neg (by decide)]
          show isP3 u x y z = _
          unfold isP3
          rw [h2, if_neg (by decide)]
        rw [e] at q
        have hr := hr.pre (pre_new (o := .list [.str "week", .str "month"]))
        have q : ∀ H', H ++ [.list [.str "week", .str "month"]] <+: H' → _ := fun H' hp => q H' (pre_new.trans hp)
        generalize H ++ [O.list [V.str "week", .str "month"]] = H1 at *
        have hx := hr x (by simp)
        have hy := hr y (by simp)
        have hz := hr z (by simp)
        subst hK
        refine zs_cons ?_
        generalize hK : sqX E9 (_ :: _) = K
        simp_arith only [↓e9_b]
        refine ⟨y, _, _, rfl, hy.1, ?_⟩
        simp_arith only [X_lit]
        cases e1 : bt y 0 23 with
        | false => have := q H1 (List.prefix_refl _); simp only [e1, Bool.false_and, Bool.false_eq_true, if_false] at this; subst hK; exact this
        | true =>
          simp_arith only [↓e9_b]
          refine ⟨z, _, _, rfl, hz.1, ?_⟩
          simp_arith only [X_lit]
          cases e2 : bt z 1 48 with
          | false => have := q H1 (List.prefix_refl _); simp only [e1, e2, Bool.and_false, Bool.false_eq_true, if_false] at this; subst hK; exact this
          | true =>
            simp only [e1, e2, Bool.and_self, if_true] at q
            subst hK
            refine zs_cons ?_
            show ifP (u == "week") _ _
            cases e3 : u == "week" with
            | true =>
              rw [e3, if_pos rfl] at q
              generalize hK : sqX E9 (_ :: _) = K
              simp_arith only [↓e9_d]
              refine ⟨x, _, _, rfl, hx.1, hx.2.1, hx.2.2, fun H2 hp => ?_⟩
              have := q H2 hp
              rw [← rising_good] at this
              subst hK; exact this
            | false =>
              have e4 : (u == Str.ofString "month") = true := by
                rw [anyW_two, Bool.or_false] at hw
                have e3' : (Str.ofString "week" == u) = false := by rw [Bool.beq_comm]; exact e3
                rw [e3', Bool.false_or] at hw
                rw [Bool.beq_comm]; exact hw
              rw [e3, if_neg (by decide), e4, Bool.true_and, ← month_eq] at q
              refine zs_cons ?_
              generalize hK : sqX E9 [] = K
              simp_arith only [↓e9_b]
              refine ⟨x, _, _, rfl, hx.1, ?_⟩
              simp_arith only [X_lit]
              have q1 := q H1 (List.prefix_refl _)
              cases e5 : bt x 1 31 with
              | true => rw [e5] at q1; subst hK; exact q1
              | false =>
                rw [e5, Bool.false_or] at q1
                simp_arith only [↓e9_b]
                exact ⟨x, _, _, rfl, hx.1, by subst hK; exact q1⟩
theorem gp_once {r : List V} {H : Hp} {Q : V → Hp → Prop} {X : XL} {t2 t3 t4 t5 : Option V} {K : QS} (hr : RowOk H r) (hK : ∀ v L' H', K (.ret v) L' H' = Q v H') (q : ∀ H', H <+: H' → Q (.bool (pl2 r)) H') :
    wpSs E9 [(.ite (.cmp (.call (.bi .len) [(.loc 1)]) .NotEq (.sub (.lst [(.lit (.int 2)), (.lit (.int 3))]) (.call (.ty .int) [(.cmp (.sub (.loc 0) (.lit (.int 0))) .Eq (.lit (.str "every")))]))) [(.ret (.lit (.bool false)))] []), (.assign 2 (.ite (.cmp (.call (.bi .len) [(.loc 1)]) .Eq (.lit (.int 3))) (.sub (.loc 1) (.neg (.lit (.int 1)))) (.lit (.int 1)))), (.ite (.or (.not (.call (.fn "_law_between") [(.loc 2), (.lit (.int 1)), (.bin .Pow (.lit (.int 10)) (.lit (.int 6)))])) (.not (.call (.fn "_law_between") [(.sub (.loc 1) (.lit (.int 1))), (.lit (.int 1)), (.lit (.int 48))]))) [(.ret (.lit (.bool false)))] []), (.ret (.call (.fn "_law_between") [(.sub (.loc 1) (.lit (.int 0))), (.lit (.int 0)), (.bin .Sub (.bin .Pow (.lit (.int 10)) (.lit (.int 12))) (.lit (.int 1)))]))]
      [some (.tup (.str "once" :: r)), some (.tup r), t2, t3, t4, t5] H K (fun x _ H1 => X x H1) := by
  have e0 : idxP [V.int 2, .int 3] (if (Str.ofString "once" == Str.ofString "every") = true then 1 else 0) = some (.int 2) := by rw [so1]; rfl
  refine zs_cons ?_
  generalize hK2 : sqX E9 (_ :: _) = K2
  simp_arith only [listAt_new, e0]
  refine ⟨fun h => ?_, fun h => ?_⟩
  · have := q _ (pre_new (o := .list [.int 2, .int 3])); rw [not_two (by omega)] at this
    subst hK2; show K (.ret _) _ _; rw [hK]; exact this
  · first | refine e2_1 (two_list (r := r) (by omega)) fun x y e_275 => ?_ | refine e1_2 (two_list (r := r) (by omega)) fun x y e_275 => ?_ | refine e0_3 (two_list (r := r) (by omega)) fun x y e_275 => ?_ | obtain ⟨x, y, e_275⟩ := two_list (r := r) (by omega)
    obtain rfl := e_275
    have hr := hr.pre (pre_new (o := .list [.int 2, .int 3]))
    have q : ∀ H', H ++ [.list [.int 2, .int 3]] <+: H' → Q (.bool (bt x 0 999999999999 && bt y 1 48)) H' := fun H' hp => q H' (pre_new.trans hp)
    generalize H ++ [O.list [V.int 2, .int 3]] = H1 at *
    have q1 := q H1 (List.prefix_refl _)
    have hx := hr x (by simp)
    have hy := hr y (by simp)
    subst hK2
    refine zs_cons ?_
    generalize hK2 : sqX E9 (_ :: _) = K2
    simp_arith only [X_lit]
    refine ⟨fun h => absurd h (by decide), fun _ => ?_⟩
    subst hK2
    refine zs_cons ?_
    generalize hK2 : sqX E9 (_ :: _) = K2
    simp_arith only [↓e9_b]
    refine ⟨_, _, _, rfl, trivial, ?_⟩
    simp_arith only [show bt (.int 1) 1 1000000 = true from by decide, ↓e9_b]
    refine ⟨y, _, _, rfl, hy.1, ?_⟩
    simp_arith only [X_lit]
    cases e1 : bt y 1 48 with
    | false => rw [e1, Bool.and_false] at q1; subst hK2; show K (.ret _) _ _; rw [hK]; exact q1
    | true =>
      rw [e1, Bool.and_true] at q1
      subst hK2
      simp_arith only [↓e9_b]
      exact ⟨x, _, _, rfl, hx.1, by show K (.ret _) _ _; rw [hK]; exact q1⟩
theorem gp_every {r : List V} {H : Hp} {Q : V → Hp → Prop} {X : XL} {t2 t3 t4 t5 : Option V} {K : QS} (hr : RowOk H r) (hK : ∀ v L' H', K (.ret v) L' H' = Q v H') (q : ∀ H', H <+: H' → Q (.bool (pl3 "every" r)) H') :
    wpSs E9 [(.ite (.cmp (.call (.bi .len) [(.loc 1)]) .NotEq (.sub (.lst [(.lit (.int 2)), (.lit (.int 3))]) (.call (.ty .int) [(.cmp (.sub (.loc 0) (.lit (.int 0))) .Eq (.lit (.str "every")))]))) [(.ret (.lit (.bool false)))] []), (.assign 2 (.ite (.cmp (.call (.bi .len) [(.loc 1)]) .Eq (.lit (.int 3))) (.sub (.loc 1) (.neg (.lit (.int 1)))) (.lit (.int 1)))), (.ite (.or (.not (.call (.fn "_law_between") [(.loc 2), (.lit (.int 1)), (.bin .Pow (.lit (.int 10)) (.lit (.int 6)))])) (.not (.call (.fn "_law_between") [(.sub (.loc 1) (.lit (.int 1))), (.lit (.int 1)), (.lit (.int 48))]))) [(.ret (.lit (.bool false)))] []), (.ret (.call (.fn "_law_between") [(.sub (.loc 1) (.lit (.int 0))), (.lit (.int 0)), (.bin .Sub (.bin .Pow (.lit (.int 10)) (.lit (.int 12))) (.lit (.int 1)))]))]
      [some (.tup (.str "every" :: r)), some (.tup r), t2, t3, t4, t5] H K (fun x _ H1 => X x H1) := by
  have e0 : idxP [V.int 2, .int 3] (if (Str.ofString "every" == Str.ofString "every") = true then 1 else 0) = some (.int 3) := by rw [so2]; rfl
  refine zs_cons ?_
  generalize hK2 : sqX E9 (_ :: _) = K2
  simp_arith only [listAt_new, e0]
  refine ⟨fun h => ?_, fun h => ?_⟩
  · have := q _ (pre_new (o := .list [.int 2, .int 3])); rw [not_three (by omega)] at this
    subst hK2; show K (.ret _) _ _; rw [hK]; exact this
  · first | refine e3_1 (three_list (r := r) (by omega)) fun x y z e_276 => ?_ | refine e2_2 (three_list (r := r) (by omega)) fun x y z e_276 => ?_ | refine e1_3 (three_list (r := r) (by omega)) fun x y z e_276 => ?_ | refine e0_4 (three_list (r := r) (by omega)) fun x y z e_276 => ?_ | obtain ⟨x, y, z, e_276⟩ := three_list (r := r) (by omega)
    obtain rfl := e_276
    have hr := hr.pre (pre_new (o := .list [.int 2, .int 3]))
    have e3 : pl3 "every" [x, y, z] = (bt x 0 999999999999 && (bt y 1 48 && bt z 1 1000000)) := by
      show isP3 "every" x y z = _
      unfold isP3
      rw [so2, if_pos rfl]
    rw [e3] at q
    have q : ∀ H', H ++ [.list [.int 2, .int 3]] <+: H' → Q (.bool (bt x 0 999999999999 && (bt y 1 48 && bt z 1 1000000))) H' := fun H' hp => q H' (pre_new.trans hp)
    generalize H ++ [O.list [V.int 2, .int 3]] = H1 at *
    have q1 := q H1 (List.prefix_refl _)
    have hx := hr x (by simp)
    have hy := hr y (by simp)
    have hz := hr z (by simp)
    have ez : idx [x, y, z] (-1) = some z := rfl
    subst hK2
    refine zs_cons ?_
    generalize hK2 : sqX E9 (_ :: _) = K2
    simp_arith only [ez]
    refine ⟨fun _ => ?_, fun h => absurd (by decide) h⟩
    subst hK2
    refine zs_cons ?_
    generalize hK2 : sqX E9 (_ :: _) = K2
    simp_arith only [↓e9_b]
    refine ⟨z, _, _, rfl, hz.1, ?_⟩
    simp_arith only [X_lit]
    cases e1 : bt z 1 1000000 with
    | false => rw [e1, Bool.and_false, Bool.and_false] at q1; subst hK2; show K (.ret _) _ _; rw [hK]; exact q1
    | true =>
      rw [e1, Bool.and_true] at q1
      simp_arith only [↓e9_b]
      refine ⟨y, _, _, rfl, hy.1, ?_⟩
      simp_arith only [X_lit]
      cases e2 : bt y 1 48 with
      | false => rw [e2, Bool.and_false] at q1; subst hK2; show K (.ret _) _ _; rw [hK]; exact q1
      | true =>
        rw [e2, Bool.and_true] at q1
        subst hK2
        simp_arith only [↓e9_b]
        exact ⟨x, _, _, rfl, hx.1, by show K (.ret _) _ _; rw [hK]; exact q1⟩
theorem ite_in2 {Φ : Orc} {x y u : Str} {rest : List V} {Lr : Lc} {a b : List IS} {H : Hp} {QF : QS} {XF : XS} (h : ifP (anyW [x, y] u) (wpSs Φ a (some (.tup (.str u :: rest)) :: Lr) (H ++ [.list [.str x, .str y]]) QF XF) (wpSs Φ b (some (.tup (.str u :: rest)) :: Lr) (H ++ [.list [.str x, .str y]]) QF XF)) :
    wpS Φ (.ite (.cmp (.sub (.loc 0) (.lit (.int 0))) .In (.lst [.lit (.str x), .lit (.str y)])) a b) (some (.tup (.str u :: rest)) :: Lr) H QF XF := by
  simp_arith only [listAt_new, mem_w2]
  exact h
theorem w_good_plain : ∀ vs H Q X, C_good_plain vs H Q X → wpFn E9 f_l_good_plain vs H Q X := by
  rintro vs H Q X ⟨a, r, rfl, hf, hr, q⟩
  refine fn_of rfl ?_
  change wpSs E9 f_l_good_plain.body [some (.tup (a :: r)), none, none, none, none, none] H _ _
  refine zs_cons ?_
  generalize hK : sqX E9 (_ :: _) = K
  simp_arith only [sl_1]
  subst hK
  refine zs_cons ?_
  cases hs : strLike a with
  | false =>
    have hm := mem_ns hf hs ["once", "every"]
    simp only [List.map_cons, List.map_nil] at hm
    generalize hK : sqX E9 (_ :: _) = K
    simp_arith only [listAt_new, hm]
    subst hK
    exact gp_rest hf (hr.pre pre_new) (fun u e => by subst e; cases hs) fun H' hp => q H' (pre_new.trans hp)
  | true =>
    have hu : ∃ u, a = .str u := by cases a <;> first | exact ⟨_, rfl⟩ | cases hs
    obtain ⟨u, rfl⟩ := hu
    cases hw : anyW ["once", "every"] u with
    | false =>
      generalize hK : sqX E9 (_ :: _) = K
      simp_arith only [listAt_new, mem_w2, hw]
      subst hK
      exact gp_rest hf (hr.pre pre_new) (fun u e => by cases e; exact hw) fun H' hp => q H' (pre_new.trans hp)
    | true =>
      have hw' := hw
      rw [anyW_two, Bool.or_false, Bool.or_eq_true] at hw'
      rcases hw' with e | e
      · have e := eq_of_beq e; subst e
        refine ite_in2 ?_
        rw [hw]
        exact gp_once (Q := Q) (hr.pre pre_new) (fun _ _ _ => rfl) fun H' hp => q H' (pre_new.trans hp)
      · have e := eq_of_beq e; subst e
        refine ite_in2 ?_
        rw [hw]
        exact gp_every (Q := Q) (hr.pre pre_new) (fun _ _ _ => rfl) fun H' hp => q H' (pre_new.trans hp)
noncomputable def Ea : Orc := ext "_law_good_plain" C_good_plain E9
end Mine

set_option autoImplicit false
set_option linter.unusedSimpArgs false
set_option maxRecDepth 20000
namespace Mine
open PySem

theorem ea_b : Ea "_law_between" = C_is_between := rfl
theorem ea_d : Ea "_law_good_days" = C_good_days := rfl
theorem ea_p : Ea "_law_good_plain" = C_good_plain := rfl
noncomputable def Ff : List V → Prop
  | [] => True
  | a :: _ => Fd a
mutual
noncomputable def Fs : V → Prop
  | .tup l => l.length ≤ 100000 ∧ Ff l ∧ Fss l
  | _ => True
noncomputable def Fss : List V → Prop
  | [] => True
  | v :: r => Fs v ∧ Fss r
end
theorem Fss.mem : ∀ {l : List V}, Fss l → ∀ x ∈ l, Fs x
  | _ :: _, h, x, hx => by
    rcases List.mem_cons.mp hx with q | q
    · subst q; exact h.1
    · exact Fss.mem h.2 x q
theorem Fs.len {v : V} (h : Fs v) : ∀ l, v = .tup l → l.length ≤ 100000 := by rintro l rfl; exact h.1
mutual
noncomputable def vd : V → Nat
  | .tup l => vds l + 1
  | _ => 0
noncomputable def vds : List V → Nat
  | [] => 0
  | v :: r => max (vd v) (vds r)
end
theorem vds_mem : ∀ {l : List V} {x : V}, x ∈ l → vd x ≤ vds l
  | v :: r, x, h => by
    show vd x ≤ max (vd v) (vds r)
    rcases List.mem_cons.mp h with q | q
    · subst q; exact Nat.le_max_left ..
    · exact Nat.le_trans (vds_mem q) (Nat.le_max_right ..)
noncomputable def fin (v : V) (d : Int) : Bool := decide (d ≤ 8) && (match v with
  | .tup l => (match l with | a :: r => goodPl a r | [] => false)
  | _ => false)
noncomputable def gd : Nat → V → Int → Bool
  | 0, _, _ => false
  | f + 1, v, d => match v with
    | .tup l => (match l with
      | [w, a, t] => (match w with
        | .str u => if inOut u then hdT2 u a && gd f t (d + 1) else fin v d
        | _ => fin v d)
      | _ => fin v d)
    | _ => fin v d
theorem gd_not {f : Nat} {v : V} {d : Int} (h : tupLike v = false) : gd (f + 1) v d = fin v d := by cases v <;> first | rfl | cases h
theorem gd_n3 {f : Nat} {d : Int} : ∀ {l : List V}, l.length ≠ 3 → gd (f + 1) (.tup l) d = fin (.tup l) d
  | [], _ => rfl
  | [_], _ => rfl
  | [_, _], _ => rfl
  | [_, _, _], h => absurd rfl h
  | _ :: _ :: _ :: _ :: _, _ => rfl
theorem gd_ns {f : Nat} {d : Int} {w a t : V} (h : strLike w = false) : gd (f + 1) (.tup [w, a, t]) d = fin (.tup [w, a, t]) d := by cases w <;> first | rfl | cases h
noncomputable abbrev glT : IE := .and (.call (.bi .isinstance) [(.loc 0), (.lit (.ty .tuple))]) (.and (.cmp (.call (.bi .len) [(.loc 0)]) .Eq (.lit (.int 3))) (.cmp (.sub (.loc 0) (.lit (.int 0))) .In (.lst [(.lit (.str "from")), (.lit (.str "until")), (.lit (.str "also")), (.lit (.str "but"))])))
noncomputable abbrev glB : List IS := [(.ite (.and (.cmp (.sub (.loc 0) (.lit (.int 0))) .Eq (.lit (.str "but"))) (.not (.call (.fn "_law_good_days") [(.sub (.loc 0) (.lit (.int 1))), (.bin .Pow (.lit (.int 10)) (.lit (.int 11))), (.lit (.int 20))]))) [(.ret (.lit (.bool false)))] []), (.ite (.and (.cmp (.sub (.loc 0) (.lit (.int 0))) .NotEq (.lit (.str "but"))) (.not (.call (.fn "_law_between") [(.sub (.loc 0) (.lit (.int 1))), (.lit (.int 0)), (.bin .Sub (.bin .Pow (.lit (.int 10)) (.lit (.int 12))) (.lit (.int 1)))]))) [(.ret (.lit (.bool false)))] []), (.assign 0 (.sub (.loc 0) (.lit (.int 2)))), (.assign 1 (.bin .Add (.loc 1) (.lit (.int 1))))]
theorem gl_test {v : V} {Lr : Lc} {H : Hp} {P : Bool → Hp → Prop} {X : XL} (hv : Th H v) (hf : Fs v)
    (h0 : (tupLike v = false ∨ (∃ l, v = .tup l ∧ l.length ≠ 3)) → P false H)
    (h1 : ∀ w a t, v = .tup [w, a, t] → (strLike w = false ∨ ∃ u, w = .str u ∧ inOut u = false) → P false (H ++ [.list [.str "from", .str "until", .str "also", .str "but"]]))
    (h2 : ∀ u a t, v = .tup [.str u, a, t] → inOut u = true → P true (H ++ [.list [.str "from", .str "until", .str "also", .str "but"]])) : (wp2 Ea glT).T (some v :: Lr) H P X := by
  first | refine e3_1 (isi_of hv.al) fun _ _ h3 _ => ?_ | refine e2_2 (isi_of hv.al) fun _ _ h3 _ => ?_ | refine e1_3 (isi_of hv.al) fun _ _ h3 _ => ?_ | refine e0_4 (isi_of hv.al) fun _ _ h3 _ => ?_ | obtain ⟨_, _, h3, _⟩ := isi_of hv.al
  cases ht : tupLike v with
  | false => simp_arith only [h3, ht]; exact h0 (.inl ht)
  | true =>
    have hl : ∃ l, v = .tup l := by cases v <;> first | exact ⟨_, rfl⟩ | cases ht
    obtain ⟨l, rfl⟩ := hl
    simp_arith only [h3, ht]
    refine ⟨fun hl => ?_, fun hl => h0 (.inr ⟨l, rfl, by omega⟩)⟩
    first | refine e3_1 (three_list (r := l) (by omega)) fun w a t e_277 => ?_ | refine e2_2 (three_list (r := l) (by omega)) fun w a t e_277 => ?_ | refine e1_3 (three_list (r := l) (by omega)) fun w a t e_277 => ?_ | refine e0_4 (three_list (r := l) (by omega)) fun w a t e_277 => ?_ | obtain ⟨w, a, t, e_277⟩ := three_list (r := l) (by omega)
    obtain rfl := e_277
    cases hs : strLike w with
    | false =>
      have hm := mem_ns (show Fd w from hf.2.1) hs ["from", "until", "also", "but"]
      simp only [List.map_cons, List.map_nil] at hm
      simp_arith only [listAt_new, hm]
      exact h1 w a t rfl (.inl hs)
    | true =>
      have hu : ∃ u, w = .str u := by cases w <;> first | exact ⟨_, rfl⟩ | cases hs
      obtain ⟨u, rfl⟩ := hu
      simp_arith only [listAt_new, mem_out]
      cases ho : inOut u with
      | false => exact h1 _ a t rfl (.inr ⟨u, rfl, ho⟩)
      | true => exact h2 u a t rfl ho
theorem gl_loop {t2 t3 t4 : Option V} {Q : QS} : ∀ (f : Nat) (v : V) (d : Int) (H : Hp), vd v < f → Th H v → Fs v →
    (∀ v' d' H2, H <+: H2 → Th H2 v' → Fs v' → gd f v d = fin v' d' → Q .next [some v', some (.int d'), t2, t3, t4] H2) →
    (∀ L' H2, H <+: H2 → gd f v d = false → Q (.ret (.bool false)) L' H2) →
    whileGo (whTX Ea glT noX) (whBX Ea glB noXS) f [some v, some (.int d), t2, t3, t4] H Q := by
  intro f
  induction f with
  | zero => intro v d H h; exact absurd h (Nat.not_lt_zero _)
  | succ f ih =>
    intro v d H hd hv hf hn hr
    rw [whX_s]
    refine gl_test hv hf (fun h => ?_) (fun w a t e h => ?_) (fun u a t e ho => ?_)
    · refine hn v d H (List.prefix_refl _) hv hf ?_
      rcases h with h | ⟨l, rfl, h⟩
      · exact gd_not h
      · exact gd_n3 h
    · subst e
      refine hn _ d _ pre_new (hv.pre pre_new) hf ?_
      rcases h with h | ⟨u, rfl, h⟩
      · exact gd_ns h
      · show (if inOut u then _ else _) = _
        rw [h, if_neg (by decide)]
    · subst e
      have eg : gd (f + 1) (.tup [.str u, a, t]) d = (hdT2 u a && gd f t (d + 1)) := by
        show (if inOut u then _ else _) = _
        rw [ho, if_pos rfl]
      rw [eg] at hn hr
      have ht : Th (H ++ [.list [.str "from", .str "until", .str "also", .str "but"]]) t := (Ths.mem (l := [.str u, a, t]) hv t (by simp)).pre pre_new
      have ha : Th (H ++ [.list [.str "from", .str "until", .str "also", .str "but"]]) a := (Ths.mem (l := [.str u, a, t]) hv a (by simp)).pre pre_new
      have hft := Fss.mem hf.2.2 t (by simp)
      have hfa := Fss.mem hf.2.2 a (by simp)
      have hdt : vd t < f := by
        have h1 := vds_mem (l := [.str u, a, t]) (x := t) (by simp)
        have h2 : vd (.tup [.str u, a, t]) = vds [.str u, a, t] + 1 := rfl
        omega
      have hn : ∀ v' d' H2, H ++ [.list [.str "from", .str "until", .str "also", .str "but"]] <+: H2 → _ := fun v' d' H2 hp => hn v' d' H2 (pre_new.trans hp)
      have hr : ∀ L' H2, H ++ [.list [.str "from", .str "until", .str "also", .str "but"]] <+: H2 → _ := fun L' H2 hp => hr L' H2 (pre_new.trans hp)
      generalize H ++ [O.list [V.str "from", .str "until", .str "also", .str "but"]] = H1 at *
      have nxt : ∀ H2, H1 <+: H2 → hdT2 u a = true → whileGo (whTX Ea glT noX) (whBX Ea glB noXS) f [some t, some (.int (d + 1)), t2, t3, t4] H2 Q := by
        intro H2 hp e
        rw [e, Bool.true_and] at hn hr
        exact ih t (d + 1) H2 hdt (ht.pre hp) hft (fun v' d' H3 hp3 => hn v' d' H3 (hp.trans hp3)) (fun L' H3 hp3 => hr L' H3 (hp.trans hp3))
      show wpSs Ea glB [some (.tup [.str u, a, t]), some (.int d), t2, t3, t4] H1 _ _
      refine zs_cons ?_
      show ifP (u == "but") _ _
      cases hb : u == "but" with
      | true =>
        have ed : hdT2 u a = rising a 20 99999999999 := by unfold hdT2; rw [hb, if_pos rfl]
        generalize hK : sqX Ea (_ :: _) = K
        simp_arith only [↓ea_d]
        refine ⟨a, _, _, rfl, ha.al, ha.als, hfa.len, fun H2 hp2 => ?_⟩
        have eg2 : goodD a 100000000000 20 = rising a 20 99999999999 := rising_good a 20 99999999999
        rw [eg2]
        simp_arith only [X_lit]
        cases er : rising a 20 99999999999 with
        | false => subst hK; exact hr _ _ hp2 (by rw [ed, er]; rfl)
        | true =>
          subst hK
          refine zs_cons ?_
          show ifP (!(u == "but")) _ _
          rw [hb]
          exact nxt H2 hp2 (by rw [ed, er])
      | false =>
        have ed : hdT2 u a = bt a 0 999999999999 := by unfold hdT2; rw [hb, if_neg (by decide)]
        refine zs_cons ?_
        show ifP (!(u == "but")) _ _
        rw [hb]
        generalize hK : sqX Ea (_ :: _) = K
        simp_arith only [↓ea_b]
        refine ⟨a, _, _, rfl, ha.al, ?_⟩
        simp_arith only [X_lit]
        cases er : bt a 0 999999999999 with
        | false => subst hK; exact hr _ _ (List.prefix_refl _) (by rw [ed, er]; rfl)
        | true => subst hK; exact nxt H1 (List.prefix_refl _) (by rw [ed, er])
theorem gd_deep : ∀ (f : Nat) (v : V) (d : Int), 9 ≤ d → gd f v d = false := by
  intro f
  induction f with
  | zero => intro v d _; rfl
  | succ f ih =>
    intro v d hd
    have hfin : ∀ v, fin v d = false := fun v => by unfold fin; rw [decide_eq_false (by omega), Bool.false_and]
    cases ht : tupLike v with
    | false => rw [gd_not ht, hfin]
    | true =>
      have hl : ∃ l, v = .tup l := by cases v <;> first | exact ⟨_, rfl⟩ | cases ht
      obtain ⟨l, rfl⟩ := hl
      by_cases h3 : l.length = 3
      · first | refine e3_1 (three_list h3) fun w a t e_278 => ?_ | refine e2_2 (three_list h3) fun w a t e_278 => ?_ | refine e1_3 (three_list h3) fun w a t e_278 => ?_ | refine e0_4 (three_list h3) fun w a t e_278 => ?_ | obtain ⟨w, a, t, e_278⟩ := three_list h3
        obtain rfl := e_278
        cases hs : strLike w with
        | false => rw [gd_ns hs, hfin]
        | true =>
          have hu : ∃ u, w = .str u := by cases w <;> first | exact ⟨_, rfl⟩ | cases hs
          obtain ⟨u, rfl⟩ := hu
          show (if inOut u then _ else _) = _
          split
          · rw [ih t (d + 1) (by omega), Bool.and_false]
          · exact hfin _
      · rw [gd_n3 h3, hfin]
theorem inOut_eq (u : Str) : inOut u = (Str.ofString "from" == u || (Str.ofString "until" == u || (Str.ofString "also" == u || (Str.ofString "but" == u || false)))) := rfl
theorem no_plain : ∀ u ∈ ([Str.ofString "from", Str.ofString "until", Str.ofString "also", Str.ofString "but"] : List Str), (u == Str.ofString "once") = false ∧ (u == Str.ofString "every") = false ∧ (u == Str.ofString "week") = false ∧ (u == Str.ofString "month") = false := by decide
theorem isPl_out {u : Str} (h : inOut u = true) (r : List V) : isPl u r = false := by
  have hm : u ∈ ([Str.ofString "from", Str.ofString "until", Str.ofString "also", Str.ofString "but"] : List Str) := by
    rw [inOut_eq] at h
    simp only [Bool.or_eq_true, beq_iff_eq, Bool.or_false] at h
    simp only [List.mem_cons, List.not_mem_nil, or_false]
    rcases h with h | h | h | h
    · exact .inl h.symm
    · exact .inr (.inl h.symm)
    · exact .inr (.inr (.inl h.symm))
    · exact .inr (.inr (.inr h.symm))
  first | refine e3_1 (no_plain u hm) fun h1 h2 h3 h4 => ?_ | refine e2_2 (no_plain u hm) fun h1 h2 h3 h4 => ?_ | refine e1_3 (no_plain u hm) fun h1 h2 h3 h4 => ?_ | refine e0_4 (no_plain u hm) fun h1 h2 h3 h4 => ?_ | obtain ⟨h1, h2, h3, h4⟩ := no_plain u hm
  unfold isPl
  rw [h1, if_neg (by decide)]
  by_cases hl : r.length = 3
  · first | refine e3_1 (three_list hl) fun x y z e_279 => ?_ | refine e2_2 (three_list hl) fun x y z e_279 => ?_ | refine e1_3 (three_list hl) fun x y z e_279 => ?_ | refine e0_4 (three_list hl) fun x y z e_279 => ?_ | obtain ⟨x, y, z, e_279⟩ := three_list hl
    obtain rfl := e_279
    show isP3 u x y z = false
    unfold isP3
    simp only [h2, h3, h4, Bool.false_eq_true, if_false, Bool.false_and, ite_self]
  · exact not_three hl
theorem rl_gd : ∀ (n f : Nat) (v : V), vd v < f → n ≤ 8 → isRl n v = gd f v (9 - (n : Int)) := by
  intro n
  induction n with
  | zero => intro f v _ _; rw [gd_deep f v _ (by omega)]; rfl
  | succ n ih =>
    intro f v hf hn
    cases f with
    | zero => exact absurd hf (Nat.not_lt_zero _)
    | succ f =>
      have hd : decide ((9 : Int) - ((n + 1 : Nat) : Int) ≤ 8) = true := decide_eq_true (by omega)
      cases ht : tupLike v with
      | false => rw [gd_not ht]; cases v <;> first | (unfold fin; rw [Bool.and_false]; rfl) | cases ht
      | true =>
        have hl : ∃ l, v = .tup l := by cases v <;> first | exact ⟨_, rfl⟩ | cases ht
        obtain ⟨l, rfl⟩ := hl
        cases l with
        | nil => rw [gd_n3 (by decide)]; unfold fin; rw [Bool.and_false]; rfl
        | cons w r =>
          cases hs : strLike w with
          | false =>
            have e1 : isRl (n + 1) (.tup (w :: r)) = false := by cases w <;> first | rfl | cases hs
            have e2 : fin (.tup (w :: r)) (9 - ((n + 1 : Nat) : Int)) = false := by
              unfold fin
              have : goodPl w r = false := by cases w <;> first | rfl | cases hs
              simp only [this, Bool.and_false]
            rw [e1]
            by_cases h3 : (w :: r).length = 3
            · first | refine e2_1 (two_list (r := r) (by simpa using h3)) fun a t e_280 => ?_ | refine e1_2 (two_list (r := r) (by simpa using h3)) fun a t e_280 => ?_ | refine e0_3 (two_list (r := r) (by simpa using h3)) fun a t e_280 => ?_ | obtain ⟨a, t, e_280⟩ := two_list (r := r) (by simpa using h3)
              obtain rfl := e_280
              rw [gd_ns hs, e2]
            · rw [gd_n3 h3, e2]
          | true =>
            have hu : ∃ u, w = .str u := by cases w <;> first | exact ⟨_, rfl⟩ | cases hs
            obtain ⟨u, rfl⟩ := hu
            have e2 : fin (.tup (.str u :: r)) (9 - ((n + 1 : Nat) : Int)) = isPl u r := by
              unfold fin; rw [hd, Bool.true_and]; rfl
            cases ho : inOut u with
            | false =>
              have e1 : isRl (n + 1) (.tup (.str u :: r)) = isPl u r := by simp only [isRl, ho, Bool.false_eq_true, if_false]
              rw [e1]
              by_cases h3 : (V.str u :: r).length = 3
              · first | refine e2_1 (two_list (r := r) (by simpa using h3)) fun a t e_281 => ?_ | refine e1_2 (two_list (r := r) (by simpa using h3)) fun a t e_281 => ?_ | refine e0_3 (two_list (r := r) (by simpa using h3)) fun a t e_281 => ?_ | obtain ⟨a, t, e_281⟩ := two_list (r := r) (by simpa using h3)
                obtain rfl := e_281
                show _ = (if inOut u then _ else _)
                rw [ho, if_neg (by decide), e2]
              · rw [gd_n3 h3, e2]
            | true =>
              by_cases h3 : (V.str u :: r).length = 3
              · first | refine e2_1 (two_list (r := r) (by simpa using h3)) fun a t e_282 => ?_ | refine e1_2 (two_list (r := r) (by simpa using h3)) fun a t e_282 => ?_ | refine e0_3 (two_list (r := r) (by simpa using h3)) fun a t e_282 => ?_ | obtain ⟨a, t, e_282⟩ := two_list (r := r) (by simpa using h3)
                obtain rfl := e_282
                have e1 : isRl (n + 1) (.tup [.str u, a, t]) = (hdT2 u a && isRl n t) := by simp only [isRl, ho, if_true]
                rw [e1]
                show _ = (if inOut u then _ else _)
                rw [ho, if_pos rfl]
                have h1 := vds_mem (l := [.str u, a, t]) (x := t) (by simp)
                have h2 : vd (.tup [.str u, a, t]) = vds [.str u, a, t] + 1 := rfl
                have e3 : (9 : Int) - ((n + 1 : Nat) : Int) + 1 = 9 - (n : Int) := by omega
                rw [ih f t (by omega) (by omega), e3]
              · rw [rl_not_two ho (by simpa using h3), gd_n3 h3, e2, isPl_out ho]
noncomputable def C_good : Ctr := fun vs H Q _ => ∃ v, vs = [v] ∧ Th H v ∧ Fs v ∧ ∀ H', H <+: H' → Q (.bool (isRl 8 v)) H'
theorem w_good : ∀ vs H Q X, C_good vs H Q X → wpFn Ea f_l_good vs H Q X := by
  rintro vs H Q X ⟨v, rfl, hv, hf, q⟩
  refine fn_of rfl ?_
  change wpSs Ea f_l_good.body [some v, none, none, none, none] H _ _
  refine zs_cons ?_
  change wpSs Ea (f_l_good.body.drop 1) [some v, some (.int 1), none, none, none] H _ _
  rw [rl_gd 8 (vd v + 1) v (Nat.lt_succ_self _) (Nat.le_refl _)] at q
  refine zs_cons ?_
  rw [Z_while]
  refine ⟨vd v + 1, gl_loop (vd v + 1) v 1 H (Nat.lt_succ_self _) hv hf (fun v' d' H2 hp2 hv' hf' e => ?_) (fun L' H2 hp2 e => ?_)⟩
  · have q2 : Q (.bool (fin v' d')) H2 := by rw [← e]; exact q H2 hp2
    have q3 : ∀ H3, H2 <+: H3 → Q (.bool (fin v' d')) H3 := fun H3 hp3 => by rw [← e]; exact q H3 (hp2.trans hp3)
    first | refine e3_1 (isi_of hv'.al) fun _ _ h3 _ => ?_ | refine e2_2 (isi_of hv'.al) fun _ _ h3 _ => ?_ | refine e1_3 (isi_of hv'.al) fun _ _ h3 _ => ?_ | refine e0_4 (isi_of hv'.al) fun _ _ h3 _ => ?_ | obtain ⟨_, _, h3, _⟩ := isi_of hv'.al
    unfold fin at q2 q3
    simp_arith only [h3]
    refine ⟨fun h8 => ?_, fun h8 => ?_⟩
    · rw [decide_eq_true h8, Bool.true_and] at q2 q3
      cases ht : tupLike v' with
      | false =>
        simp_arith only [X_lit]
        cases v' <;> first | exact q2 | cases ht
      | true =>
        have hl : ∃ l, v' = .tup l := by cases v' <;> first | exact ⟨_, rfl⟩ | cases ht
        obtain ⟨l, rfl⟩ := hl
        cases l with
        | nil => simp_arith only [X_lit]; exact ⟨fun h => absurd h (by decide), fun h => q2⟩
        | cons a r =>
          simp_arith only [↓ea_p]
          refine ⟨fun _ => ⟨a, r, rfl, hf'.2.1, fun x hx => ?_, q3⟩, fun h => absurd (by omega) h⟩
          have h1 := Ths.mem (l := a :: r) hv' x (List.mem_cons_of_mem _ hx)
          have h2 := Fss.mem hf'.2.2 x (List.mem_cons_of_mem _ hx)
          exact ⟨h1.al, h1.als, h2.len⟩
    · rw [decide_eq_false h8, Bool.false_and] at q2
      rw [decide_eq_false h8]; exact q2
  · have := q H2 hp2
    have e' : gd (vd v + 1) v (9 - ((8 : Nat) : Int)) = false := e
    rw [e'] at this; exact this
noncomputable def Eb : Orc := ext "_law_good" C_good Ea
end Mine

set_option autoImplicit false
set_option linter.unusedSimpArgs false
set_option maxRecDepth 20000
set_option genSizeOf false
set_option genInjectivity false
/- Rules, their words, their texts. -/
namespace Mine
open PySem PyProof.Rows

inductive Pt where
  | n (i : Int)
  | l (ds : List Int)
inductive Rl where
  | pl (u : Str) (p : Pt) (is : List Int)
  | hd (u : Str) (p : Pt) (r : Rl)
noncomputable def intsV (l : List Int) : V := .tup (l.map .int)
noncomputable def listS (ds : List Int) : Str := Str.join "," (ds.map numS)
noncomputable def Pt.v : Pt → V
  | .n i => .int i
  | .l ds => intsV ds
noncomputable def Pt.s : Pt → Str
  | .n i => numS i
  | .l ds => listS ds
noncomputable def rv : Rl → V
  | .pl u p is => .tup (.str u :: p.v :: is.map .int)
  | .hd u p r => .tup [.str u, p.v, rv r]
noncomputable def Rl.depth : Rl → Nat
  | .pl _ _ _ => 0
  | .hd _ _ r => r.depth + 1
noncomputable def Rl.words : Rl → List Str
  | .pl u p is => u :: p.s :: is.map numS
  | .hd u p r => u :: p.s :: r.words
noncomputable def Rl.text (r : Rl) : Str := Str.join " " r.words
noncomputable def small (i : Int) : Prop := -(10 ^ 12) < i ∧ i < 10 ^ 12
noncomputable def smalls (ds : List Int) : Prop := ∀ d ∈ ds, small d
noncomputable def Pt.ok (b : Bool) : Pt → Prop
  | .n i => b = false ∧ small i
  | .l ds => b = true ∧ ds ≠ [] ∧ ds.length ≤ 20 ∧ smalls ds
noncomputable def uOk (u : Str) : Bool := ((chs u).all fun c => decide (c < 128) && !(c == 32)) && decide (u.length ≤ 5)
noncomputable def Rl.fair : Rl → Prop
  | .pl u p is => (inOut u = false ∧ uOk u = true) ∧ p.ok (u == "week") ∧ smalls is ∧ (is.length = 1 ∨ is.length = 2)
  | .hd u p r => (inOut u = true ∧ uOk u = true) ∧ p.ok (u == "but") ∧ r.fair
theorem sp_eq : (Str.ofString " ") = one 32 := by decide
theorem co_eq : (Str.ofString ",") = one 44 := by decide
theorem words_ne (r : Rl) : r.words ≠ [] := by cases r <;> exact List.cons_ne_nil _ _

noncomputable def asc (x : Str) : Prop := ∀ c ∈ chs x, c < 128
noncomputable def wordOk (w : Str) : Prop := 32 ∉ chs w ∧ w.length ≤ 280 ∧ asc w
theorem u_ok {u : Str} (h : uOk u = true) : wordOk u ∧ u.length ≤ 5 := by
  unfold uOk at h
  rw [Bool.and_eq_true, List.all_eq_true, decide_eq_true_eq] at h
  refine ⟨⟨fun hc => absurd (h.1 32 hc) (by decide), Nat.le_trans h.2 (by decide), fun c hc => ?_⟩, h.2⟩
  have := h.1 c hc
  rw [Bool.and_eq_true, decide_eq_true_eq] at this
  exact this.1
theorem num_ok {i : Int} (h : small i) : wordOk (numS i) := by
  refine ⟨fun hc => ?_, Nat.le_trans (num_len h.1 h.2) (by decide), fun c hc => ?_⟩
  · rcases num_are i 32 hc with q | q <;> omega
  · rcases num_are i c hc with q | q <;> omega
theorem list_free {ds : List Int} : ∀ c ∈ chs (listS ds), c = 44 ∨ c = 45 ∨ (48 ≤ c ∧ c ≤ 57) := by
  refine join_chars (P := fun c => c = 44 ∨ c = 45 ∨ (48 ≤ c ∧ c ≤ 57)) ?_ _ ?_
  · rw [co_eq]; intro c hc; simp [chs, one] at hc; exact .inl hc
  · intro p hp c hc
    first | refine e2_1 (List.mem_map.mp hp) fun d _ e_283 => ?_ | refine e1_2 (List.mem_map.mp hp) fun d _ e_283 => ?_ | refine e0_3 (List.mem_map.mp hp) fun d _ e_283 => ?_ | obtain ⟨d, _, e_283⟩ := List.mem_map.mp hp
    obtain rfl := e_283
    exact .inr (num_are d c hc)
theorem list_sum {ds : List Int} (hs : ∀ d ∈ ds, small d) (hl : ds.length ≤ 20) : ((ds.map numS).map (·.length)).sum + (ds.map numS).length * (Str.ofString ",").length ≤ 280 := by
  have h := join_len (Str.ofString ",") 13 (ds.map numS) (fun p hp => by
    first | refine e2_1 (List.mem_map.mp hp) fun d hd e_284 => ?_ | refine e1_2 (List.mem_map.mp hp) fun d hd e_284 => ?_ | refine e0_3 (List.mem_map.mp hp) fun d hd e_284 => ?_ | obtain ⟨d, hd, e_284⟩ := List.mem_map.mp hp
    obtain rfl := e_284
    exact num_len (hs d hd).1 (hs d hd).2)
  have e : (Str.ofString ",").length = 1 := by decide
  rw [e] at h ⊢
  have e2 : (ds.map numS).length = ds.length := List.length_map _
  rw [e2] at h ⊢
  omega
theorem list_ok {ds : List Int} (hs : smalls ds) (hl : ds.length ≤ 20) : wordOk (listS ds) := by
  refine ⟨fun hc => ?_, Nat.le_trans (StrLaws.join_length_le _ _) (list_sum hs hl), fun c hc => ?_⟩
  · rcases list_free 32 hc with q | q | q <;> omega
  · rcases list_free c hc with q | q | q <;> omega
theorem pt_ok {b : Bool} : ∀ {p : Pt}, p.ok b → wordOk p.s
  | .n _, h => num_ok h.2
  | .l _, h => list_ok h.2.2.2 h.2.2.1
theorem words_ok {r : Rl} (g : r.fair) : ∀ w ∈ r.words, wordOk w := by
  induction r with
  | pl u p is =>
    refine List.forall_mem_cons.mpr ⟨(u_ok g.1.2).1, List.forall_mem_cons.mpr ⟨pt_ok g.2.1, fun w hw => ?_⟩⟩
    first | refine e2_1 (List.mem_map.mp hw) fun d hd e_285 => ?_ | refine e1_2 (List.mem_map.mp hw) fun d hd e_285 => ?_ | refine e0_3 (List.mem_map.mp hw) fun d hd e_285 => ?_ | obtain ⟨d, hd, e_285⟩ := List.mem_map.mp hw
    obtain rfl := e_285
    exact num_ok (g.2.2.1 d hd)
  | hd u p r ih => exact List.forall_mem_cons.mpr ⟨(u_ok g.1.2).1, List.forall_mem_cons.mpr ⟨pt_ok g.2.1, ih g.2.2⟩⟩
theorem words_len {r : Rl} (g : r.fair) : r.words.length ≤ 4 + 2 * r.depth ∧ 3 ≤ r.words.length := by
  induction r with
  | pl u p is =>
    show (is.map numS).length + 1 + 1 ≤ 4 + 2 * 0 ∧ 3 ≤ (is.map numS).length + 1 + 1
    have := g.2.2.2
    rw [List.length_map]; omega
  | hd u p r ih =>
    have := ih g.2.2
    show r.words.length + 1 + 1 ≤ 4 + 2 * (r.depth + 1) ∧ 3 ≤ r.words.length + 1 + 1
    omega
theorem sp_len : (Str.ofString " ").length = 1 := by decide
theorem words_sum {r : Rl} (g : r.fair) (hd : r.depth ≤ 8) : (r.words.map (·.length)).sum + r.words.length * (Str.ofString " ").length ≤ 6000 := by
  have h := join_len (Str.ofString " ") 280 r.words (fun p hp => (words_ok g p hp).2.1)
  rw [sp_len] at h ⊢
  have h2 := (words_len g).1
  have : r.words.length * (280 + 1) ≤ 20 * 281 := Nat.mul_le_mul_right _ (by omega)
  omega
theorem text_len {r : Rl} (g : r.fair) (hd : r.depth ≤ 8) : r.text.length ≤ 6000 := Nat.le_trans (StrLaws.join_length_le _ _) (words_sum g hd)
theorem split_text {r : Rl} (g : r.fair) : Txt.split r.text " " = r.words := by
  unfold Rl.text
  rw [sp_eq]
  exact split_join (words_ne r) fun p hp => (words_ok g p hp).1
theorem split_list {ds : List Int} (h : ds ≠ []) : Txt.split (listS ds) "," = ds.map numS := by
  unfold listS
  rw [co_eq]
  refine split_join (by simpa using h) fun p hp hc => ?_
  first | refine e2_1 (List.mem_map.mp hp) fun d _ e_286 => ?_ | refine e1_2 (List.mem_map.mp hp) fun d _ e_286 => ?_ | refine e0_3 (List.mem_map.mp hp) fun d _ e_286 => ?_ | obtain ⟨d, _, e_286⟩ := List.mem_map.mp hp
  obtain rfl := e_286
  rcases num_are d 44 hc with q | q <;> omega
theorem text_two (a b : Str) (r : Rl) : Str.join " " [a, b, r.text] = Str.join " " (a :: b :: r.words) := join_two _ [a, b] r.words (List.cons_ne_nil _ _) (words_ne r)

/- a rule can be shown by repr -/
noncomputable def okD (n k : Nat) (d : PyData) : Prop := d.showable = true ∧ d.depth ≤ k ∧ d.shown.length ≤ n
noncomputable def szs (ds : List PyData) : Nat := ((PyData.shownAll ds).map (·.length)).sum + 2 * ds.length
noncomputable def okDs (n k : Nat) (ds : List PyData) : Prop := PyData.showableAll ds = true ∧ PyData.depthAll ds ≤ k ∧ szs ds ≤ n
theorem okDs_nil {n k : Nat} : okDs n k [] := ⟨rfl, Nat.zero_le _, Nat.zero_le _⟩
theorem okDs_cons {n m k : Nat} {d : PyData} {ds : List PyData} (h1 : okD n k d) (h2 : okDs m k ds) : okDs (n + 2 + m) k (d :: ds) := by
  refine ⟨?_, ?_, ?_⟩
  · show (d.showable && PyData.showableAll ds) = true
    rw [h1.1, h2.1]; rfl
  · show max d.depth (PyData.depthAll ds) ≤ k
    exact Nat.max_le.mpr ⟨h1.2.1, h2.2.1⟩
  · show ((d.shown.length :: (PyData.shownAll ds).map (·.length)).sum + 2 * (ds.length + 1)) ≤ _
    have := h1.2.2
    have := h2.2.2
    unfold szs at this
    rw [List.sum_cons]; omega
theorem okD_tuple {n k : Nat} {ds : List PyData} (h : okDs n k ds) : okD (n + 3) (k + 1) (.tuple ds) := by
  refine ⟨h.1, Nat.succ_le_succ h.2.1, ?_⟩
  have h1 := tupleText_len_le (PyData.shownAll ds)
  rw [PyData.shownAll_length] at h1
  exact Nat.le_trans h1 (Nat.add_le_add_right h.2.2 3)
theorem okD.mono {n k n' k' : Nat} {d : PyData} (h : okD n k d) (h1 : n ≤ n') (h2 : k ≤ k') : okD n' k' d := ⟨h.1, Nat.le_trans h.2.1 h2, Nat.le_trans h.2.2 h1⟩
theorem okDs.mono {n k n' k' : Nat} {d : List PyData} (h : okDs n k d) (h1 : n ≤ n') (h2 : k ≤ k') : okDs n' k' d := ⟨h.1, Nat.le_trans h.2.1 h2, Nat.le_trans h.2.2 h1⟩
noncomputable def Sh (H : Hp) (n k : Nat) (v : V) : Prop := ∃ d, toPyT H v = some d ∧ okD n k d
noncomputable def Shs (H : Hp) (n k : Nat) (l : List V) : Prop := ∃ ds, toPysT H l = some ds ∧ okDs n k ds
theorem shs_nil {H : Hp} {n k : Nat} : Shs H n k [] := ⟨[], rfl, okDs_nil⟩
theorem shs_cons {H : Hp} {n m k : Nat} {v : V} {l : List V} (h1 : Sh H n k v) (h2 : Shs H m k l) : Shs H (n + 2 + m) k (v :: l) := by
  first | refine e2_1 h1 fun d e1 o1 => ?_ | refine e1_2 h1 fun d e1 o1 => ?_ | refine e0_3 h1 fun d e1 o1 => ?_ | obtain ⟨d, e1, o1⟩ := h1
  first | refine e2_1 h2 fun ds e2 o2 => ?_ | refine e1_2 h2 fun ds e2 o2 => ?_ | refine e0_3 h2 fun ds e2 o2 => ?_ | obtain ⟨ds, e2, o2⟩ := h2
  refine ⟨d :: ds, ?_, okDs_cons o1 o2⟩
  show (toPyT H v).bind (fun d => (toPysT H l).map (d :: ·)) = _
  rw [e1, e2]; rfl
theorem sh_tup {H : Hp} {n k : Nat} {l : List V} (h : Shs H n k l) : Sh H (n + 3) (k + 1) (.tup l) := by
  first | refine e2_1 h fun ds e o => ?_ | refine e1_2 h fun ds e o => ?_ | refine e0_3 h fun ds e o => ?_ | obtain ⟨ds, e, o⟩ := h
  refine ⟨.tuple ds, ?_, okD_tuple o⟩
  show (toPysT H l).map PyData.tuple = _
  rw [e]; rfl
theorem sh_int {H : Hp} {k : Nat} {i : Int} (h : small i) : Sh H 14 k (.int i) := by
  have hn : i.natAbs < 10 ^ 12 := by unfold small at h; omega
  refine ⟨.int i, rfl, ?_, Nat.zero_le _, ?_⟩
  · show decide (i.natAbs.log2 < 1920) = true
    refine decide_eq_true ?_
    by_cases h0 : i.natAbs = 0
    · rw [h0]; decide
    · exact (Nat.log2_lt h0).mpr (Nat.lt_of_lt_of_le hn (by decide))
  · exact Nat.le_trans (num_len h.1 h.2) (by decide)
theorem sh_word {H : Hp} {k : Nat} {s : Str} (h : uOk s = true) : Sh H 60 k (.str s) := by
  refine ⟨.str s, rfl, rfl, Nat.zero_le _, ?_⟩
  have o := u_ok h
  have e := StrLaws.reprText_len s fun c hc => Nat.lt_trans (o.1.2.2 c hc) (by decide)
  have := o.2
  show (reprText s).length ≤ 60
  omega
theorem shs_ints {H : Hp} {k : Nat} : ∀ {l : List Int}, (∀ d ∈ l, small d) → Shs H (16 * l.length) k (l.map V.int)
  | [], _ => shs_nil
  | d :: r, h => by
    have := shs_cons (k := k) (sh_int (H := H) (h d (by simp))) (shs_ints (H := H) (l := r) fun x hx => h x (List.mem_cons_of_mem _ hx))
    first | refine e2_1 this fun ds e o => ?_ | refine e1_2 this fun ds e o => ?_ | refine e0_3 this fun ds e o => ?_ | obtain ⟨ds, e, o⟩ := this
    exact ⟨ds, e, o.mono (by simp only [List.length_cons]; omega) (Nat.le_refl _)⟩
theorem sh_ints {H : Hp} {l : List Int} (h : ∀ d ∈ l, small d) (hl : l.length ≤ 20) : Sh H 400 1 (intsV l) := by
  first | refine e2_1 (sh_tup (shs_ints (H := H) (k := 0) h)) fun d e o => ?_ | refine e1_2 (sh_tup (shs_ints (H := H) (k := 0) h)) fun d e o => ?_ | refine e0_3 (sh_tup (shs_ints (H := H) (k := 0) h)) fun d e o => ?_ | obtain ⟨d, e, o⟩ := sh_tup (shs_ints (H := H) (k := 0) h)
  exact ⟨d, e, o.mono (by omega) (Nat.le_refl _)⟩
theorem Sh.mono {H : Hp} {n k n' k' : Nat} {v : V} (h : Sh H n k v) (h1 : n ≤ n') (h2 : k ≤ k') : Sh H n' k' v := h.imp fun _ x => ⟨x.1, x.2.mono h1 h2⟩
theorem sh_pt {H : Hp} {b : Bool} {k : Nat} : ∀ {p : Pt}, p.ok b → Sh H 400 (k + 1) p.v
  | .n _, h => (sh_int (k := 0) h.2).mono (by decide) (Nat.zero_le _)
  | .l _, h => (sh_ints h.2.2.2 h.2.2.1).mono (Nat.le_refl _) (by omega)
theorem sh_rule {H : Hp} {r : Rl} (g : r.fair) : Sh H (1000 + 1000 * r.depth) (2 + r.depth) (rv r) := by
  induction r with
  | pl u p is =>
    refine (sh_tup (shs_cons (k := 1) (sh_word g.1.2) (shs_cons (sh_pt g.2.1) (shs_ints g.2.2.1)))).mono ?_ (Nat.le_refl _)
    have := g.2.2.2
    omega
  | hd u p r ih =>
    refine (sh_tup (shs_cons (sh_word g.1.2) (shs_cons (sh_pt (k := 1 + r.depth) g.2.1) (shs_cons ((ih g.2.2).mono (Nat.le_refl _) (by omega)) (shs_nil (n := 0)))))).mono ?_ ?_
    · show _ ≤ 1000 + 1000 * (r.depth + 1); omega
    · show _ ≤ 2 + (r.depth + 1); omega
end Mine

set_option autoImplicit false
set_option linter.unusedSimpArgs false
set_option maxRecDepth 20000
/- Law 07: what a word is worth. -/
namespace Mine
open PySem PyProof.Rows

theorem beq_one (a b : Nat) : ((one a) == (one b)) = decide (a = b) := by
  by_cases h : a = b
  · subst h; simp
  · have : ¬ (one a = one b) := fun e => h (by have := congrArg chs e; simpa [chs, one] using this)
    rw [decide_eq_false h]
    exact beq_false_of_ne this
theorem mi_eq : (Str.ofString "-") = one 45 := by decide
theorem slice_to {x : Str} {c : Nat} {cs : List Nat} (h : chs x = c :: cs) : Txt.slice x none (some 1) = one c := by
  have hl : (1 : Int) ≤ x.cps.toList.length := by show (1 : Int) ≤ (chs x).length; rw [h]; simp only [List.length_cons]; omega
  have e := StrLaws.sliceText_to (x := x) (j := 1) ⟨by decide, hl⟩
  have e2 : Txt.slice x none (some 1) = StrLaws.sliceText x none (some 1) := rfl
  rw [e2, e]
  apply str_ext
  show ((chs x).drop 0).take 1 = [c]
  rw [h]; rfl
theorem slice_from {x : Str} {c : Nat} {cs : List Nat} (h : chs x = c :: cs) : chs (Txt.slice x (some 1) none) = cs := by
  have hl : (1 : Int) ≤ x.cps.toList.length := by show (1 : Int) ≤ (chs x).length; rw [h]; simp only [List.length_cons]; omega
  have e := StrLaws.sliceText_from (x := x) (i := 1) ⟨by decide, hl⟩
  have e2 : Txt.slice x (some 1) none = StrLaws.sliceText x (some 1) none := rfl
  rw [e2, e]
  simp only [chs] at h ⊢
  rw [h]
  simp
noncomputable def isFig (c : Nat) : Bool := decide (48 ≤ c) && decide (c ≤ 57)
theorem fig_iff {c : Nat} : isFig c = true ↔ 48 ≤ c ∧ c ≤ 57 := by unfold isFig; rw [Bool.and_eq_true, decide_eq_true_eq, decide_eq_true_eq]
theorem fig_in {c : Nat} (hc : c < 128) : Txt.contains "0123456789" (one c) = isFig c := by
  have h : ∀ c : Fin 128, Txt.contains "0123456789" (one c.val) = isFig c.val := by decide +kernel
  exact h ⟨c, hc⟩
/- the figures: what is behind the first minus -/
noncomputable def figL : List Nat → List Nat
  | 45 :: r => r
  | cs => cs
noncomputable def figS (w : Str) : Str := match chs w with
  | 45 :: _ => Txt.slice w (some 1) none
  | _ => w
noncomputable def startsM (w : Str) : Bool := (Txt.slice w none (some 1)) == Str.ofString "-"
theorem starts_eq (w : Str) : startsM w = (match chs w with | 45 :: _ => true | _ => false) := by
  unfold startsM
  cases h : chs w with
  | nil =>
    have : w = ⟨#[]⟩ := str_ext (h.trans rfl)
    subst this; decide
  | cons c cs =>
    rw [slice_to h, mi_eq, beq_one]
    by_cases hc : c = 45
    · subst hc; rfl
    · rw [decide_eq_false hc]
      split
      · rename_i q; cases q; exact absurd rfl hc
      · rfl
theorem figS_eq (w : Str) : chs (figS w) = figL (chs w) := by
  unfold figS
  cases h : chs w with
  | nil => exact h
  | cons c cs =>
    by_cases hc : c = 45
    · subst hc; exact slice_from h
    · have e : figL (c :: cs) = c :: cs := by
        unfold figL; split
        · rename_i q; cases q; exact absurd rfl hc
        · rfl
      rw [e]
      split
      · rename_i q; cases q; exact absurd rfl hc
      · exact h
theorem fig_step (w : Str) : (if startsM w then Txt.slice w (some 1) none else w) = figS w := by
  rw [starts_eq]
  unfold figS
  split <;> rfl
noncomputable def okNum (n : Nat) (w : Str) : Bool := !(figL (chs w)).isEmpty && (decide ((figL (chs w)).length ≤ n) && (figL (chs w)).all isFig)
noncomputable def valOf (w : Str) : Int := match chs w with
  | 45 :: r => -((NumText.digitsVal r : Nat) : Int)
  | cs => ((NumText.digitsVal cs : Nat) : Int)
noncomputable def numOf (w : Str) : Option Int := if okNum 13 w then some (valOf w) else none
noncomputable def lead0 (w : Str) : Bool := (figL (chs w)).head? == some 48 && !(w == "0")
noncomputable def lawNum (w : Str) : Option Int := if okNum 40 w then (if lead0 w then none else some (valOf w)) else none
noncomputable def numV (w : Str) : V := match lawNum w with
  | some i => .int i
  | none => .none
theorem ok_inv {n : Nat} {w : Str} (h : okNum n w = true) : figL (chs w) ≠ [] ∧ (figL (chs w)).length ≤ n ∧ NumText.AllDigits (figL (chs w)) := by
  unfold okNum at h
  simp only [Bool.and_eq_true, Bool.not_eq_true', decide_eq_true_eq, List.all_eq_true] at h
  exact ⟨fun e => by rw [e] at h; exact absurd h.1 (by decide), h.2.1, fun c hc => fig_iff.mp (h.2.2 c hc)⟩
theorem ok_of {n : Nat} {w : Str} (h1 : figL (chs w) ≠ []) (h2 : (figL (chs w)).length ≤ n) (h3 : ∀ c ∈ figL (chs w), 48 ≤ c ∧ c ≤ 57) : okNum n w = true := by
  unfold okNum
  have : (figL (chs w)).isEmpty = false := by cases h : figL (chs w) with | nil => exact absurd h h1 | cons a b => rfl
  rw [this, decide_eq_true h2, List.all_eq_true.mpr fun c hc => fig_iff.mpr (h3 c hc)]; rfl
theorem fig_len {w : Str} : (chs w).length ≤ (figL (chs w)).length + 1 := by
  unfold figL
  split
  · rename_i r e; rw [e, List.length_cons]; exact Nat.le_refl _
  · omega
theorem ok_reads {n : Nat} {w : Str} (h : okNum n w = true) (hn : n ≤ 4000) : intText? w = some (valOf w) := by
  first | refine e2_1 (ok_inv h) fun h1 h2 h3 => ?_ | refine e1_2 (ok_inv h) fun h1 h2 h3 => ?_ | refine e0_3 (ok_inv h) fun h1 h2 h3 => ?_ | obtain ⟨h1, h2, h3⟩ := ok_inv h
  have hl := fig_len (w := w)
  unfold valOf
  cases hc : chs w with
  | nil => rw [hc] at h1; exact absurd rfl h1
  | cons c cs =>
    have hlen : w.length ≤ 4300 := by rw [len_chs]; omega
    by_cases h45 : c = 45
    · subst h45
      rw [hc] at h1 h3
      exact intText_neg hc h3 h1 hlen
    · have e : figL (c :: cs) = c :: cs := by
        unfold figL; split
        · rename_i q; cases q; exact absurd rfl h45
        · rfl
      rw [hc, e] at h1 h3
      have := intText_digits (x := w) (by show NumText.AllDigits (chs w); rw [hc]; exact h3) (by show chs w ≠ []; rw [hc]; exact h1) hlen
      rw [this]
      show some ((NumText.digitsVal (chs w) : Nat) : Int) = _
      rw [hc]
      split
      · rename_i q; cases q; exact absurd rfl h45
      · rfl
theorem head_digs : ∀ (m : Nat), 0 < m → ∃ c r, digs m = c :: r ∧ 49 ≤ c := by
  intro m
  induction m using Nat.strongRecOn with
  | ind m ih =>
    intro hm
    unfold digs
    rw [Nat.toDigits_eq_if (by decide)]
    by_cases h : m < 10
    · rw [if_pos h]
      have h2 : ∀ k : Fin 10, 0 < k.val → 49 ≤ (Nat.digitChar k.val).toNat := by decide
      exact ⟨_, [], rfl, h2 ⟨m, h⟩ hm⟩
    · rw [if_neg h]
      first | refine e3_1 (ih (m / 10) (by omega) (by omega)) fun c r e hc => ?_ | refine e2_2 (ih (m / 10) (by omega) (by omega)) fun c r e hc => ?_ | refine e1_3 (ih (m / 10) (by omega) (by omega)) fun c r e hc => ?_ | refine e0_4 (ih (m / 10) (by omega) (by omega)) fun c r e hc => ?_ | obtain ⟨c, r, e, hc⟩ := ih (m / 10) (by omega) (by omega)
      unfold digs at e
      exact ⟨c, r ++ [(Nat.digitChar (m % 10)).toNat], by rw [List.map_append, e]; rfl, hc⟩
theorem digs_back {cs : List Nat} (h1 : cs ≠ []) (h : NumText.AllDigits cs) (hz : cs.length = 1 ∨ ∃ c r, cs = c :: r ∧ 49 ≤ c) : digs (NumText.digitsVal cs) = cs := by
  unfold digs
  have hp := List.length_pos_iff.mpr h1
  rw [NumText.toDigits_digitsVal (cs.length - 1) cs (by omega) h (by rcases hz with q | q; exact .inl (by omega); exact .inr q)]
  rw [List.map_map]
  have : ∀ c ∈ cs, (Char.toNat ∘ Char.ofNat) c = c := fun c hc => by
    have h2 : ∀ k : Fin 128, (Char.ofNat k.val).toNat = k.val := by decide
    have := h c hc
    exact h2 ⟨c, by omega⟩
  rw [List.map_congr_left this]; simp
theorem fig_num_pos (m : Nat) : figL (chs (numS (m : Int))) = digs m := by
  rw [num_pos]
  first | refine e2_1 (List.exists_cons_of_ne_nil (digs_ne m)) fun c cs e => ?_ | refine e1_2 (List.exists_cons_of_ne_nil (digs_ne m)) fun c cs e => ?_ | refine e0_3 (List.exists_cons_of_ne_nil (digs_ne m)) fun c cs e => ?_ | obtain ⟨c, cs, e⟩ := List.exists_cons_of_ne_nil (digs_ne m)
  have := digs_are m c (by rw [e]; simp)
  rw [e]
  unfold figL; split
  · rename_i q; cases q; omega
  · rfl
theorem fig_num_neg (m : Nat) : figL (chs (numS (Int.negSucc m))) = digs (m + 1) := by rw [num_neg]; rfl
theorem val_digs (m : Nat) : NumText.digitsVal (digs m) = m := PySem.W.KIN.val_back m
theorem val_num (i : Int) : valOf (numS i) = i := by
  unfold valOf
  cases i with
  | ofNat m =>
    rw [show Int.ofNat m = (m : Int) from rfl, num_pos]
    first | refine e2_1 (List.exists_cons_of_ne_nil (digs_ne m)) fun c cs e => ?_ | refine e1_2 (List.exists_cons_of_ne_nil (digs_ne m)) fun c cs e => ?_ | refine e0_3 (List.exists_cons_of_ne_nil (digs_ne m)) fun c cs e => ?_ | obtain ⟨c, cs, e⟩ := List.exists_cons_of_ne_nil (digs_ne m)
    have := digs_are m c (by rw [e]; simp)
    split
    · rename_i q; rw [e] at q; cases q; omega
    · rw [val_digs]
  | negSucc m =>
    rw [num_neg]
    show -((NumText.digitsVal (digs (m + 1)) : Nat) : Int) = _
    rw [val_digs]; rfl
theorem ok_num {i : Int} (h : small i) {n : Nat} (hn : 13 ≤ n) : okNum n (numS i) = true := by
  have hl := num_len h.1 h.2
  rw [len_chs] at hl
  cases i with
  | ofNat m =>
    rw [show Int.ofNat m = (m : Int) from rfl] at hl ⊢
    refine ok_of ?_ ?_ ?_ <;> rw [fig_num_pos]
    · exact digs_ne m
    · rw [num_pos] at hl; omega
    · exact digs_are m
  | negSucc m =>
    refine ok_of ?_ ?_ ?_ <;> rw [fig_num_neg]
    · exact digs_ne _
    · rw [num_neg, List.length_cons] at hl; omega
    · exact digs_are _
theorem numOf_num {i : Int} (h : small i) : numOf (numS i) = some i := by
  unfold numOf
  rw [if_pos (ok_num h (Nat.le_refl _)), val_num]
theorem lawNum_num {i : Int} (h : small i) : lawNum (numS i) = some i := by
  unfold lawNum
  rw [if_pos (ok_num h (by decide)), val_num]
  have : lead0 (numS i) = false := by
    unfold lead0
    cases i with
    | ofNat m =>
      cases m with
      | zero => decide
      | succ m =>
        first | refine e3_1 (head_digs (m + 1) (by omega)) fun c r e hc => ?_ | refine e2_2 (head_digs (m + 1) (by omega)) fun c r e hc => ?_ | refine e1_3 (head_digs (m + 1) (by omega)) fun c r e hc => ?_ | refine e0_4 (head_digs (m + 1) (by omega)) fun c r e hc => ?_ | obtain ⟨c, r, e, hc⟩ := head_digs (m + 1) (by omega)
        rw [show Int.ofNat (m + 1) = ((m + 1 : Nat) : Int) from rfl, fig_num_pos, e]
        have : ((c :: r).head? == some 48) = false := by
          refine beq_false_of_ne ?_
          intro q
          have : c = 48 := by simpa using q
          omega
        rw [this]; rfl
    | negSucc m =>
      first | refine e3_1 (head_digs (m + 1) (by omega)) fun c r e hc => ?_ | refine e2_2 (head_digs (m + 1) (by omega)) fun c r e hc => ?_ | refine e1_3 (head_digs (m + 1) (by omega)) fun c r e hc => ?_ | refine e0_4 (head_digs (m + 1) (by omega)) fun c r e hc => ?_ | obtain ⟨c, r, e, hc⟩ := head_digs (m + 1) (by omega)
      rw [fig_num_neg, e]
      have : ((c :: r).head? == some 48) = false := by
        refine beq_false_of_ne ?_
        intro q
        have : c = 48 := by simpa using q
        omega
      rw [this]; rfl
  rw [this]; rfl
theorem lawNum_back {w : Str} {i : Int} (h : lawNum w = some i) : numS i = w := by
  unfold lawNum at h
  cases ho : okNum 40 w with
  | false => rw [ho] at h; cases h
  | true =>
    rw [ho, if_pos rfl] at h
    cases hl : lead0 w with
    | true => rw [hl] at h; cases h
    | false =>
      rw [hl] at h
      cases h
      first | refine e2_1 (ok_inv ho) fun h1 h2 h3 => ?_ | refine e1_2 (ok_inv ho) fun h1 h2 h3 => ?_ | refine e0_3 (ok_inv ho) fun h1 h2 h3 => ?_ | obtain ⟨h1, h2, h3⟩ := ok_inv ho
      unfold lead0 at hl
      have hd : (figL (chs w)).head? = some 48 → w = "0" := fun q => by
        rw [q] at hl
        have e2 : (some 48 == some (48 : Nat)) = true := rfl
        rw [e2, Bool.true_and, Bool.not_eq_false'] at hl
        exact eq_of_beq hl
      first | refine e2_1 (List.exists_cons_of_ne_nil h1) fun c cs e => ?_ | refine e1_2 (List.exists_cons_of_ne_nil h1) fun c cs e => ?_ | refine e0_3 (List.exists_cons_of_ne_nil h1) fun c cs e => ?_ | obtain ⟨c, cs, e⟩ := List.exists_cons_of_ne_nil h1
      have hc := h3 c (by rw [e]; simp)
      by_cases h48 : c = 48
      · subst h48
        have := hd (by rw [e]; rfl)
        subst this; decide
      · have hz : digs (NumText.digitsVal (figL (chs w))) = figL (chs w) := digs_back h1 h3 (.inr ⟨c, cs, e, by omega⟩)
        have hpos : 0 < NumText.digitsVal (figL (chs w)) := by rw [e]; exact NumText.digitsVal_pos (by omega)
        apply str_ext
        unfold valOf
        cases hw : chs w with
        | nil => rw [hw] at h1; exact absurd rfl h1
        | cons d ds =>
          by_cases h45 : d = 45
          · subst h45
            rw [hw] at hz hpos
            have hz : digs (NumText.digitsVal ds) = ds := hz
            have hpos : 0 < NumText.digitsVal ds := hpos
            show chs (numS (-((NumText.digitsVal ds : Nat) : Int))) = 45 :: ds
            obtain ⟨k, hk⟩ : ∃ k, NumText.digitsVal ds = k + 1 := ⟨NumText.digitsVal ds - 1, by omega⟩
            rw [hk] at hz ⊢
            have := num_neg k
            rw [hz] at this
            exact this
          · have e2 : figL (d :: ds) = d :: ds := by
              unfold figL; split
              · rename_i q; cases q; exact absurd rfl h45
              · rfl
            rw [hw, e2] at hz
            have e3 : (match d :: ds with | 45 :: r => -((NumText.digitsVal r : Nat) : Int) | cs => ((NumText.digitsVal cs : Nat) : Int)) = ((NumText.digitsVal (d :: ds) : Nat) : Int) := by
              split
              · rename_i q; cases q; exact absurd rfl h45
              · rfl
            rw [e3, num_pos, hz]
end Mine

set_option autoImplicit false
set_option linter.unusedSimpArgs false
set_option maxRecDepth 20000
/- Law 07: rules out of words. -/
namespace Mine
open PySem PyProof.Rows

/- as the law reads -/
noncomputable def numsV (w : Str) : V := .tup ((Txt.split w ",").map numV)
noncomputable def fstV (b : Bool) (w : Str) : V := if b then numsV w else numV w
noncomputable def hdV (u w : Str) : V := fstV (u == "but") w
noncomputable def plP (u : Str) : List Str → List V
  | [] => []
  | w :: r => fstV (u == "week") w :: r.map numV
noncomputable def plV (u : Str) (r : List Str) : V := .tup (.str u :: plP u r)
theorem plP_cons {u w : Str} {r : List Str} : plP u (w :: r) = fstV (u == "week") w :: r.map numV := rfl
noncomputable def lawRule : List Str → V
  | u :: w :: x :: r => if inOut u then .tup [.str u, hdV u w, lawRule (x :: r)] else plV u (w :: x :: r)
  | [u, w] => plV u [w]
  | [u] => plV u []
  | [] => .none
/- as the program reads -/
noncomputable def mapN : List Str → Option (List Int)
  | [] => some []
  | w :: r => (match numOf w with | some i => (mapN r).map (i :: ·) | none => none)
noncomputable def numsOf (w : Str) : Option (List Int) := mapN (Txt.split w ",")
noncomputable def fstOf (b : Bool) (w : Str) : Option V := if b then (numsOf w).map intsV else (numOf w).map .int
noncomputable def hdOf (u w : Str) : Option V := fstOf (u == "but") w
noncomputable def plO (u : Str) (a : Option V) (is : Option (List Int)) : Option V := match a with
  | some a => is.map fun is => .tup (.str u :: a :: is.map .int)
  | none => none
noncomputable def plOf (u : Str) (r : List Str) : Option V :=
  if r.length = 2 ∨ r.length = 3 then (match r with
    | w :: r' => plO u (fstOf (u == "week") w) (mapN r')
    | [] => none)
  else none
noncomputable def hdO (u : Str) (a v : Option V) : Option V := match v with
  | some v => a.map fun a => .tup [.str u, a, v]
  | none => none
noncomputable def ruleOf : Nat → List Str → Option V
  | 0, _ => none
  | n + 1, ws => match ws with
    | [] => none
    | u :: r => if inOut u then (match r with
        | w :: x :: r' => hdO u (hdOf u w) (ruleOf n (x :: r'))
        | _ => none) else plOf u r

theorem mapN_num : ∀ {ds : List Int}, smalls ds → mapN (ds.map numS) = some ds
  | [], _ => rfl
  | d :: r, h => by
    show (match numOf (numS d) with | some i => (mapN (r.map numS)).map (i :: ·) | none => none) = _
    rw [numOf_num (h d (by simp)), mapN_num fun x hx => h x (List.mem_cons_of_mem _ hx)]; rfl
theorem fstOf_ok {b : Bool} : ∀ {p : Pt}, p.ok b → fstOf b p.s = some p.v
  | .n i, h => by
    rw [h.1]
    show (numOf (numS i)).map V.int = _
    rw [numOf_num h.2]; rfl
  | .l ds, h => by
    rw [h.1]
    show (mapN (Txt.split (listS ds) ",")).map intsV = _
    rw [split_list h.2.1, mapN_num h.2.2.2]; rfl
theorem ruleOf_plain {n : Nat} {u : Str} {r : List Str} (h : inOut u = false) : ruleOf (n + 1) (u :: r) = plOf u r := by
  show (if inOut u then _ else _) = _
  rw [h]; rfl
theorem ruleOf_head {n : Nat} {u w x : Str} {r : List Str} (h : inOut u = true) : ruleOf (n + 1) (u :: w :: x :: r) = hdO u (hdOf u w) (ruleOf n (x :: r)) := by
  show (if inOut u then _ else _) = _
  rw [h]; rfl
theorem ruleOf_words {r : Rl} (g : r.fair) : ∀ {n : Nat}, r.depth < n → ruleOf n r.words = some (rv r) := by
  induction r with
  | pl u p is =>
    intro n hd
    cases n with
    | zero => cases hd
    | succ n =>
      refine (ruleOf_plain g.1.1).trans ?_
      unfold plOf
      rw [if_pos (by have := g.2.2.2; rw [List.length_cons, List.length_map]; omega)]
      show plO u (fstOf (u == "week") p.s) (mapN (is.map numS)) = _
      rw [fstOf_ok g.2.1, mapN_num g.2.2.1]; rfl
  | hd u p r ih =>
    intro n hd
    cases n with
    | zero => cases hd
    | succ n =>
      have ih := ih g.2.2 (Nat.lt_of_succ_lt_succ hd)
      first | refine e2_1 (List.exists_cons_of_ne_nil (words_ne r)) fun x r' e => ?_ | refine e1_2 (List.exists_cons_of_ne_nil (words_ne r)) fun x r' e => ?_ | refine e0_3 (List.exists_cons_of_ne_nil (words_ne r)) fun x r' e => ?_ | obtain ⟨x, r', e⟩ := List.exists_cons_of_ne_nil (words_ne r)
      rw [e] at ih
      show ruleOf (n + 1) (u :: p.s :: r.words) = _
      rw [e, ruleOf_head g.1.1, ih]
      show (fstOf (u == "but") p.s).map _ = _
      rw [fstOf_ok g.2.1]; rfl

theorem numV_num {i : Int} (h : small i) : numV (numS i) = .int i := by unfold numV; rw [lawNum_num h]
theorem maps_num {ds : List Int} (h : smalls ds) : (ds.map numS).map numV = ds.map V.int := by
  rw [List.map_map]
  exact List.map_congr_left fun d hd => numV_num (h d hd)
theorem fstV_ok {b : Bool} : ∀ {p : Pt}, p.ok b → fstV b p.s = p.v
  | .n i, h => by rw [h.1]; exact numV_num h.2
  | .l ds, h => by
    rw [h.1]
    show V.tup ((Txt.split (listS ds) ",").map numV) = V.tup (ds.map V.int)
    rw [split_list h.2.1, maps_num h.2.2.2]
theorem lawRule_plain {u w x : Str} {r : List Str} (h : inOut u = false) : lawRule (u :: w :: x :: r) = plV u (w :: x :: r) := by
  show (if inOut u then _ else _) = _
  rw [h]; rfl
theorem lawRule_head {u w x : Str} {r : List Str} (h : inOut u = true) : lawRule (u :: w :: x :: r) = .tup [.str u, hdV u w, lawRule (x :: r)] := by
  show (if inOut u then _ else _) = _
  rw [h]; rfl
theorem lawRule_words {r : Rl} (g : r.fair) : lawRule r.words = rv r := by
  induction r with
  | pl u p is =>
    cases is with
    | nil => exact absurd g.2.2.2 (by decide)
    | cons i is =>
      refine (lawRule_plain g.1.1).trans ?_
      show V.tup (.str u :: fstV (u == "week") p.s :: ((i :: is).map numS).map numV) = V.tup (.str u :: p.v :: (i :: is).map V.int)
      rw [fstV_ok g.2.1, maps_num g.2.2.1]
  | hd u p r ih =>
    have ih := ih g.2.2
    first | refine e2_1 (List.exists_cons_of_ne_nil (words_ne r)) fun x r' e => ?_ | refine e1_2 (List.exists_cons_of_ne_nil (words_ne r)) fun x r' e => ?_ | refine e0_3 (List.exists_cons_of_ne_nil (words_ne r)) fun x r' e => ?_ | obtain ⟨x, r', e⟩ := List.exists_cons_of_ne_nil (words_ne r)
    rw [e] at ih
    show lawRule (u :: p.s :: r.words) = V.tup [.str u, p.v, rv r]
    rw [e, lawRule_head g.1.1, ih]
    unfold hdV
    rw [fstV_ok g.2.1]

/- back -/
theorem numV_int {w : Str} {i : Int} (h : numV w = .int i) : w = numS i := by
  unfold numV at h
  cases e : lawNum w with
  | none => rw [e] at h; cases h
  | some j => rw [e] at h; cases h; exact (lawNum_back e).symm
theorem map_back : ∀ {ws : List Str} {ds : List Int}, ws.map numV = ds.map V.int → ws = ds.map numS
  | [], [], _ => rfl
  | [], _ :: _, h => by cases h
  | _ :: _, [], h => by cases h
  | w :: ws, d :: ds, h => by
    simp only [List.map_cons, List.cons.injEq] at h
    rw [List.map_cons, ← map_back h.2, ← numV_int h.1]
noncomputable def tupL : V → List V
  | .tup l => l
  | _ => []
noncomputable def strO : V → Option Str
  | .str s => some s
  | _ => none
theorem strO_inj {x y : Str} (h : V.str x = .str y) : x = y := Option.some.inj (congrArg strO h)
theorem fst_back {b : Bool} {w : Str} : ∀ {p : Pt}, p.ok b → fstV b w = p.v → w = p.s
  | .n i, h, e => by rw [h.1] at e; exact numV_int e
  | .l ds, h, e => by
    rw [h.1] at e
    have e : (Txt.split w ",").map numV = ds.map V.int := congrArg tupL e
    show w = Str.join "," (ds.map numS)
    rw [← map_back e, StrLaws.join_split]
theorem rv_3 {l : List V} : ∀ {R : Rl}, R.fair → .tup l = rv R → 3 ≤ l.length
  | .pl u p is, g, h => by
    rw [show l = .str u :: p.v :: is.map V.int from congrArg tupL h]
    have := g.2.2.2
    show 3 ≤ (is.map V.int).length + 1 + 1
    rw [List.length_map]; omega
  | .hd u p r, g, h => by
    rw [show l = [.str u, p.v, rv r] from congrArg tupL h]
    exact Nat.le_refl 3
theorem lr_back : ∀ {ws : List Str} {R : Rl}, R.fair → lawRule ws = rv R → ws = R.words
  | [], .pl _ _ _, _, h => V.noConfusion h
  | [], .hd _ _ _, _, h => V.noConfusion h
  | [u], R, g, h => absurd (rv_3 (l := [.str u]) g h) (by show ¬ 3 ≤ 1; decide)
  | [u, w], R, g, h => absurd (rv_3 (l := [.str u, fstV (u == "week") w]) g h) (by show ¬ 3 ≤ 2; decide)
  | u :: w :: x :: r, .pl u' p is, g, h => by
    cases ho : inOut u with
    | true =>
      rw [lawRule_head ho] at h
      rw [strO_inj (List.cons.inj (congrArg tupL h)).1, g.1.1] at ho; cases ho
    | false =>
      rw [lawRule_plain ho] at h
      have h := List.cons.inj (congrArg tupL h)
      have h2 := List.cons.inj h.2
      cases strO_inj h.1
      rw [fst_back g.2.1 h2.1, map_back (ws := x :: r) h2.2]; rfl
  | u :: w :: x :: r, .hd u' p r', g, h => by
    cases ho : inOut u with
    | true =>
      rw [lawRule_head ho] at h
      have h := List.cons.inj (congrArg tupL h)
      have h2 := List.cons.inj h.2
      cases strO_inj h.1
      rw [fst_back g.2.1 h2.1, lr_back g.2.2 (List.cons.inj h2.2).1]; rfl
    | false =>
      rw [lawRule_plain ho] at h
      rw [strO_inj (List.cons.inj (congrArg tupL h)).1, g.1.1] at ho; cases ho

/- a rule that is good is fair -/
theorem btI {a : V} {lo hi : Int} (h : bt a lo hi = true) (h1 : -(10 ^ 12) < lo) (h2 : hi < 10 ^ 12) : ∃ i, a = .int i ∧ small i := by
  cases a with
  | int i =>
    have h : (decide (lo ≤ i) && decide (i ≤ hi)) = true := h
    rw [Bool.and_eq_true, decide_eq_true_eq, decide_eq_true_eq] at h
    exact ⟨i, rfl, Int.lt_of_lt_of_le h1 h.1, Int.lt_of_le_of_lt h.2 h2⟩
  | _ => exact Bool.noConfusion h
theorem risI {most : Int} (hm : most < 10 ^ 12) : ∀ {l : List V} {a : Int}, -1 ≤ a → risGo most a l = true → ∃ ds, l = ds.map V.int ∧ smalls ds
  | [], a, _, _ => ⟨[], rfl, fun _ h => nomatch h⟩
  | v :: r, a, ha, h => by
    rw [show risGo most a (v :: r) = (bt v (a + 1) most && risGo most (intOf v) r) from rfl, Bool.and_eq_true] at h
    first | refine e2_1 (btI h.1 (by omega) hm) fun i e_287 hi => ?_ | refine e1_2 (btI h.1 (by omega) hm) fun i e_287 hi => ?_ | refine e0_3 (btI h.1 (by omega) hm) fun i e_287 hi => ?_ | obtain ⟨i, e_287, hi⟩ := btI h.1 (by omega) hm
    obtain rfl := e_287
    have h1 : (decide (a + 1 ≤ i) && decide (i ≤ most)) = true := h.1
    rw [Bool.and_eq_true, decide_eq_true_eq] at h1
    first | refine e2_1 (risI hm (l := r) (a := i) (by omega) h.2) fun ds e_288 hs => ?_ | refine e1_2 (risI hm (l := r) (a := i) (by omega) h.2) fun ds e_288 hs => ?_ | refine e0_3 (risI hm (l := r) (a := i) (by omega) h.2) fun ds e_288 hs => ?_ | obtain ⟨ds, e_288, hs⟩ := risI hm (l := r) (a := i) (by omega) h.2
    obtain rfl := e_288
    exact ⟨i :: ds, rfl, List.forall_mem_cons.mpr ⟨hi, hs⟩⟩
theorem riI {a : V} {m most : Int} (h : rising a m most = true) (h1 : m ≤ 20) (h2 : most < 10 ^ 12) : ∃ p : Pt, a = p.v ∧ p.ok true := by
  cases a with
  | tup l =>
    have h : ((decide (1 ≤ (l.length : Int)) && decide ((l.length : Int) ≤ m)) && risGo most (-1) l) = true := h
    rw [Bool.and_eq_true, Bool.and_eq_true, decide_eq_true_eq, decide_eq_true_eq] at h
    first | refine e2_1 (risI h2 (by decide) h.2) fun ds e_289 hs => ?_ | refine e1_2 (risI h2 (by decide) h.2) fun ds e_289 hs => ?_ | refine e0_3 (risI h2 (by decide) h.2) fun ds e_289 hs => ?_ | obtain ⟨ds, e_289, hs⟩ := risI h2 (by decide) h.2
    obtain rfl := e_289
    have hl := h.1
    rw [List.length_map] at hl
    exact ⟨.l ds, rfl, rfl, fun q => by rw [q] at hl; exact absurd hl.1 (by decide), by omega, hs⟩
  | _ => exact Bool.noConfusion h
theorem io_inv {u : Str} (h : inOut u = true) : uOk u = true := by
  have e : inOut u = (Str.ofString "from" == u || (Str.ofString "until" == u || (Str.ofString "also" == u || (Str.ofString "but" == u || false)))) := rfl
  rw [e] at h
  rw [Bool.or_eq_true, Bool.or_eq_true, Bool.or_eq_true, Bool.or_false] at h
  rcases h with q | q | q | q
  · rw [← eq_of_beq q]; decide
  · rw [← eq_of_beq q]; decide
  · rw [← eq_of_beq q]; decide
  · rw [← eq_of_beq q]; decide
theorem btP {a : V} {lo hi : Int} (h : bt a lo hi = true) (h1 : -(10 ^ 12) < lo) (h2 : hi < 10 ^ 12) : ∃ p : Pt, a = p.v ∧ p.ok false := by
  first | refine e2_1 (btI h h1 h2) fun i e_290 hi => ?_ | refine e1_2 (btI h h1 h2) fun i e_290 hi => ?_ | refine e0_3 (btI h h1 h2) fun i e_290 hi => ?_ | obtain ⟨i, e_290, hi⟩ := btI h h1 h2
  obtain rfl := e_290
  exact ⟨.n i, rfl, rfl, hi⟩
theorem hdI {u : Str} {a : V} (h : hdT2 u a = true) : ∃ p : Pt, a = p.v ∧ p.ok (u == "but") := by
  unfold hdT2 at h
  cases hb : u == "but" with
  | true => rw [hb] at h; exact riI h (by decide) (by decide)
  | false => rw [hb] at h; exact btP h (by decide) (by decide)
noncomputable def PlI (u : Str) (r : List V) : Prop := ∃ (p : Pt) (is : List Int), r = p.v :: is.map V.int ∧ p.ok (u == "week") ∧ smalls is ∧ (is.length = 1 ∨ is.length = 2)
theorem p3I {u : Str} {a b c : V} {lo hi lo2 hi2 : Int} (ha : ∃ p : Pt, a = p.v ∧ p.ok (u == "week")) (hb : bt b lo hi = true) (hc : bt c lo2 hi2 = true) (h1 : -(10 ^ 12) < lo) (h2 : hi < 10 ^ 12) (h3 : -(10 ^ 12) < lo2) (h4 : hi2 < 10 ^ 12) : PlI u [a, b, c] := by
  first | refine e2_1 ha fun p e_291 hp => ?_ | refine e1_2 ha fun p e_291 hp => ?_ | refine e0_3 ha fun p e_291 hp => ?_ | obtain ⟨p, e_291, hp⟩ := ha
  obtain rfl := e_291
  first | refine e2_1 (btI hb h1 h2) fun j e_292 hj => ?_ | refine e1_2 (btI hb h1 h2) fun j e_292 hj => ?_ | refine e0_3 (btI hb h1 h2) fun j e_292 hj => ?_ | obtain ⟨j, e_292, hj⟩ := btI hb h1 h2
  obtain rfl := e_292
  first | refine e2_1 (btI hc h3 h4) fun k e_293 hk => ?_ | refine e1_2 (btI hc h3 h4) fun k e_293 hk => ?_ | refine e0_3 (btI hc h3 h4) fun k e_293 hk => ?_ | obtain ⟨k, e_293, hk⟩ := btI hc h3 h4
  obtain rfl := e_293
  exact ⟨p, [j, k], rfl, hp, List.forall_mem_cons.mpr ⟨hj, List.forall_mem_cons.mpr ⟨hk, fun _ h => nomatch h⟩⟩, .inr rfl⟩
theorem plI {u : Str} {r : List V} (h : isPl u r = true) : uOk u = true ∧ PlI u r := by
  unfold isPl at h
  cases hc : u == "once" with
  | true =>
    rw [hc] at h
    have hu : u = "once" := eq_of_beq hc
    by_cases hl : r.length = 2
    · first | refine e2_1 (two_list hl) fun a b e_294 => ?_ | refine e1_2 (two_list hl) fun a b e_294 => ?_ | refine e0_3 (two_list hl) fun a b e_294 => ?_ | obtain ⟨a, b, e_294⟩ := two_list hl
      obtain rfl := e_294
      have h : (bt a 0 999999999999 && bt b 1 48) = true := h
      rw [Bool.and_eq_true] at h
      first | refine e2_1 (btP h.1 (by decide) (by decide)) fun p e_295 hp => ?_ | refine e1_2 (btP h.1 (by decide) (by decide)) fun p e_295 hp => ?_ | refine e0_3 (btP h.1 (by decide) (by decide)) fun p e_295 hp => ?_ | obtain ⟨p, e_295, hp⟩ := btP h.1 (by decide) (by decide)
      obtain rfl := e_295
      first | refine e2_1 (btI h.2 (by decide) (by decide)) fun j e_296 hj => ?_ | refine e1_2 (btI h.2 (by decide) (by decide)) fun j e_296 hj => ?_ | refine e0_3 (btI h.2 (by decide) (by decide)) fun j e_296 hj => ?_ | obtain ⟨j, e_296, hj⟩ := btI h.2 (by decide) (by decide)
      obtain rfl := e_296
      exact ⟨by rw [hu]; decide, p, [j], rfl, by rw [hu, sw_once_week]; exact hp, List.forall_mem_cons.mpr ⟨hj, fun _ h => nomatch h⟩, .inl rfl⟩
    · rw [if_pos rfl, not_two hl] at h; cases h
  | false =>
    rw [hc] at h
    by_cases hl : r.length = 3
    · first | refine e3_1 (three_list hl) fun a b c e_297 => ?_ | refine e2_2 (three_list hl) fun a b c e_297 => ?_ | refine e1_3 (three_list hl) fun a b c e_297 => ?_ | refine e0_4 (three_list hl) fun a b c e_297 => ?_ | obtain ⟨a, b, c, e_297⟩ := three_list hl
      obtain rfl := e_297
      have h : isP3 u a b c = true := h
      unfold isP3 at h
      cases he : u == "every" with
      | true =>
        rw [he] at h
        have h : (bt a 0 999999999999 && (bt b 1 48 && bt c 1 1000000)) = true := h
        rw [Bool.and_eq_true, Bool.and_eq_true] at h
        have hu : u = "every" := eq_of_beq he
        exact ⟨by rw [hu]; decide, p3I (by rw [hu, sw_every_week]; exact btP h.1 (by decide) (by decide)) h.2.1 h.2.2 (by decide) (by decide) (by decide) (by decide)⟩
      | false =>
        rw [he] at h
        have h : (if bt b 0 23 && bt c 1 48 then (if u == "week" then rising a 7 6 else (u == "month") && (bt a (-31) 31 && nz a)) else false) = true := h
        cases hb : bt b 0 23 && bt c 1 48 with
        | false => rw [hb] at h; cases h
        | true =>
          rw [hb] at h
          rw [Bool.and_eq_true] at hb
          have h : (if u == "week" then rising a 7 6 else (u == "month") && (bt a (-31) 31 && nz a)) = true := h
          cases hw : u == "week" with
          | true =>
            rw [hw] at h
            exact ⟨by rw [show u = "week" from eq_of_beq hw]; decide, p3I (by rw [hw]; exact riI h (by decide) (by decide)) hb.1 hb.2 (by decide) (by decide) (by decide) (by decide)⟩
          | false =>
            rw [hw] at h
            have h : ((u == "month") && (bt a (-31) 31 && nz a)) = true := h
            rw [Bool.and_eq_true, Bool.and_eq_true] at h
            exact ⟨by rw [show u = "month" from eq_of_beq h.1]; decide, p3I (by rw [hw]; exact btP h.2.1 (by decide) (by decide)) hb.1 hb.2 (by decide) (by decide) (by decide) (by decide)⟩
    · rw [if_neg (by decide), not_three hl] at h; cases h
theorem isRl_plain {n : Nat} {u : Str} {r : List V} (h : inOut u = false) : isRl (n + 1) (.tup (.str u :: r)) = isPl u r := by
  show (if inOut u then _ else _) = _
  rw [h]; rfl
theorem isRl_head {n : Nat} {u : Str} {a t : V} (h : inOut u = true) : isRl (n + 1) (.tup [.str u, a, t]) = (hdT2 u a && isRl n t) := by
  show (if inOut u then _ else _) = _
  rw [h]; rfl
theorem rv_good : ∀ {n : Nat} {v : V}, isRl n v = true → ∃ R : Rl, R.fair ∧ R.depth < n ∧ v = rv R := by
  intro n
  induction n with
  | zero => intro v h; cases h
  | succ n ih =>
    intro v h
    have hv : ∃ u r, v = .tup (.str u :: r) := by
      cases v with
      | tup l =>
        cases l with
        | nil => exact Bool.noConfusion h
        | cons a r => cases a <;> first | exact ⟨_, _, rfl⟩ | exact Bool.noConfusion h
      | _ => exact Bool.noConfusion h
    first | refine e2_1 hv fun u r e_298 => ?_ | refine e1_2 hv fun u r e_298 => ?_ | refine e0_3 hv fun u r e_298 => ?_ | obtain ⟨u, r, e_298⟩ := hv
    obtain rfl := e_298
    cases ho : inOut u with
    | true =>
      by_cases hl : r.length = 2
      · first | refine e2_1 (two_list hl) fun a t e_299 => ?_ | refine e1_2 (two_list hl) fun a t e_299 => ?_ | refine e0_3 (two_list hl) fun a t e_299 => ?_ | obtain ⟨a, t, e_299⟩ := two_list hl
        obtain rfl := e_299
        rw [isRl_head ho, Bool.and_eq_true] at h
        first | refine e3_1 (ih h.2) fun R g d e_300 => ?_ | refine e2_2 (ih h.2) fun R g d e_300 => ?_ | refine e1_3 (ih h.2) fun R g d e_300 => ?_ | refine e0_4 (ih h.2) fun R g d e_300 => ?_ | obtain ⟨R, g, d, e_300⟩ := ih h.2
        obtain rfl := e_300
        first | refine e2_1 (hdI h.1) fun p e_301 hp => ?_ | refine e1_2 (hdI h.1) fun p e_301 hp => ?_ | refine e0_3 (hdI h.1) fun p e_301 hp => ?_ | obtain ⟨p, e_301, hp⟩ := hdI h.1
        obtain rfl := e_301
        exact ⟨.hd u p R, ⟨⟨ho, io_inv ho⟩, hp, g⟩, Nat.succ_lt_succ d, rfl⟩
      · rw [rl_not_two ho hl] at h; cases h
    | false =>
      rw [isRl_plain ho] at h
      first | refine e3_2 (plI h) fun hu p is e_302 h1 => ?_ | refine e2_3 (plI h) fun hu p is e_302 h1 => ?_ | refine e1_4 (plI h) fun hu p is e_302 h1 => ?_ | obtain ⟨hu, p, is, e_302, h1⟩ := plI h
      obtain rfl := e_302
      exact ⟨.pl u p is, ⟨⟨ho, hu⟩, h1⟩, Nat.succ_pos _, rfl⟩
/- what is read is data -/
mutual
noncomputable def Pd : V → Prop
  | .none => True
  | .int _ => True
  | .str _ => True
  | .tup l => Pds l
  | _ => False
noncomputable def Pds : List V → Prop
  | [] => True
  | v :: r => Pd v ∧ Pds r
end
mutual
theorem Pd.th {H : Hp} : ∀ {v : V}, Pd v → Th H v
  | .none, _ => trivial
  | .int _, _ => trivial
  | .str _, _ => trivial
  | .tup l, h => Pds.th (l := l) h
theorem Pds.th {H : Hp} : ∀ {l : List V}, Pds l → Ths H l
  | [], _ => trivial
  | _ :: _, h => ⟨Pd.th h.1, Pds.th h.2⟩
end
theorem pds_of : ∀ {l : List V}, (∀ v ∈ l, Pd v) → Pds l
  | [], _ => trivial
  | v :: r, h => ⟨h v (by simp), pds_of fun x hx => h x (List.mem_cons_of_mem _ hx)⟩
theorem pds_ints {ds : List Int} : Pds (ds.map V.int) := pds_of fun v hv => by obtain ⟨d, _, rfl⟩ := List.mem_map.mp hv; trivial
theorem fstOf_pd {b : Bool} {w : Str} {v : V} (h : fstOf b w = some v) : Pd v := by
  cases b with
  | true => obtain ⟨is, _, rfl⟩ := Option.map_eq_some_iff.mp (show (numsOf w).map intsV = some v from h); exact pds_ints
  | false => obtain ⟨is, _, rfl⟩ := Option.map_eq_some_iff.mp (show (numOf w).map V.int = some v from h); exact trivial
theorem plO_pd {u : Str} {a : Option V} {is : Option (List Int)} {v : V} (ha : ∀ x, a = some x → Pd x) (h : plO u a is = some v) : Pd v := by
  cases a with
  | none => cases h
  | some a =>
    first | refine e2_1 (Option.map_eq_some_iff.mp h) fun is _ e_303 => ?_ | refine e1_2 (Option.map_eq_some_iff.mp h) fun is _ e_303 => ?_ | refine e0_3 (Option.map_eq_some_iff.mp h) fun is _ e_303 => ?_ | obtain ⟨is, _, e_303⟩ := Option.map_eq_some_iff.mp h
    obtain rfl := e_303
    exact ⟨trivial, ha a rfl, pds_ints⟩
theorem hdO_pd {u : Str} {a b : Option V} {v : V} (ha : ∀ x, a = some x → Pd x) (hb : ∀ x, b = some x → Pd x) (h : hdO u a b = some v) : Pd v := by
  cases b with
  | none => cases h
  | some b =>
    first | refine e2_1 (Option.map_eq_some_iff.mp h) fun a e_304 e_305 => ?_ | refine e1_2 (Option.map_eq_some_iff.mp h) fun a e_304 e_305 => ?_ | refine e0_3 (Option.map_eq_some_iff.mp h) fun a e_304 e_305 => ?_ | obtain ⟨a, e_304, e_305⟩ := Option.map_eq_some_iff.mp h
    obtain rfl := e_304
    obtain rfl := e_305
    exact ⟨trivial, ha a rfl, hb b rfl, trivial⟩
theorem plOf_pd {u : Str} {r : List Str} {v : V} (h : plOf u r = some v) : Pd v := by
  unfold plOf at h
  by_cases hl : r.length = 2 ∨ r.length = 3
  · rw [if_pos hl] at h
    cases r with
    | nil => cases h
    | cons w r => exact plO_pd (fun _ => fstOf_pd) h
  · rw [if_neg hl] at h; cases h
theorem ruleOf_pd : ∀ {n : Nat} {ws : List Str} {v : V}, ruleOf n ws = some v → Pd v := by
  intro n
  induction n with
  | zero => intro ws v h; cases h
  | succ n ih =>
    intro ws v h
    cases ws with
    | nil => cases h
    | cons u r =>
      cases ho : inOut u with
      | false => rw [ruleOf_plain ho] at h; exact plOf_pd h
      | true =>
        cases r with
        | nil => rw [show ruleOf (n + 1) [u] = none from (by show (if inOut u then _ else _) = _; rw [ho]; rfl)] at h; cases h
        | cons w r =>
          cases r with
          | nil => rw [show ruleOf (n + 1) [u, w] = none from (by show (if inOut u then _ else _) = _; rw [ho]; rfl)] at h; cases h
          | cons x r => rw [ruleOf_head ho] at h; exact hdO_pd (fun _ => fstOf_pd) (fun _ => ih) h
theorem numV_is (w : Str) : numV w = .none ∨ ∃ i, numV w = .int i := by
  unfold numV
  cases lawNum w with
  | none => exact .inl rfl
  | some i => exact .inr ⟨i, rfl⟩
theorem numV_of {P : V → Prop} (h1 : P .none) (h2 : ∀ i, P (.int i)) (w : Str) : P (numV w) := by
  rcases numV_is w with e | ⟨i, e⟩ <;> rw [e]
  · exact h1
  · exact h2 i
theorem numV_pd (w : Str) : Pd (numV w) := numV_of (P := Pd) trivial (fun _ => trivial) w
theorem numV_fd (w : Str) : Fd (numV w) := numV_of (P := Fd) ⟨_, rfl, Nat.zero_le _⟩ (fun _ => ⟨_, rfl, Nat.zero_le _⟩) w
theorem numV_fs (w : Str) : Fs (numV w) := numV_of (P := Fs) trivial (fun _ => trivial) w
theorem fss_of : ∀ {l : List V}, (∀ v ∈ l, Fs v) → Fss l
  | [], _ => trivial
  | v :: r, h => ⟨h v (by simp), fss_of fun x hx => h x (List.mem_cons_of_mem _ hx)⟩
theorem nums_pds (r : List Str) : Pds (r.map numV) := pds_of fun v hv => by obtain ⟨d, _, rfl⟩ := List.mem_map.mp hv; exact numV_pd d
theorem nums_fss (r : List Str) : Fss (r.map numV) := fss_of fun v hv => by obtain ⟨d, _, rfl⟩ := List.mem_map.mp hv; exact numV_fs d
theorem fstV_pd (b : Bool) (w : Str) : Pd (fstV b w) := by
  cases b with
  | true => exact nums_pds _
  | false => exact numV_pd w
theorem fstV_fs {b : Bool} {w : Str} (h : w.length ≤ 90000) : Fs (fstV b w) := by
  cases b with
  | true =>
    refine ⟨?_, ?_, nums_fss _⟩
    · rw [List.length_map]; have := split_le w ","; omega
    · cases Txt.split w "," with
      | nil => trivial
      | cons a b => exact numV_fd a
  | false => exact numV_fs w
theorem plP_len {u : Str} : ∀ {r : List Str}, (plP u r).length = r.length
  | [] => rfl
  | w :: r => by show (r.map numV).length + 1 = r.length + 1; rw [List.length_map]
theorem plV_pd (u : Str) : ∀ r : List Str, Pd (plV u r)
  | [] => ⟨trivial, trivial⟩
  | w :: r => ⟨trivial, fstV_pd _ w, nums_pds r⟩
theorem plP_fs {u : Str} : ∀ {r : List Str}, (∀ w ∈ r, w.length ≤ 90000) → Fss (plP u r)
  | [], _ => trivial
  | w :: r, h => ⟨fstV_fs (h w (by simp)), nums_fss r⟩
theorem plV_fs {u : Str} {r : List Str} (h : ∀ w ∈ r, w.length ≤ 90000) (hl : r.length ≤ 95000) : Fs (plV u r) :=
  ⟨by rw [List.length_cons, plP_len]; omega, ⟨_, rfl, Nat.zero_le _⟩, trivial, plP_fs h⟩
theorem lawRule_pd : ∀ ws : List Str, Pd (lawRule ws)
  | [] => trivial
  | [u] => plV_pd u []
  | [u, w] => plV_pd u [w]
  | u :: w :: x :: r => by
    cases ho : inOut u with
    | true => rw [lawRule_head ho]; exact ⟨trivial, fstV_pd _ w, lawRule_pd (x :: r), trivial⟩
    | false => rw [lawRule_plain ho]; exact plV_pd u _
theorem lawRule_fs : ∀ {ws : List Str}, (∀ w ∈ ws, w.length ≤ 90000) → ws.length ≤ 95000 → Fs (lawRule ws)
  | [], _, _ => trivial
  | [u], _, _ => plV_fs (fun _ h => nomatch h) (by decide)
  | [u, w], h, _ => plV_fs (fun x hx => h x (List.mem_cons_of_mem _ hx)) (by show (1 : Nat) ≤ _; omega)
  | u :: w :: x :: r, h, hl => by
    have hr : ∀ y ∈ w :: x :: r, y.length ≤ 90000 := fun y hy => h y (List.mem_cons_of_mem _ hy)
    rw [List.length_cons] at hl
    cases ho : inOut u with
    | true =>
      rw [lawRule_head ho]
      exact ⟨by show (3 : Nat) ≤ _; omega, ⟨_, rfl, Nat.zero_le _⟩, trivial, fstV_fs (hr w (by simp)), lawRule_fs (fun y hy => hr y (List.mem_cons_of_mem _ hy)) (by rw [List.length_cons] at hl; omega), trivial⟩
    | false => rw [lawRule_plain ho]; exact plV_fs hr (by omega)
end Mine

set_option autoImplicit false
set_option linter.unusedSimpArgs false
set_option maxRecDepth 20000
/- Law 07: shown. -/
namespace Mine
open PySem PyProof.Rows

theorem strs_map : ∀ ws : List Str, strsOf (ws.map V.str) = some ws
  | [] => rfl
  | w :: r => by
    show (strsOf (r.map V.str)).map (w :: ·) = _
    rw [strs_map r]; rfl
theorem strs_nums (ds : List Int) : strsOf (ds.map fun d => V.str (numS d)) = some (ds.map numS) := by
  have := strs_map (ds.map numS)
  rwa [List.map_map] at this
theorem small_abs {i : Int} (h : small i) : i.natAbs < 2 ^ 64 ∧ (Str.ofString (toString i)).length ≤ 1000000 := by
  refine ⟨by unfold small at h; omega, Nat.le_trans (num_len h.1 h.2) (by decide)⟩
theorem comp_strs {Φ : Orc} {X : XL} {j : Nat} {L : Lc} {QL : List V → Hp → Prop} {H : Hp} (hj : j < L.length) : ∀ (ds : List Int) (acc : List V), (∀ d ∈ ds, small d) → QL (acc ++ ds.map fun d => V.str (numS d)) H →
    compGo (coEX Φ (.call (.ty .str) [.loc j]) X) (fun _ => True) j L (ds.map V.int) acc H QL
  | [], acc, _, q => by
    have q : QL acc H := by simpa using q
    exact q
  | d :: r, acc, h, q => by
    rw [List.map_cons, coX_cons]
    have e : (L.set j (some (V.int d)))[j]? = some (some (V.int d)) := List.getElem?_set_self hj
    simp_arith! only [e]
    refine ⟨small_abs (h d (by simp)), ?_⟩
    refine comp_strs hj r _ (fun x hx => h x (List.mem_cons_of_mem _ hx)) ?_
    simpa [numS] using q

noncomputable def C_sh (n : Nat) : Ctr := fun vs H Q _ => ∃ r : Rl, vs = [rv r] ∧ r.fair ∧ r.depth ≤ n ∧ r.depth ≤ 8 ∧ ∀ H', H <+: H' → Q (.str r.text) H'
noncomputable def SH : Nat → Orc
  | 0 => Eb
  | n + 1 => ext "shown" (C_sh n) (SH n)
theorem SH_sh {n : Nat} : SH (n + 1) "shown" = C_sh n := rfl

noncomputable abbrev shB : List IS := [(.ite (.call (.bi .isinstance) [(.loc 2), (.lit (.ty .str))]) [(.expr (.meth (.loc 1) .append [(.loc 2)]))] [(.ite (.call (.bi .isinstance) [(.loc 2), (.lit (.ty .int))]) [(.expr (.meth (.loc 1) .append [(.call (.ty .str) [(.loc 2)])]))] [(.ite (.call (.bi .isinstance) [(.sub (.loc 2) (.lit (.int 0))), (.lit (.ty .str))]) [(.expr (.meth (.loc 1) .append [(.call (.fn "shown") [(.loc 2)])]))] [(.expr (.meth (.loc 1) .append [(.strm (.lit (.str ",")) true (.comp (.call (.ty .str) [(.loc 3)]) 3 .val (.loc 2)))]))])])])]
section
variable {XF : XS} {Φ : Orc} {v : V} {k : Nat} {rest : List V} {t2 t4 t5 : Option V} {H H' : Hp} {ws : List Str} {Q : QS}

noncomputable def ShGo (XF : XS) (Φ : Orc) (v : V) (k : Nat) (rest : List V) (t4 t5 : Option V) (H : Hp) (ws : List Str) (Q : QS) : Prop :=
  ∀ t2 H2, H <+: H2 → listAt H2 k = some (ws.map V.str) → forGo (whBX Φ shB XF) (fun _ => True) 2 rest [some v, some (.ref k), t2, none, t4, t5] H2 Q
theorem app_str {w : Str} (hk : H.length ≤ k) (hp : H <+: H') (hl : listAt H' k = some (ws.map V.str)) : H <+: H'.set k (.list (ws.map V.str ++ [V.str w])) ∧ listAt (H'.set k (.list (ws.map V.str ++ [V.str w]))) k = some ((ws ++ [w]).map V.str) := by
  refine ⟨pre_set hp hk, ?_⟩
  rw [listAt_set hl]; simp
theorem sh_str {u : Str} (hk : H.length ≤ k) (hz : ws.length ≤ 1000) (q : ShGo XF Φ v k rest t4 t5 H (ws ++ [u]) Q) : ShGo XF Φ v k (.str u :: rest) t4 t5 H ws Q := by
  intro t2 H2 hp hl
  rw [foX_cons]
  obtain ⟨p1, p2⟩ := app_str (w := u) hk hp hl
  have hlen : (ws.map V.str).length ≤ 1000000 := by rw [List.length_map]; omega
  simp_arith! only [isi_str_str, hl, hlen]
  exact ⟨⟨_, hl⟩, q _ _ p1 p2⟩
theorem sh_num {i : Int} (hi : small i) (hk : H.length ≤ k) (hz : ws.length ≤ 1000) (q : ShGo XF Φ v k rest t4 t5 H (ws ++ [numS i]) Q) : ShGo XF Φ v k (.int i :: rest) t4 t5 H ws Q := by
  intro t2 H2 hp hl
  rw [foX_cons]
  obtain ⟨p1, p2⟩ := app_str (w := numS i) hk hp hl
  have hlen : (ws.map V.str).length ≤ 1000000 := by rw [List.length_map]; omega
  simp_arith! only [isi_int_str, isi_int_int, hl, hlen, small_abs hi]
  exact ⟨⟨_, hl⟩, q _ _ p1 p2⟩
theorem sg_ints {ds : List Int} (hne : ds ≠ []) (hs : smalls ds) (hd : ds.length ≤ 20) (hk : H.length ≤ k) (hz : ws.length ≤ 1000) (q : ShGo XF Φ v k rest t4 t5 H (ws ++ [listS ds]) Q) : ShGo XF Φ v k (intsV ds :: rest) t4 t5 H ws Q := by
  intro t2 H2 hp hl
  rw [foX_cons]
  have hlen : (ws.map V.str).length ≤ 1000000 := by rw [List.length_map]; omega
  obtain ⟨d0, hd0⟩ : ∃ d0, idx (ds.map V.int) 0 = some (V.int d0) := by
    cases ds with
    | nil => exact absurd rfl hne
    | cons a r => exact ⟨a, rfl⟩
  simp only [↓X_lit, ↓X_loc, ↓X_bin, ↓negX_int, ↓X_neg, ↓X_not, ↓Y_not, ↓X_and, ↓Y_and, ↓X_or, ↓Y_or, ↓X_cmp, ↓X_cmp2, ↓X_ite, ↓Y_ite, ↓X_tup, ↓X_lst, ↓X_call, ↓X_meth, ↓X_sub, ↓X_comp, ↓Y_lit, ↓Y_loc, ↓Y_cmp, ↓Y_cmp2, ↓Y_call, ↓Y_sub, ↓XEs_nil, ↓XEs_cons, ↓Z_expr, ↓Z_assign, ↓Z_ret, ↓Z_ite, ↓Z_for, ↓Z_raise, ↓Zs_nil, ↓sqX_next, ↓sqX_ret, ↓Zs_cons, ↓wkX_next, ↓wkX_ret, ↓fkX_next, ↓fkX_ret, ↓oKK_some, ↓oK_some, ↓tX_bool, ↓iX_t, ↓iX_f, ↓iX_d, ↓q_add, ↓q_sub, ↓q_mul, ↓q_div, ↓q_mod, ↓q_pow, ↓q_eq, ↓q_ne, ↓q_eqs, ↓q_nes, ↓q_lt, ↓q_le, ↓q_gt, ↓q_ge, ↓q_in, ↓q_inl, ↓q_nin, ↓q_stup, ↓q_sref, ↓q_sscr, ↓q_fn, ↓q_lentup, ↓q_lenref, ↓q_lenscr, ↓q_isi, ↓q_all, ↓q_int, ↓q_tuple, ↓q_append, ↓q_slicet, ↓q_set, ↓q_repr, ↓q_eqo, ↓Z_set, ↓q_listt, ↓q_ninl, ↓u_tup, ↓u_ref, ↓u_range, ↓q_slice, ↓oi_none, ↓oi_int, ↓X_slice, ↓XO_none, ↓XO_some, ↓u_rev, ↓X_zlt, ↓q_zlt, ↓retV_ret, ↓retV_next, List.getElem?_cons_zero, List.getElem?_cons_succ, List.set_cons_zero, List.set_cons_succ, Bool.not_true, Bool.not_false, idx_0, idx_1, idx_2, idx_3, idx_4, idx_5, iP_0, iP_1, iP_2, iP_3, Int.reduceAdd, Int.reduceSub, Int.reduceMul, Int.reduceNeg, Int.reducePow, Int.reduceLT, Int.reduceLE, Int.reduceEq, Int.reduceNe, Int.reduceToNat, Int.reduceAbs, Nat.reduceAdd, Nat.reduceLT, Nat.reduceLeDiff, Nat.reducePow, Nat.reduceLT, List.length_cons, List.length_nil, true_implies, false_implies, not_true_eq_false, not_false_eq_true, and_true, true_and, and_self, or_true, true_or, decide_true, decide_false, exists_eq_left', Option.some.injEq, ↓X_strm, ↓sV_str, ↓q_join, ↓q_split, ↓q_strint, ↓q_strstr, ↓q_intstr, ↓q_lenstr, ↓q_slices, ↓q_ins, ↓q_nins, ↓u_str, intsV, isi_tup_str, isi_tup_int, hd0, isi_int_str]
  refine ⟨⟨_, hl⟩, comp_strs (by simp) ds [] hs ?_⟩
  rw [List.nil_append]
  have hl2 := listAt_pre (pre_new (o := .list (ds.map fun d => V.str (numS d)))) hl
  obtain ⟨p1, p2⟩ := app_str (w := listS ds) hk (hp.trans (pre_new (o := .list (ds.map fun d => V.str (numS d))))) hl2
  have hsum := list_sum hs hd
  refine ⟨by rw [List.length_map]; omega, ?_⟩
  simp_arith! only [listAt_new, strs_nums, hl2, hlen]
  exact ⟨Nat.le_trans hsum (by decide), q _ _ p1 p2⟩
theorem sh_part {b : Bool} (hk : H.length ≤ k) (hz : ws.length ≤ 1000) : ∀ {p : Pt}, p.ok b → ShGo XF Φ v k rest t4 t5 H (ws ++ [p.s]) Q → ShGo XF Φ v k (p.v :: rest) t4 t5 H ws Q
  | .n _, h, q => sh_num h.2 hk hz q
  | .l _, h, q => sg_ints h.2.1 h.2.2.2 h.2.2.1 hk hz q
theorem sh_nums (hk : H.length ≤ k) : ∀ {is : List Int} {ws : List Str}, smalls is → ws.length + is.length ≤ 1000 → ShGo XF Φ v k [] t4 t5 H (ws ++ is.map numS) Q → ShGo XF Φ v k (is.map V.int) t4 t5 H ws Q
  | [], ws, _, _, q => by rw [List.map_nil, List.append_nil] at q; exact q
  | i :: is, ws, h, hz, q => by
    rw [List.length_cons] at hz
    refine sh_num (h i (by simp)) hk (by omega) (sh_nums hk (fun d hd => h d (List.mem_cons_of_mem _ hd)) (by rw [List.length_append, List.length_singleton]; omega) ?_)
    rw [List.append_assoc]; exact q
theorem sh_in {n : Nat} {r : Rl} (hg : r.fair) (hd : r.depth ≤ n) (h8 : r.depth ≤ 8) (hk : H.length ≤ k) (hkl : k < H.length + 1) (hz : ws.length ≤ 1000) (q : ShGo XF (SH (n + 1)) v k rest t4 t5 H (ws ++ [r.text]) Q) : ShGo XF (SH (n + 1)) v k (rv r :: rest) t4 t5 H ws Q := by
  intro t2 H2 hp hl
  rw [foX_cons]
  have hlen : (ws.map V.str).length ≤ 1000000 := by rw [List.length_map]; omega
  have hfirst : ∃ l u, rv r = .tup l ∧ idx l 0 = some (V.str u) := by cases r <;> exact ⟨_, _, rfl, rfl⟩
  first | refine e3_1 hfirst fun l u el hu => ?_ | refine e2_2 hfirst fun l u el hu => ?_ | refine e1_3 hfirst fun l u el hu => ?_ | refine e0_4 hfirst fun l u el hu => ?_ | obtain ⟨l, u, el, hu⟩ := hfirst
  rw [el]
  simp_arith! only [isi_tup_str, isi_tup_int, hu, isi_str_str, ↓SH_sh]
  refine ⟨⟨_, hl⟩, r, by rw [el], hg, hd, h8, fun H3 hp3 => ?_⟩
  have hl3 := listAt_pre hp3 hl
  obtain ⟨p1, p2⟩ := app_str (w := r.text) hk (hp.trans hp3) hl3
  simp_arith! only [hl3, hlen]
  have := q (some (rv r)) _ p1 p2
  rw [el] at this
  exact this
theorem sh_end (hq : ∀ t2 H2, H <+: H2 → listAt H2 k = some (ws.map V.str) → Q .next [some v, some (.ref k), t2, none, t4, t5] H2) : ShGo XF Φ v k [] t4 t5 H ws Q := fun t2 H2 hp hl => hq t2 H2 hp hl
end
theorem w_shown (n : Nat) : ∀ vs H Q X, C_sh n vs H Q X → wpFn (SH n) f_shown vs H Q X := by
  rintro vs H Q X ⟨r, rfl, g, hd, h8, q⟩
  refine fn_of rfl ?_
  change wpSs (SH n) f_shown.body [some (rv r), none, none, none, none, none] H _ _
  refine zs_cons ?_
  generalize hK : sqX (SH n) (_ :: _) = K
  simp_arith! only [X_lit]
  subst hK
  refine zs_cons ?_
  have fin : ∀ t2 H2, H <+: H2 → listAt H2 H.length = some (r.words.map V.str) → sqX (SH n) [IS.ret (.strm (.lit (.str " ")) true (.loc 1))] (fun fl _ H1 => Q (retV fl) H1) (fun x _ H1 => X x H1) .next [some (rv r), some (.ref H.length), t2, none, none, none] H2 := fun t2 H2 hp hl => by
    simp_arith! only [hl, strs_map]
    exact ⟨Nat.le_trans (words_sum g h8) (by decide), q H2 hp⟩
  have fin2 : ∀ (a b : Str) (r' : Rl), r.words = a :: b :: r'.words → r'.fair → r'.depth ≤ 8 → ∀ t2 H2, H <+: H2 → listAt H2 H.length = some ([a, b, r'.text].map V.str) → sqX (SH n) [IS.ret (.strm (.lit (.str " ")) true (.loc 1))] (fun fl _ H1 => Q (retV fl) H1) (fun x _ H1 => X x H1) .next [some (rv r), some (.ref H.length), t2, none, none, none] H2 := fun a b r' e g' h8' t2 H2 hp hl => by
    simp_arith! only [hl, strs_map]
    have e1 := words_ok g a (by rw [e]; simp)
    have e2 := words_ok g b (by rw [e]; simp)
    have e3 := text_len g' h8'
    refine ⟨?_, ?_⟩
    · have := e1.2.1; have := e2.2.1
      have e4 : [a.length, b.length, r'.text.length].sum = a.length + (b.length + (r'.text.length + 0)) := rfl
      show [a.length, b.length, r'.text.length].sum + 3 * (Str.ofString " ").length ≤ 1000000
      rw [sp_len, e4]
      omega
    · rw [text_two, ← e]; exact q H2 hp
  have st : ∀ {l : List V}, rv r = .tup l → ShGo (fun x _ H1 => X x H1) (SH n) (rv r) H.length l none none H [] (sqX (SH n) [IS.ret (.strm (.lit (.str " ")) true (.loc 1))] (fun fl _ H1 => Q (retV fl) H1) (fun x _ H1 => X x H1)) →
      wpS (SH n) (.for 2 .val (.loc 0) shB) [some (rv r), some (.ref H.length), none, none, none, none] (H ++ [.list []]) (sqX (SH n) [IS.ret (.strm (.lit (.str " ")) true (.loc 1))] (fun fl _ H1 => Q (retV fl) H1) (fun x _ H1 => X x H1)) (fun x _ H1 => X x H1) := fun {l} e h => by
    rw [Z_for]
    have := h none (H ++ [.list []]) pre_new listAt_new
    rw [e] at this ⊢
    exact this
  have hk : H.length ≤ H.length := Nat.le_refl _
  cases r with
  | pl u p is => exact st rfl (sh_str hk (by simp) (sh_part hk (by simp) g.2.1 (sh_nums hk g.2.2.1 (by have := g.2.2.2; show 2 + is.length ≤ 1000; omega) (sh_end fin))))
  | hd u p r =>
    cases n with
    | zero => cases hd
    | succ n => exact st rfl (sh_str hk (by simp) (sh_part hk (by simp) g.2.1 (sh_in g.2.2 (Nat.le_of_succ_le_succ hd) (Nat.le_of_succ_le h8) hk (by omega) (by simp) (sh_end (fin2 _ _ r rfl g.2.2 (Nat.le_of_succ_le h8))))))
end Mine

set_option autoImplicit false
set_option linter.unusedSimpArgs false
set_option maxRecDepth 20000
/- Law 07: number_of, numbers_of, plain_of, rule_of, read. -/
namespace Mine
open PySem PyProof.Rows

noncomputable abbrev NR : Exc := ⟨"NoRule", ["NoRule", "HourError", "ValueError"]⟩
noncomputable def wOk (w : Str) : Prop := asc w ∧ w.length ≤ 90000
theorem asc_all {F : Str} (h : asc F) : F.cps.all (· < 128) = true := by
  rw [← Array.all_toList, List.all_eq_true]
  intro c hc
  exact decide_eq_true (h c hc)
theorem figL_sub {cs : List Nat} : ∀ c ∈ figL cs, c ∈ cs := by
  intro c hc
  unfold figL at hc
  split at hc
  · exact List.mem_cons_of_mem _ hc
  · exact hc
theorem figL_len (cs : List Nat) : (figL cs).length ≤ cs.length := by
  unfold figL
  split
  · simp
  · exact Nat.le_refl _
theorem figS_asc {w : Str} (h : asc w) : asc (figS w) := fun c hc => by rw [figS_eq] at hc; exact h c (figL_sub c hc)
theorem figS_len {w : Str} : (figS w).length = (figL (chs w)).length := by rw [len_chs, figS_eq]
theorem join_mem {s : Str} : ∀ {ps : List Str} {p : Str}, p ∈ ps → ∀ c ∈ chs p, c ∈ chs (Str.join s ps)
  | [], _, h, _, _ => by cases h
  | [q], p, h, c, hc => by rw [List.mem_singleton.mp h] at hc; exact hc
  | q :: q2 :: r, p, h, c, hc => by
    rw [join_cons, chs_append, chs_append]
    rcases List.mem_cons.mp h with e | e
    · subst e; exact List.mem_append_left _ (List.mem_append_left _ hc)
    · exact List.mem_append_right _ (join_mem e c hc)
theorem split_ok2 {x : Str} {y : Str} (h : wOk x) : ∀ p ∈ Txt.split x y, wOk p := fun p hp =>
  ⟨fun c hc => h.1 c (by have := join_mem (s := y) hp c hc; rwa [StrLaws.join_split] at this), Nat.le_trans (part_short hp) h.2⟩

noncomputable def N0 : Orc := SH 9
noncomputable def C_no : Ctr := fun vs H Q X => ∃ w, vs = [.str w] ∧ wOk w ∧ (∀ i, numOf w = some i → Q (.int i) H) ∧ (numOf w = none → X NR H)
theorem no_loop {a b : V} {t3 t4 t5 : Option V} {H : Hp} {Q : QS} {XF : XS} : ∀ (cs : List Nat) (t2 : Option V), (∀ c ∈ cs, c < 128) → (cs.all isFig = true → ∀ t2, Q .next [some a, some b, t2, t3, t4, t5] H) → (cs.all isFig = false → ∀ L', XF NR L' H) →
    forGo (whBX N0 [(.ite (.cmp (.loc 2) .NotIn (.lit (.str "0123456789"))) [(.raise "NoRule" ["NoRule", "HourError", "ValueError"])] [])] XF) (fun _ => True) 2 (cs.map fun c => V.str ⟨#[c]⟩) [some a, some b, t2, t3, t4, t5] H Q
  | [], t2, _, q, _ => q rfl t2
  | c :: r, t2, h, q, x => by
    rw [List.map_cons, foX_cons]
    have e := fig_in (h c (by simp))
    cases hc : isFig c with
    | false =>
      simp_arith! only [e, hc]
      exact x (by rw [List.all_cons, hc]; rfl) _
    | true =>
      simp_arith! only [e, hc]
      have e2 : (c :: r).all isFig = r.all isFig := by rw [List.all_cons, hc]; rfl
      rw [e2] at q x
      exact no_loop r _ (fun d hd => h d (List.mem_cons_of_mem _ hd)) q x
theorem no_end {w : Str} {H : Hp} {Q : V → Hp → Prop} {X : XL} (hw : wOk w) (q : ∀ i, numOf w = some i → Q (.int i) H) (x : numOf w = none → X NR H) :
    wpSs N0 (f_number_of.body.drop 2) [some (.str w), some (.str (figS w)), none, none, none, none] H (fun fl _ H1 => Q (retV fl) H1) (fun x _ H1 => X x H1) := by
  refine zs_cons ?_
  generalize hK : sqX N0 (_ :: _) = K
  have hl := figS_len (w := w)
  by_cases h1 : figL (chs w) = []
  · have e1 : (figS w == Str.ofString "") = true := by
      have : figS w = Str.ofString "" := str_ext (by rw [figS_eq, h1]; decide)
      rw [this]; exact beq_self_eq_true _
    simp_arith! only [e1]
    refine x ?_
    unfold numOf okNum; rw [h1]; rfl
  · have e1 : (figS w == Str.ofString "") = false := by
      refine beq_false_of_ne fun e => h1 ?_
      rw [← figS_eq, e]; decide
    by_cases h2 : (13 : Int) < ((figS w).length : Int)
    · simp_arith! only [e1, h2]
      refine x ?_
      unfold numOf okNum
      rw [decide_eq_false (by omega), Bool.false_and, Bool.and_false]; rfl
    · simp_arith! only [e1, h2]
      subst hK
      refine zs_cons ?_
      rw [Z_for]
      show (figS w).cps.all (· < 128) = true ∧ _
      have e3 : okNum 13 w = (figL (chs w)).all isFig := by
        unfold okNum
        have : (figL (chs w)).isEmpty = false := by cases h : figL (chs w) with | nil => exact absurd h h1 | cons a b => rfl
        rw [this, decide_eq_true (by omega), Bool.true_and]; rfl
      refine ⟨asc_all (figS_asc hw.1), no_loop (chs (figS w)) _ (figS_asc hw.1) (fun ha t2 => ?_) fun ha L' => ?_⟩
      · rw [figS_eq] at ha
        have e4 : okNum 13 w = true := e3.trans ha
        have e5 := ok_reads e4 (by decide)
        have e6 : w.length ≤ 640 := by rw [len_chs]; have := fig_len (w := w); omega
        simp_arith! only [e5, e6]
        refine q _ ?_
        unfold numOf; rw [if_pos e4]
      · rw [figS_eq] at ha
        refine x ?_
        unfold numOf; rw [e3, ha]; rfl
theorem w_number_of : ∀ vs H Q X, C_no vs H Q X → wpFn N0 f_number_of vs H Q X := by
  rintro vs H Q X ⟨w, rfl, hw, q, x⟩
  refine fn_of rfl ?_
  change wpSs N0 f_number_of.body [some (.str w), none, none, none, none, none] H _ _
  refine zs_cons ?_
  generalize hK : sqX N0 (_ :: _) = K
  simp_arith! only [X_lit]
  subst hK
  refine zs_cons ?_
  generalize hK : sqX N0 (_ :: _) = K
  have hf := fig_step w
  cases hs : startsM w with
  | true =>
    rw [hs, if_pos rfl] at hf
    have e0 : (Txt.slice w none (some 1) == Str.ofString "-") = true := hs
    simp_arith! only [e0, hf]
    subst hK
    exact no_end hw q x
  | false =>
    rw [hs, if_neg (by decide)] at hf
    have e0 : (Txt.slice w none (some 1) == Str.ofString "-") = false := hs
    simp_arith! only [e0]
    subst hK
    have := no_end hw q x
    rw [← hf] at this
    exact this
noncomputable def N1 : Orc := ext "number_of" C_no N0
theorem N1_no : N1 "number_of" = C_no := rfl

theorem comp_nums {Φ : Orc} (hΦ : Φ "number_of" = C_no) {j : Nat} {L : Lc} {QL : List V → Hp → Prop} {X : XL} {H : Hp} {st : Hp → Prop} (hj : j < L.length) (hs : st H) : ∀ (ws : List Str) (acc : List V), (∀ w ∈ ws, wOk w) →
    (∀ is, mapN ws = some is → QL (acc ++ is.map V.int) H) → (mapN ws = none → X NR H) →
    compGo (coEX Φ (.call (.fn "number_of") [.loc j]) X) st j L (ws.map V.str) acc H QL
  | [], acc, _, q, _ => by
    have q : QL acc H := by simpa using q [] rfl
    exact q
  | w :: r, acc, h, q, x => by
    rw [List.map_cons, coX_cons]
    have e : (L.set j (some (V.str w)))[j]? = some (some (V.str w)) := List.getElem?_set_self hj
    simp_arith! only [e, hΦ]
    refine ⟨w, rfl, h w (by simp), fun i hi => ⟨hs, ?_⟩, fun hn => x (by simp only [mapN, hn])⟩
    refine comp_nums hΦ hj hs r _ (fun y hy => h y (List.mem_cons_of_mem _ hy)) (fun is his => ?_) fun hn => x (by simp only [mapN, hi, hn]; rfl)
    have := q (i :: is) (by simp only [mapN, hi, his]; rfl)
    simpa using this
noncomputable def C_nos : Ctr := fun vs H Q X => ∃ w, vs = [.str w] ∧ wOk w ∧ (∀ ds, numsOf w = some ds → ∀ H', H <+: H' → Q (intsV ds) H') ∧ (numsOf w = none → ∀ H', H <+: H' → X NR H')
theorem mapN_len : ∀ {ws : List Str} {is : List Int}, mapN ws = some is → is.length = ws.length
  | [], is, h => by cases h; rfl
  | w :: r, is, h => by
    simp only [mapN] at h
    split at h
    · first | refine e2_1 (Option.map_eq_some_iff.mp h) fun js hj e_306 => ?_ | refine e1_2 (Option.map_eq_some_iff.mp h) fun js hj e_306 => ?_ | refine e0_3 (Option.map_eq_some_iff.mp h) fun js hj e_306 => ?_ | obtain ⟨js, hj, e_306⟩ := Option.map_eq_some_iff.mp h
      obtain rfl := e_306
      rw [List.length_cons, List.length_cons, mapN_len hj]
    · cases h
theorem w_numbers_of : ∀ vs H Q X, C_nos vs H Q X → wpFn N1 f_numbers_of vs H Q X := by
  rintro vs H Q X ⟨w, rfl, hw, q, x⟩
  refine fn_of rfl ?_
  have e1 : ((Str.ofString ",").length == 0) = false := by decide
  have e2 : w.length ≤ 1000000 := Nat.le_trans hw.2 (by decide)
  have e3 := split_le w ","
  simp only [f_numbers_of, initL, List.map_cons, List.map_nil, List.replicate, List.cons_append, List.nil_append, ↓X_lit, ↓X_loc, ↓X_bin, ↓negX_int, ↓X_neg, ↓X_not, ↓Y_not, ↓X_and, ↓Y_and, ↓X_or, ↓Y_or, ↓X_cmp, ↓X_cmp2, ↓X_ite, ↓Y_ite, ↓X_tup, ↓X_lst, ↓X_call, ↓X_meth, ↓X_sub, ↓X_comp, ↓Y_lit, ↓Y_loc, ↓Y_cmp, ↓Y_cmp2, ↓Y_call, ↓Y_sub, ↓XEs_nil, ↓XEs_cons, ↓Z_expr, ↓Z_assign, ↓Z_ret, ↓Z_ite, ↓Z_for, ↓Z_raise, ↓Zs_nil, ↓sqX_next, ↓sqX_ret, ↓Zs_cons, ↓wkX_next, ↓wkX_ret, ↓fkX_next, ↓fkX_ret, ↓oKK_some, ↓oK_some, ↓tX_bool, ↓iX_t, ↓iX_f, ↓iX_d, ↓q_add, ↓q_sub, ↓q_mul, ↓q_div, ↓q_mod, ↓q_pow, ↓q_eq, ↓q_ne, ↓q_eqs, ↓q_nes, ↓q_lt, ↓q_le, ↓q_gt, ↓q_ge, ↓q_in, ↓q_inl, ↓q_nin, ↓q_stup, ↓q_sref, ↓q_sscr, ↓q_fn, ↓q_lentup, ↓q_lenref, ↓q_lenscr, ↓q_isi, ↓q_all, ↓q_int, ↓q_tuple, ↓q_append, ↓q_slicet, ↓q_set, ↓q_repr, ↓q_eqo, ↓Z_set, ↓q_listt, ↓q_ninl, ↓u_tup, ↓u_ref, ↓u_range, ↓q_slice, ↓oi_none, ↓oi_int, ↓X_slice, ↓XO_none, ↓XO_some, ↓u_rev, ↓X_zlt, ↓q_zlt, ↓retV_ret, ↓retV_next, List.getElem?_cons_zero, List.getElem?_cons_succ, List.set_cons_zero, List.set_cons_succ, Bool.not_true, Bool.not_false, idx_0, idx_1, idx_2, idx_3, idx_4, idx_5, iP_0, iP_1, iP_2, iP_3, Int.reduceAdd, Int.reduceSub, Int.reduceMul, Int.reduceNeg, Int.reducePow, Int.reduceLT, Int.reduceLE, Int.reduceEq, Int.reduceNe, Int.reduceToNat, Int.reduceAbs, Nat.reduceAdd, Nat.reduceLT, Nat.reduceLeDiff, Nat.reducePow, Nat.reduceLT, List.length_cons, List.length_nil, true_implies, false_implies, not_true_eq_false, not_false_eq_true, and_true, true_and, and_self, or_true, true_or, decide_true, decide_false, exists_eq_left', Option.some.injEq, ↓X_strm, ↓sV_str, ↓q_join, ↓q_split, ↓q_strint, ↓q_strstr, ↓q_intstr, ↓q_lenstr, ↓q_slices, ↓q_ins, ↓q_nins, ↓u_str, e1, e2, listAt_new]
  refine comp_nums N1_no (by simp) listAt_new (Txt.split w ",") [] (split_ok2 hw) (fun is his => ?_) fun hn => x hn _ pre_new
  rw [List.nil_append]
  have hlen := mapN_len his
  refine ⟨by rw [List.length_map]; have := hw.2; omega, ?_⟩
  exact q is his _ (pre_new.trans pre_new)
noncomputable def N2 : Orc := ext "numbers_of" C_nos N1
theorem N2_no : N2 "number_of" = C_no := rfl
theorem N2_nos : N2 "numbers_of" = C_nos := rfl

theorem iw_list {Φ : Orc} {u w : Str} {rest : List V} {i : Nat} {Lr : Lc} {H : Hp} {a b : List IS} {QF : QS} {XF : XS} {c : Bool} (hl : listAt H i = some (.str u :: rest)) (he : (u == w) = c)
    (h : ifP c (wpSs Φ a (some (.ref i) :: Lr) H QF XF) (wpSs Φ b (some (.ref i) :: Lr) H QF XF)) : wpS Φ (.ite (.cmp (.sub (.loc 0) (.lit (.int 0))) .Eq (.lit (.str w))) a b) (some (.ref i) :: Lr) H QF XF := by
  rw [Z_ite]
  simp only [Y_cmp, X_cmp, X_sub, X_loc, X_lit, List.getElem?_cons_zero, oKK_some, q_sref, hl, oK_some, idx_0, iP_0, q_eqs, he, tX_bool]
  exact h
theorem iw_notin {Φ : Orc} {u : Str} {rest ws : List V} {i : Nat} {Lr : Lc} {H : Hp} {a b : List IS} {QF : QS} {XF : XS} {c : Bool} (hl : listAt H i = some (.str u :: rest)) (he : memV (.str u) ws = some c)
    (h : ifP (!c) (wpSs Φ a (some (.ref i) :: Lr) H QF XF) (wpSs Φ b (some (.ref i) :: Lr) H QF XF)) : wpS Φ (.ite (.cmp (.sub (.loc 0) (.lit (.int 0))) .NotIn (.lit (.tup ws))) a b) (some (.ref i) :: Lr) H QF XF := by
  rw [Z_ite]
  simp only [Y_cmp, X_cmp, X_sub, X_loc, X_lit, List.getElem?_cons_zero, oKK_some, q_sref, hl, oK_some, idx_0, iP_0, q_nin, he, tX_bool]
  exact h
theorem pl_go {u : Str} {r : List Str} {i : Nat} {H : Hp} {Q : V → Hp → Prop} {X : XL} (hl : listAt H i = some (.str u :: r.map V.str)) (hr : ∀ w ∈ r, wOk w) (hn : r.length ≤ 20) (q : ∀ is, mapN r = some is → ∀ H', H <+: H' → Q (.tup (.str u :: is.map V.int)) H') (x : mapN r = none → ∀ H', H <+: H' → X NR H') :
    (wp2 N2 (.call (.ty .tuple) [(.bin .Add (.lst [(.sub (.loc 0) (.lit (.int 0)))]) (.comp (.call (.fn "number_of") [(.loc 1)]) 1 .val (.slice (.loc 0) (some (.lit (.int 1))) none)))])).E [some (.ref i), none, none, none] H Q X := by
  have hl1 := listAt_pre (pre_new (o := .list [.str u])) hl
  simp only [↓X_lit, ↓X_loc, ↓X_bin, ↓negX_int, ↓X_neg, ↓X_not, ↓Y_not, ↓X_and, ↓Y_and, ↓X_or, ↓Y_or, ↓X_cmp, ↓X_cmp2, ↓X_ite, ↓Y_ite, ↓X_tup, ↓X_lst, ↓X_call, ↓X_meth, ↓X_sub, ↓X_comp, ↓Y_lit, ↓Y_loc, ↓Y_cmp, ↓Y_cmp2, ↓Y_call, ↓Y_sub, ↓XEs_nil, ↓XEs_cons, ↓Z_expr, ↓Z_assign, ↓Z_ret, ↓Z_ite, ↓Z_for, ↓Z_raise, ↓Zs_nil, ↓sqX_next, ↓sqX_ret, ↓Zs_cons, ↓wkX_next, ↓wkX_ret, ↓fkX_next, ↓fkX_ret, ↓oKK_some, ↓oK_some, ↓tX_bool, ↓iX_t, ↓iX_f, ↓iX_d, ↓q_add, ↓q_sub, ↓q_mul, ↓q_div, ↓q_mod, ↓q_pow, ↓q_eq, ↓q_ne, ↓q_eqs, ↓q_nes, ↓q_lt, ↓q_le, ↓q_gt, ↓q_ge, ↓q_in, ↓q_inl, ↓q_nin, ↓q_stup, ↓q_sref, ↓q_sscr, ↓q_fn, ↓q_lentup, ↓q_lenref, ↓q_lenscr, ↓q_isi, ↓q_all, ↓q_int, ↓q_tuple, ↓q_append, ↓q_slicet, ↓q_set, ↓q_repr, ↓q_eqo, ↓Z_set, ↓q_listt, ↓q_ninl, ↓u_tup, ↓u_ref, ↓u_range, ↓q_slice, ↓oi_none, ↓oi_int, ↓X_slice, ↓XO_none, ↓XO_some, ↓u_rev, ↓X_zlt, ↓q_zlt, ↓retV_ret, ↓retV_next, List.getElem?_cons_zero, List.getElem?_cons_succ, List.set_cons_zero, List.set_cons_succ, Bool.not_true, Bool.not_false, idx_0, idx_1, idx_2, idx_3, idx_4, idx_5, iP_0, iP_1, iP_2, iP_3, Int.reduceAdd, Int.reduceSub, Int.reduceMul, Int.reduceNeg, Int.reducePow, Int.reduceLT, Int.reduceLE, Int.reduceEq, Int.reduceNe, Int.reduceToNat, Int.reduceAbs, Nat.reduceAdd, Nat.reduceLT, Nat.reduceLeDiff, Nat.reducePow, Nat.reduceLT, List.length_cons, List.length_nil, true_implies, false_implies, not_true_eq_false, not_false_eq_true, and_true, true_and, and_self, or_true, true_or, decide_true, decide_false, exists_eq_left', Option.some.injEq, ↓X_strm, ↓sV_str, ↓q_join, ↓q_split, ↓q_strint, ↓q_strstr, ↓q_intstr, ↓q_lenstr, ↓q_slices, ↓q_ins, ↓q_nins, ↓u_str, hl, hl1, sl_1, listAt_new]
  refine comp_nums N2_no (by simp) listAt_new r [] hr (fun is his => ?_) fun hx => x hx _ (pre_new.trans pre_new)
  rw [List.nil_append]
  have hlen := mapN_len his
  refine ⟨by rw [List.length_map]; omega, ?_⟩
  have h1 : listAt (((H ++ [.list [.str u]]) ++ [.list (r.map V.str)]) ++ [.list (is.map V.int)]) H.length = some [.str u] := listAt_pre pre_new (listAt_pre pre_new listAt_new)
  simp only [q_list, q_tuple, oK_some, h1, listAt_new]
  refine ⟨by simp only [List.length_map, List.length_cons, List.length_nil]; omega, ?_⟩
  exact q is his _ (pre_new.trans (pre_new.trans (pre_new.trans pre_new)))
theorem pl_week {u w0 : Str} {r : List Str} {i : Nat} {H : Hp} {Q : V → Hp → Prop} {X : XL} (hl : listAt H i = some (.str u :: .str w0 :: r.map V.str)) (h0 : wOk w0) (hr : ∀ w ∈ r, wOk w) (hn : r.length ≤ 20)
    (q : ∀ ds, numsOf w0 = some ds → ∀ is, mapN r = some is → ∀ H', H <+: H' → Q (.tup (.str u :: intsV ds :: is.map V.int)) H') (x : (numsOf w0 = none ∨ mapN r = none) → ∀ H', H <+: H' → X NR H') :
    (wp2 N2 (.call (.ty .tuple) [(.bin .Add (.lst [(.sub (.loc 0) (.lit (.int 0))), (.call (.fn "numbers_of") [(.sub (.loc 0) (.lit (.int 1)))])]) (.comp (.call (.fn "number_of") [(.loc 1)]) 1 .val (.slice (.loc 0) (some (.lit (.int 2))) none)))])).E [some (.ref i), none, none, none] H Q X := by
  simp only [↓X_lit, ↓X_loc, ↓X_bin, ↓negX_int, ↓X_neg, ↓X_not, ↓Y_not, ↓X_and, ↓Y_and, ↓X_or, ↓Y_or, ↓X_cmp, ↓X_cmp2, ↓X_ite, ↓Y_ite, ↓X_tup, ↓X_lst, ↓X_call, ↓X_meth, ↓X_sub, ↓X_comp, ↓Y_lit, ↓Y_loc, ↓Y_cmp, ↓Y_cmp2, ↓Y_call, ↓Y_sub, ↓XEs_nil, ↓XEs_cons, ↓Z_expr, ↓Z_assign, ↓Z_ret, ↓Z_ite, ↓Z_for, ↓Z_raise, ↓Zs_nil, ↓sqX_next, ↓sqX_ret, ↓Zs_cons, ↓wkX_next, ↓wkX_ret, ↓fkX_next, ↓fkX_ret, ↓oKK_some, ↓oK_some, ↓tX_bool, ↓iX_t, ↓iX_f, ↓iX_d, ↓q_add, ↓q_sub, ↓q_mul, ↓q_div, ↓q_mod, ↓q_pow, ↓q_eq, ↓q_ne, ↓q_eqs, ↓q_nes, ↓q_lt, ↓q_le, ↓q_gt, ↓q_ge, ↓q_in, ↓q_inl, ↓q_nin, ↓q_stup, ↓q_sref, ↓q_sscr, ↓q_fn, ↓q_lentup, ↓q_lenref, ↓q_lenscr, ↓q_isi, ↓q_all, ↓q_int, ↓q_tuple, ↓q_append, ↓q_slicet, ↓q_set, ↓q_repr, ↓q_eqo, ↓Z_set, ↓q_listt, ↓q_ninl, ↓u_tup, ↓u_ref, ↓u_range, ↓q_slice, ↓oi_none, ↓oi_int, ↓X_slice, ↓XO_none, ↓XO_some, ↓u_rev, ↓X_zlt, ↓q_zlt, ↓retV_ret, ↓retV_next, List.getElem?_cons_zero, List.getElem?_cons_succ, List.set_cons_zero, List.set_cons_succ, Bool.not_true, Bool.not_false, idx_0, idx_1, idx_2, idx_3, idx_4, idx_5, iP_0, iP_1, iP_2, iP_3, Int.reduceAdd, Int.reduceSub, Int.reduceMul, Int.reduceNeg, Int.reducePow, Int.reduceLT, Int.reduceLE, Int.reduceEq, Int.reduceNe, Int.reduceToNat, Int.reduceAbs, Nat.reduceAdd, Nat.reduceLT, Nat.reduceLeDiff, Nat.reducePow, Nat.reduceLT, List.length_cons, List.length_nil, true_implies, false_implies, not_true_eq_false, not_false_eq_true, and_true, true_and, and_self, or_true, true_or, decide_true, decide_false, exists_eq_left', Option.some.injEq, ↓X_strm, ↓sV_str, ↓q_join, ↓q_split, ↓q_strint, ↓q_strstr, ↓q_intstr, ↓q_lenstr, ↓q_slices, ↓q_ins, ↓q_nins, ↓u_str, hl, ↓N2_nos]
  refine ⟨w0, rfl, h0, fun ds hds H' hp => ?_, fun hx H' hp => x (.inl hx) H' hp⟩
  have hl1 := listAt_pre (pre_new (o := .list [.str u, intsV ds])) (listAt_pre hp hl)
  simp only [↓X_lit, ↓X_loc, ↓X_bin, ↓negX_int, ↓X_neg, ↓X_not, ↓Y_not, ↓X_and, ↓Y_and, ↓X_or, ↓Y_or, ↓X_cmp, ↓X_cmp2, ↓X_ite, ↓Y_ite, ↓X_tup, ↓X_lst, ↓X_call, ↓X_meth, ↓X_sub, ↓X_comp, ↓Y_lit, ↓Y_loc, ↓Y_cmp, ↓Y_cmp2, ↓Y_call, ↓Y_sub, ↓XEs_nil, ↓XEs_cons, ↓Z_expr, ↓Z_assign, ↓Z_ret, ↓Z_ite, ↓Z_for, ↓Z_raise, ↓Zs_nil, ↓sqX_next, ↓sqX_ret, ↓Zs_cons, ↓wkX_next, ↓wkX_ret, ↓fkX_next, ↓fkX_ret, ↓oKK_some, ↓oK_some, ↓tX_bool, ↓iX_t, ↓iX_f, ↓iX_d, ↓q_add, ↓q_sub, ↓q_mul, ↓q_div, ↓q_mod, ↓q_pow, ↓q_eq, ↓q_ne, ↓q_eqs, ↓q_nes, ↓q_lt, ↓q_le, ↓q_gt, ↓q_ge, ↓q_in, ↓q_inl, ↓q_nin, ↓q_stup, ↓q_sref, ↓q_sscr, ↓q_fn, ↓q_lentup, ↓q_lenref, ↓q_lenscr, ↓q_isi, ↓q_all, ↓q_int, ↓q_tuple, ↓q_append, ↓q_slicet, ↓q_set, ↓q_repr, ↓q_eqo, ↓Z_set, ↓q_listt, ↓q_ninl, ↓u_tup, ↓u_ref, ↓u_range, ↓q_slice, ↓oi_none, ↓oi_int, ↓X_slice, ↓XO_none, ↓XO_some, ↓u_rev, ↓X_zlt, ↓q_zlt, ↓retV_ret, ↓retV_next, List.getElem?_cons_zero, List.getElem?_cons_succ, List.set_cons_zero, List.set_cons_succ, Bool.not_true, Bool.not_false, idx_0, idx_1, idx_2, idx_3, idx_4, idx_5, iP_0, iP_1, iP_2, iP_3, Int.reduceAdd, Int.reduceSub, Int.reduceMul, Int.reduceNeg, Int.reducePow, Int.reduceLT, Int.reduceLE, Int.reduceEq, Int.reduceNe, Int.reduceToNat, Int.reduceAbs, Nat.reduceAdd, Nat.reduceLT, Nat.reduceLeDiff, Nat.reducePow, Nat.reduceLT, List.length_cons, List.length_nil, true_implies, false_implies, not_true_eq_false, not_false_eq_true, and_true, true_and, and_self, or_true, true_or, decide_true, decide_false, exists_eq_left', Option.some.injEq, ↓X_strm, ↓sV_str, ↓q_join, ↓q_split, ↓q_strint, ↓q_strstr, ↓q_intstr, ↓q_lenstr, ↓q_slices, ↓q_ins, ↓q_nins, ↓u_str, hl1, sl_2, listAt_new]
  refine comp_nums N2_no (by simp) listAt_new r [] hr (fun is his => ?_) fun hx => x (.inr hx) _ (hp.trans (pre_new.trans pre_new))
  rw [List.nil_append]
  have hlen := mapN_len his
  refine ⟨by rw [List.length_map]; omega, ?_⟩
  have h1 : listAt (((H' ++ [.list [.str u, intsV ds]]) ++ [.list (r.map V.str)]) ++ [.list (is.map V.int)]) H'.length = some [.str u, intsV ds] := listAt_pre pre_new (listAt_pre pre_new listAt_new)
  simp only [q_list, q_tuple, oK_some, h1, listAt_new]
  refine ⟨by simp only [List.length_map, List.length_cons, List.length_nil]; omega, ?_⟩
  exact q ds hds is his _ (hp.trans (pre_new.trans (pre_new.trans (pre_new.trans pre_new))))
noncomputable def C_po : Ctr := fun vs H Q X => ∃ (u : Str) (r : List Str) (i : Nat), vs = [.ref i] ∧ listAt H i = some (.str u :: r.map V.str) ∧ (∀ w ∈ r, wOk w) ∧ (∀ v, plOf u r = some v → ∀ H', H <+: H' → Q v H') ∧ (plOf u r = none → ∀ H', H <+: H' → X NR H')
theorem plOf_num {u : Str} {r : List Str} (hl : r.length = 2 ∨ r.length = 3) (hw : (u == "week") = false) : plOf u r = (mapN r).map fun (is : List Int) => V.tup (.str u :: is.map V.int) := by
  unfold plOf
  rw [if_pos hl]
  cases r with
  | nil => exact absurd hl (by decide)
  | cons w r =>
    show plO u (fstOf (u == "week") w) (mapN r) = (match numOf w with | some i => (mapN r).map (i :: ·) | none => none).map _
    rw [hw]
    show plO u ((numOf w).map V.int) (mapN r) = _
    cases numOf w with
    | none => rfl
    | some i => cases mapN r <;> rfl
theorem w_plain_of : ∀ vs H Q X, C_po vs H Q X → wpFn N2 f_plain_of vs H Q X := by
  rintro vs H Q X ⟨u, r, i, rfl, hl, hr, q, x⟩
  refine fn_of rfl ?_
  change wpSs N2 f_plain_of.body [some (.ref i), none, none, none] H _ _
  have x0 := fun h => x h H (List.prefix_refl _)
  have el : (r.map V.str).length = r.length := List.length_map _
  by_cases h1 : (((r.map V.str).length + 1 : Nat) : Int) < 3
  · refine zs_cons ?_
    simp_arith only [hl, h1]
    exact x0 (by unfold plOf; rw [if_neg (by omega)])
  · by_cases h2 : (4 : Int) < (((r.map V.str).length + 1 : Nat) : Int)
    · refine zs_cons ?_
      simp_arith only [hl, h1, h2]
      exact x0 (by unfold plOf; rw [if_neg (by omega)])
    · have hlen : r.length = 2 ∨ r.length = 3 := by omega
      refine zs_cons ?_
      generalize hK : sqX N2 (_ :: _) = K
      simp_arith only [hl, h1, h2]
      subst hK
      cases hw : u == "week" with
      | false =>
        have ep : plOf u r = (mapN r).map fun (is : List Int) => V.tup (.str u :: is.map V.int) := plOf_num hlen hw
        rw [ep] at q x
        refine zs_cons (iw_list hl hw ?_)
        show sqX N2 _ _ _ .next _ _
        refine zs_cons ?_
        rw [Z_ret]
        exact pl_go hl hr (by omega) (fun is his => q _ (by rw [his]; rfl)) fun hx => x (by rw [hx]; rfl)
      | true =>
        cases r with
        | nil => exact absurd hlen (by decide)
        | cons w0 r =>
          have ep : plOf u (w0 :: r) = plO u ((numsOf w0).map intsV) (mapN r) := by unfold plOf; rw [if_pos hlen, hw]; rfl
          rw [ep] at q x
          refine zs_cons (iw_list hl hw (zs_cons ?_))
          rw [Z_ret]
          refine pl_week hl (hr w0 (by simp)) (fun y hy => hr y (List.mem_cons_of_mem _ hy)) (by rw [List.length_cons] at hlen; omega) (fun ds hds is his => q _ (by rw [hds, his]; rfl)) fun hx => x ?_
          rcases hx with hx | hx
          · rw [hx]; rfl
          · rw [hx]; cases numsOf w0 <;> rfl
noncomputable def N3 : Orc := ext "plain_of" C_po N2
theorem N3_po : N3 "plain_of" = C_po := rfl

noncomputable def C_ro (n : Nat) : Ctr := fun vs H Q X => ∃ (u : Str) (r : List Str) (i k : Nat), vs = [.ref i, .int (k : Int)] ∧ listAt H i = some (.str u :: r.map V.str) ∧ (∀ w ∈ r, wOk w) ∧ k ≤ n ∧
  (∀ v, ruleOf k (u :: r) = some v → ∀ H', H <+: H' → Q v H') ∧ (ruleOf k (u :: r) = none → ∀ H', H <+: H' → X NR H')
noncomputable def RO : Nat → Orc
  | 0 => N3
  | n + 1 => ext "rule_of" (C_ro n) (RO n)
theorem RO_ro {n : Nat} : RO (n + 1) "rule_of" = C_ro n := rfl
theorem ro_other {x : Str} (h : (x == Str.ofString "rule_of") = false) : ∀ n, RO n x = N3 x
  | 0 => rfl
  | n + 1 => by
    show ext "rule_of" (C_ro n) (RO n) x = _
    unfold ext
    funext vs H Q X
    rw [if_neg (by rw [h]; decide), ro_other h n]
theorem RO_po (n : Nat) : RO n "plain_of" = C_po := ro_other (by decide) n
theorem RO_no (n : Nat) : RO n "number_of" = C_no := ro_other (by decide) n
theorem RO_nos (n : Nat) : RO n "numbers_of" = C_nos := ro_other (by decide) n
theorem ro_big {n k i : Nat} {u w y : Str} {r : List Str} {H : Hp} {Q : V → Hp → Prop} {X : XL} {e : Int} (hl : listAt H i = some (.str u :: .str w :: .str y :: r.map V.str)) (hw : wOk w) (hr : ∀ z ∈ r, wOk z) (hk : k ≤ n) (he : e - 1 = (k : Int))
    (q : ∀ v, ruleOf k (y :: r) = some v → ∀ a, hdOf u w = some a → ∀ H', H <+: H' → Q (.tup [.str u, a, v]) H') (x : (ruleOf k (y :: r) = none ∨ hdOf u w = none) → ∀ H', H <+: H' → X NR H') :
    wpSs (RO (n + 1)) (f_rule_of.body.drop 2) [some (.ref i), some (.int e), none, none, none, none] H (fun fl _ H1 => Q (retV fl) H1) (fun x _ H1 => X x H1) := by
  refine zs_cons ?_
  generalize hK : sqX (RO (n + 1)) (_ :: _) = K
  have e3 : ¬ (((r.map V.str).length + 1 + 1 + 1 : Nat) : Int) < 3 := by omega
  simp_arith only [hl, e3]
  subst hK
  refine zs_cons ?_
  generalize hK : sqX (RO (n + 1)) (_ :: _) = K
  simp_arith only [hl, sl_2, ↓RO_ro, he]
  subst hK
  refine ⟨y, r, _, k, rfl, listAt_new, hr, hk, fun v hv H' hp => ?_, fun hn H' hp => x (.inl hn) H' (pre_new.trans hp)⟩
  have hl' := listAt_pre (pre_new.trans hp) hl
  have q := q v hv
  have hp0 := (pre_new (o := .list (.str y :: r.map V.str))).trans hp
  cases hb : u == "but" with
  | true =>
    have eh : hdOf u w = (numsOf w).map intsV := by unfold hdOf; rw [hb]; rfl
    rw [eh] at q x
    refine zs_cons (iw_list hl' hb (zs_cons ?_))
    simp_arith only [hl', RO_nos]
    refine ⟨w, rfl, hw, fun ds hds H2 hp2 => ?_, fun hn H2 hp2 => x (.inr (by rw [hn]; rfl)) H2 (hp0.trans hp2)⟩
    simp_arith only [X_lit]
    exact q _ (by rw [hds]; rfl) _ (hp0.trans hp2)
  | false =>
    have eh : hdOf u w = (numOf w).map V.int := by unfold hdOf; rw [hb]; rfl
    rw [eh] at q x
    refine zs_cons (iw_list hl' hb ?_)
    show sqX (RO (n + 1)) _ _ _ .next _ _
    refine zs_cons ?_
    simp_arith only [hl', RO_no]
    refine ⟨w, rfl, hw, fun i hi => ?_, fun hn => x (.inr (by rw [hn]; rfl)) H' hp0⟩
    simp_arith only [X_lit]
    exact q _ (by rw [hi]; rfl) _ hp0
theorem ro_short {n i : Nat} {l : List V} {e : V} {H : Hp} {Q : V → Hp → Prop} {X : XL} (hl : listAt H i = some l) (h : (l.length : Int) < 3) (x : X NR H) :
    wpSs (RO n) (f_rule_of.body.drop 2) [some (.ref i), some e, none, none, none, none] H (fun fl _ H1 => Q (retV fl) H1) (fun x _ H1 => X x H1) := by
  refine zs_cons ?_
  simp_arith only [hl, h]
  exact x
theorem w_rule_of (n : Nat) : ∀ vs H Q X, C_ro n vs H Q X → wpFn (RO n) f_rule_of vs H Q X := by
  rintro vs H Q X ⟨u, r, i, k, rfl, hl, hr, hk, q, x⟩
  refine fn_of rfl ?_
  change wpSs (RO n) f_rule_of.body [some (.ref i), some (.int k), none, none, none, none] H _ _
  have x0 := fun h => x h H (List.prefix_refl _)
  have e1 : ¬ (((r.map V.str).length + 1 : Nat) : Int) = 0 := by omega
  by_cases h0 : (k : Int) = 0
  · refine zs_cons ?_
    simp_arith only [hl, e1, h0]
    have : k = 0 := by omega
    exact x0 (by rw [this]; rfl)
  · refine zs_cons ?_
    generalize hK : sqX (RO n) (_ :: _) = K
    simp_arith only [hl, e1, h0]
    subst hK
    obtain ⟨k, rfl⟩ : ∃ k', k = k' + 1 := ⟨k - 1, by omega⟩
    obtain ⟨n, rfl⟩ : ∃ n', n = n' + 1 := ⟨n - 1, by omega⟩
    cases ho : inOut u with
    | false =>
      rw [ruleOf_plain ho] at q x
      refine zs_cons (iw_notin hl (mem_out.trans (congrArg some ho)) ?_)
      simp_arith only [RO_po]
      exact ⟨u, r, i, rfl, hl, hr, q, x⟩
    | true =>
      refine zs_cons (iw_notin hl (mem_out.trans (congrArg some ho)) ?_)
      show sqX (RO (n + 1)) _ _ _ .next _ _
      clear h0 e1
      match r, hl, hr, q, x, x0 with
      | [], hl, _, _, _, x0 => exact ro_short hl (by show (1 : Int) < 3; decide) (x0 (by show (if inOut u then _ else _) = _; rw [ho, if_pos rfl]))
      | [w], hl, _, _, _, x0 => exact ro_short hl (by show (2 : Int) < 3; decide) (x0 (by show (if inOut u then _ else _) = _; rw [ho, if_pos rfl]))
      | w :: y :: r, hl, hr, q, x, _ =>
        rw [ruleOf_head ho] at q x
        refine ro_big hl (hr w (by simp)) (fun z hz => hr z (by simp [hz])) (Nat.le_of_succ_le_succ hk) (by omega) (fun v hv a ha => q _ (by rw [hv, ha]; rfl)) fun h => x ?_
        rcases h with h | h
        · rw [h]; rfl
        · rw [h]; cases ruleOf k (y :: r) <;> rfl
noncomputable def N4 : Orc := RO 9
theorem N4_ro : N4 "rule_of" = C_ro 8 := rfl
theorem N4_sh : N4 "shown" = C_sh 8 := rfl
theorem N4_ir : N4 "is_rule" = C_is_rule := rfl

/- a line that is a rule's text -/
noncomputable def Told (t : Str) (R : Rl) : Prop := (R.fair ∧ isRl 8 (rv R) = true) ∧ R.depth ≤ 7 ∧ t = R.text
noncomputable def C_rd : Ctr := fun vs H Q X => ∃ t, vs = [.str t] ∧ wOk t ∧ ((∃ R, Told t R ∧ ∀ H', H <+: H' → Q (rv R) H') ∨ ((∀ R, ¬ Told t R) ∧ ∀ H', H <+: H' → X NR H'))
theorem split_cons (t : Str) : ∃ u r, Txt.split t " " = u :: r := by
  refine List.exists_cons_of_ne_nil fun e => ?_
  have := split_pos t " "
  rw [e] at this
  exact absurd this (by decide)
theorem w_read : ∀ vs H Q X, C_rd vs H Q X → wpFn N4 f_read vs H Q X := by
  rintro vs H Q X ⟨t, rfl, ht, h⟩
  refine fn_of rfl ?_
  change wpSs N4 f_read.body [some (.str t), none, none, none, none] H _ _
  have e1 : ((Str.ofString " ").length == 0) = false := by decide
  have e2 : t.length ≤ 1000000 := Nat.le_trans ht.2 (by decide)
  first | refine e2_1 (split_cons t) fun u r es => ?_ | refine e1_2 (split_cons t) fun u r es => ?_ | refine e0_3 (split_cons t) fun u r es => ?_ | obtain ⟨u, r, es⟩ := split_cons t
  have hok := split_ok2 (y := " ") ht
  rw [es] at hok
  refine zs_cons ?_
  generalize hK : sqX N4 (_ :: _) = K
  simp_arith! only [e1, e2, es, ↓N4_ro]
  subst hK
  refine ⟨u, r, _, 8, rfl, listAt_new, fun w hw => hok w (List.mem_cons_of_mem _ hw), Nat.le_refl _, fun v hv H' hp => zs_cons ?_, fun hn H' hp => ?_⟩
  · generalize hK : sqX N4 (_ :: _) = K
    have hth : Th H' v := (ruleOf_pd hv).th
    rcases h with ⟨R, ⟨⟨g, er⟩, hd, rfl⟩, q⟩ | ⟨no, x⟩
    · have ev : v = rv R := by
        rw [← es, split_text g, ruleOf_words g (by omega)] at hv
        exact (Option.some.inj hv).symm
      subst ev
      have e3 : (R.text == R.text) = true := beq_self_eq_true _
      simp_arith! only [↓N4_ir, ↓N4_sh]
      refine ⟨_, rfl, hth, ?_⟩
      simp_arith! only [er, ↓N4_sh]
      refine ⟨R, rfl, g, by omega, by omega, fun H2 hp2 => ?_⟩
      simp_arith! only [e3]
      subst hK
      exact q H2 (pre_new.trans (hp.trans hp2))
    · simp_arith! only [↓N4_ir, ↓N4_sh]
      refine ⟨v, rfl, hth, ?_⟩
      cases hr : isRl 8 v with
      | false =>
        simp_arith! only [X_lit]
        exact x H' (pre_new.trans hp)
      | true =>
        first | refine e3_1 (rv_good hr) fun R g hd e_307 => ?_ | refine e2_2 (rv_good hr) fun R g hd e_307 => ?_ | refine e1_3 (rv_good hr) fun R g hd e_307 => ?_ | refine e0_4 (rv_good hr) fun R g hd e_307 => ?_ | obtain ⟨R, g, hd, e_307⟩ := rv_good hr
        obtain rfl := e_307
        simp_arith! only [↓N4_sh]
        refine ⟨R, rfl, g, by omega, by omega, fun H2 hp2 => ?_⟩
        have e3 : (R.text == t) = false := beq_false_of_ne fun e => no R ⟨⟨g, hr⟩, by omega, e.symm⟩
        simp_arith! only [e3]
        exact x H2 (pre_new.trans (hp.trans hp2))
  · rcases h with ⟨R, ⟨⟨g, er⟩, hd, rfl⟩, q⟩ | ⟨no, x⟩
    · rw [← es, split_text g, ruleOf_words g (by omega)] at hn; cases hn
    · exact x H' (pre_new.trans hp)
noncomputable def N5 : Orc := ext "read" C_rd N4
end Mine

set_option autoImplicit false
set_option linter.unusedSimpArgs false
set_option maxRecDepth 20000
/- Law 07: what the law builds. -/
namespace Mine
open PySem

noncomputable def cell (ns : List Int) (k : Int) : Int := ns.getD k.toNat 0
noncomputable def C_cell_at : Ctr := fun vs H Q _ => ∃ ns k, vs = [.scr ns, .int k] ∧ 0 ≤ k ∧ Q (.int (cell ns k)) H
theorem cc_cell {ns : List Int} {k : Int} {H : Hp} {Q : V → Hp → Prop} {X : XL} : C_cell_at [.scr ns, .int k] H Q X = (0 ≤ k ∧ Q (.int (cell ns k)) H) := by
  refine propext ⟨?_, fun ⟨a, b⟩ => ⟨ns, k, rfl, a, b⟩⟩
  rintro ⟨ns', k', e, a, b⟩
  cases e
  exact ⟨a, b⟩
theorem w_cell_at : ∀ vs H Q X, C_cell_at vs H Q X → wpFn N5 f_l_cell_at vs H Q X := by
  rintro vs H Q X ⟨ns, k, rfl, h0, q⟩
  refine fn_of rfl ?_
  simp_arith only [f_l_cell_at, initL, List.map_cons, List.map_nil, List.replicate, List.cons_append, List.nil_append]
  refine ⟨fun h => ?_, fun h => ?_⟩
  · have hl : k.toNat < ns.length := by omega
    have e : idxP ns k = some (cell ns k) := by simp [idxP, h0, cell, hl]
    rw [e]; exact q
  · have hl : ¬ k.toNat < ns.length := by omega
    simpa [cell, hl] using q
noncomputable def O1 : Orc := ext "_law_cell_at" C_cell_at N5

/- weekdays -/
noncomputable def wdGo : List Int → Int → List Int
  | [], _ => []
  | k :: ks, b => (if b % 2 = 1 then [k] else []) ++ wdGo ks (b / 2)
noncomputable def wdOk (l : List Int) : Bool := !l.isEmpty && (decide (l.length ≤ 20) && l.all fun d => decide (0 ≤ d) && decide (d ≤ 6))
theorem wd_all : ∀ b : Fin 127, wdOk (wdGo [0, 1, 2, 3, 4, 5, 6] ((b.val : Int) + 1)) = true := by decide +kernel
theorem wd_ok {l : List Int} (h : wdOk l = true) : (Pt.l l).ok true := by
  unfold wdOk at h
  rw [Bool.and_eq_true, Bool.and_eq_true, decide_eq_true_eq, List.all_eq_true] at h
  refine ⟨rfl, fun e => ?_, h.2.1, fun d hd => ?_⟩
  · rw [e] at h; exact absurd h.1 (by decide)
  · have := h.2.2 d hd
    rw [Bool.and_eq_true, decide_eq_true_eq, decide_eq_true_eq] at this
    exact ⟨by omega, by omega⟩
theorem wd_days {b : Int} (h1 : 1 ≤ b) (h2 : b ≤ 127) : (Pt.l (wdGo [0, 1, 2, 3, 4, 5, 6] b)).ok true := by
  have h := wd_all ⟨(b - 1).toNat, by omega⟩
  rw [show (((b - 1).toNat : Nat) : Int) + 1 = b by omega] at h
  exact wd_ok h
noncomputable def C_wd : Ctr := fun vs H Q _ => ∃ b : Int, vs = [.int b] ∧ (1 ≤ b ∧ b ≤ 127) ∧ ∀ ds H', H <+: H' → (Pt.l ds).ok true → Q (intsV ds) H'
theorem wd_loop {XF : XS} {H0 : Hp} {t3 t4 t5 : Option V} {Q : QS} : ∀ (ks : List Int) (b : Int) (l : List Int) (t2 : Option V), l.length + ks.length ≤ 1000 →
    (∀ b' t2', Q .next [some (V.int b'), some (.ref H0.length), t2', t3, t4, t5] (H0 ++ [.list ((l ++ wdGo ks b).map V.int)])) →
    forGo (whBX O1 [(.ite (.cmp (.bin .Mod (.loc 0) (.lit (.int 2))) .Eq (.lit (.int 1))) [(.expr (.meth (.loc 1) .append [(.loc 2)]))] []), (.assign 0 (.bin .FloorDiv (.loc 0) (.lit (.int 2))))] XF) (fun _ => True) 2 (ks.map V.int) [some (V.int b), some (.ref H0.length), t2, t3, t4, t5] (H0 ++ [.list (l.map V.int)]) Q
  | [], b, l, t2, _, q => by
    have this : Q .next [some (V.int b), some (V.ref (List.length H0)), t2, t3, t4, t5] (H0 ++ [O.list (List.map V.int l)]) := by simpa [wdGo] using q b t2
    exact this
  | k :: ks, b, l, t2, hl, q => by
    rw [List.map_cons, foX_cons]
    simp only [List.length_cons] at hl
    have hlen : (l.map V.int).length ≤ 1000000 := by rw [List.length_map]; omega
    simp_arith only [listAt_new, set_new, hlen]
    refine ⟨fun hb => ⟨⟨_, listAt_new⟩, ?_⟩, fun hb => ?_⟩
    · have e : l.map V.int ++ [V.int k] = (l ++ [k]).map V.int := by simp
      rw [e]
      refine wd_loop ks (b / 2) (l ++ [k]) _ (by simp; omega) fun b' t2' => ?_
      have := q b' t2'
      simp only [wdGo, hb, if_true] at this
      simpa using this
    · refine wd_loop ks (b / 2) l _ (by omega) fun b' t2' => ?_
      have := q b' t2'
      simp only [wdGo, hb, if_false] at this
      simpa using this
theorem w_weekdays : ∀ vs H Q X, C_wd vs H Q X → wpFn O1 f_l_weekdays vs H Q X := by
  rintro vs H Q X ⟨b, rfl, hb, q⟩
  refine fn_of rfl ?_
  change wpSs O1 f_l_weekdays.body [some (V.int b), none, none, none, none, none] H _ _
  refine zs_cons ?_
  generalize hK : sqX O1 (_ :: _) = K
  simp_arith only [X_lit]
  subst hK
  refine zs_cons ?_
  rw [Z_for]
  show (-(2 ^ 62) ≤ (7 : Int) ∧ (7 : Int) ≤ 1000000) ∧ _
  refine ⟨by decide, ?_⟩
  refine wd_loop [0, 1, 2, 3, 4, 5, 6] b [] _ (by decide) fun b' t2' => ?_
  simp_arith only [listAt_new, List.nil_append]
  exact q _ _ pre_new (wd_days hb.1 hb.2)
noncomputable def O2 : Orc := ext "_law_weekdays" C_wd O1

noncomputable def C_tm : Ctr := fun vs H Q _ => ∃ c : Int, vs = [.int c] ∧ ∀ i H', H <+: H' → small i → Q (.int i) H'
theorem at3 {a b c k : Int} {P : Int → Prop} (ha : P a) (hb : P b) (hc : P c) (h1 : 0 ≤ k) (h2 : k < 3) : ∃ v, idxP [V.int a, .int b, .int c] k = some (.int v) ∧ P v := by
  have : k = 0 ∨ k = 1 ∨ k = 2 := by omega
  rcases this with rfl | rfl | rfl
  · exact ⟨_, rfl, ha⟩
  · exact ⟨_, rfl, hb⟩
  · exact ⟨_, rfl, hc⟩
theorem sm_mod {k x n : Int} (h : (decide (0 < n) && (decide (-1000 ≤ k) && decide (k + n ≤ 10 ^ 12))) = true) : small (k + x % n) := by
  rw [Bool.and_eq_true, Bool.and_eq_true, decide_eq_true_eq, decide_eq_true_eq, decide_eq_true_eq] at h
  have h1 := Int.emod_nonneg x (show n ≠ 0 by omega)
  have h2 := Int.emod_lt_of_pos x h.1
  generalize x % n = y at h1 h2
  exact ⟨by omega, by omega⟩
theorem sm_mod0 {x n : Int} (h : (decide (0 < n) && decide (n ≤ 10 ^ 12)) = true) : small (x % n) := by
  have := sm_mod (k := 0) (x := x) (n := n) (by rw [Int.zero_add]; exact h)
  rwa [Int.zero_add] at this
theorem w_time : ∀ vs H Q X, C_tm vs H Q X → wpFn O2 f_l_time vs H Q X := by
  rintro vs H Q X ⟨c, rfl, q⟩
  refine fn_of rfl ?_
  obtain ⟨v, hv, ht⟩ := at3 (P := small) (a := c / 3 % 200) (b := c / 3 % 1000000000000) (c := 999999999999 - c / 3 % 3) (k := c % 3) (sm_mod0 (by decide)) (sm_mod0 (by decide)) (by unfold small; omega) (by omega) (by omega)
  simp_arith only [f_l_time, initL, List.map_cons, List.map_nil, List.replicate, List.cons_append, List.nil_append, listAt_new, hv]
  exact q _ _ pre_new ht
noncomputable def O3 : Orc := ext "_law_time" C_tm O2
theorem O3_tm : O3 "_law_time" = C_tm := rfl
theorem O3_wd : O3 "_law_weekdays" = C_wd := rfl

theorem sm1 {a : Int} (h : small a) : smalls [a] := List.forall_mem_cons.mpr ⟨h, fun _ h => nomatch h⟩
theorem sm2 {a b : Int} (h1 : small a) (h2 : small b) : smalls [a, b] := List.forall_mem_cons.mpr ⟨h1, sm1 h2⟩
theorem fair_pl {u : Str} {p : Pt} {is : List Int} {b : Bool} (hu : ((!inOut u && uOk u) && ((u == "week") == b)) = true) (hp : p.ok b) (hs : smalls is) (hl : is.length = 1 ∨ is.length = 2) : (Rl.pl u p is).fair := by
  rw [Bool.and_eq_true, Bool.and_eq_true, Bool.not_eq_true'] at hu
  exact ⟨hu.1, by rw [eq_of_beq hu.2]; exact hp, hs, hl⟩
noncomputable def C_wp : Ctr := fun vs H Q _ => ∃ i a b c, vs = [.ref i] ∧ listAt H i = some [.int a, .int b, .int c] ∧ ∀ r H', H <+: H' → r.depth = 0 → r.fair → Q (rv r) H'
theorem w_wide_plain : ∀ vs H Q X, C_wp vs H Q X → wpFn O3 f_l_wide_plain vs H Q X := by
  rintro vs H Q X ⟨i, a, b, c, rfl, hl, q⟩
  refine fn_of rfl ?_
  change wpSs O3 f_l_wide_plain.body [some (.ref i), none, none, none, none, none, none] H _ _
  refine zs_cons ?_
  generalize hK : sqX O3 (_ :: _) = K
  simp_arith only [hl]
  subst hK
  generalize a % 4 = kind
  refine zs_cons ?_
  generalize hK : sqX O3 (_ :: _) = K
  simp_arith only [hl]
  subst hK
  have hs : small (1 + a / 4 % 48) := sm_mod (by decide)
  generalize 1 + a / 4 % 48 = s at hs ⊢
  have hb : small (b % 24) := sm_mod0 (by decide)
  refine zs_cons ?_
  generalize hK : sqX O3 (_ :: _) = K
  simp_arith only [hl, ↓O3_tm]
  subst hK
  refine ⟨fun _ => ⟨b, rfl, fun h H' hp hh => ?_⟩, fun _ => zs_cons ?_⟩
  · simp_arith only [X_lit]
    exact q (.pl "once" (.n h) [s]) H' hp rfl (fair_pl (by decide) ⟨rfl, hh⟩ (sm1 hs) (.inl rfl))
  generalize hK : sqX O3 (_ :: _) = K
  simp_arith only [hl, ↓O3_tm]
  subst hK
  refine ⟨fun _ => ⟨b, rfl, fun h H' hp hh => ?_⟩, fun _ => zs_cons ?_⟩
  · have hl' := listAt_pre hp hl
    have e2 : ∃ v, idxP [V.int (c / 2 % 30), .int (c / 2 % 1000000)] (c % 2) = some (.int v) ∧ small (1 + v) := by
      have : c % 2 = 0 ∨ c % 2 = 1 := by omega
      rcases this with e | e <;> rw [e]
      · exact ⟨_, rfl, sm_mod (by decide)⟩
      · exact ⟨_, rfl, sm_mod (by decide)⟩
    first | refine e2_1 e2 fun v hv v1 => ?_ | refine e1_2 e2 fun v hv v1 => ?_ | refine e0_3 e2 fun v hv v1 => ?_ | obtain ⟨v, hv, v1⟩ := e2
    have hl2 := listAt_pre (pre_new (o := .list [.int (c / 2 % 30), .int (c / 2 % 1000000)])) hl'
    simp_arith only [hl', hl2, listAt_new, hv]
    exact q (.pl "every" (.n h) [s, 1 + v]) _ (hp.trans pre_new) rfl (fair_pl (by decide) ⟨rfl, hh⟩ (sm2 hs v1) (.inr rfl))
  generalize hK : sqX O3 (_ :: _) = K
  simp_arith only [hl, ↓O3_wd]
  subst hK
  refine ⟨fun _ => ⟨_, rfl, ⟨by omega, by omega⟩, fun ds H' hp hh => ?_⟩, fun _ => zs_cons ?_⟩
  · have hl' := listAt_pre hp hl
    simp_arith only [hl']
    exact q (.pl "week" (.l ds) [b % 24, s]) H' hp rfl (fair_pl (by decide) hh (sm2 hb hs) (.inr rfl))
  generalize hK : sqX O3 (_ :: _) = K
  simp_arith only [hl]
  subst hK
  have hd : small (c % 62 - 31 + (if decide (0 ≤ c % 62 - 31) = true then 1 else 0)) := by
    unfold small; split <;> omega
  refine zs_cons ?_
  simp_arith only [hl]
  exact q (.pl "month" (.n _) [b % 24, s]) H (List.prefix_refl _) rfl (fair_pl (by decide) ⟨rfl, hd⟩ (sm2 hb hs) (.inr rfl))
noncomputable def O4 : Orc := ext "_law_wide_plain" C_wp O3
theorem O4_tm : O4 "_law_time" = C_tm := rfl

theorem ap_small {day s : Int} {k : Nat} (h1 : 0 ≤ day) (h2 : day ≤ 100000000000) (hs1 : 0 ≤ s) (hs2 : s ≤ 3) (hk : k < 1000) : small (day + (0 + (k : Int)) * s) := by
  rw [Int.zero_add]
  have e1 : 0 ≤ (k : Int) * s := Int.mul_nonneg (by omega) hs1
  have e2 : (k : Int) * s ≤ (k : Int) * 3 := Int.mul_le_mul_of_nonneg_left hs2 (by omega)
  unfold small; omega
theorem comp_ap {Φ : Orc} {X : XL} {t3 : Option V} {day c : Int} {r w : V} {QL : List V → Hp → Prop} {H : Hp} (h1 : 0 ≤ day) (h2 : day ≤ 100000000000) : ∀ (ks : List Nat) (acc : List V), (∀ k ∈ ks, k < 1000) → (∀ ds : List Int, ds.length = ks.length → smalls ds → QL (acc ++ ds.map V.int) H) →
    compGo (coEX Φ (.bin .Add (.loc 4) (.bin .Mult (.loc 5) (.bin .Add (.lit (.int 1)) (.bin .Mod (.bin .FloorDiv (.loc 0) (.lit (.int 11))) (.lit (.int 3)))))) X) (fun _ => True) 5 [some (.int c), some r, some w, t3, some (.int day), none, none, none] (ks.map fun (k : Nat) => V.int (0 + (k : Int))) acc H QL
  | [], acc, _, q => by
    have q := q [] rfl fun _ h => nomatch h
    rw [List.map_nil, List.append_nil] at q
    exact q
  | k :: ks, acc, h, q => by
    rw [List.map_cons, coX_cons]
    have hk := h k (by simp)
    have hsm := ap_small (s := 1 + c / 11 % 3) h1 h2 (by omega) (by omega) hk
    simp_arith only [X_lit]
    refine ⟨.inl ⟨by omega, by omega⟩, comp_ap h1 h2 ks _ (fun x hx => h x (List.mem_cons_of_mem _ hx)) fun ds hl hs => ?_⟩
    rw [List.append_assoc]
    exact q (_ :: ds) (by rw [List.length_cons, hl]; rfl) (List.forall_mem_cons.mpr ⟨hsm, hs⟩)
theorem at4 {k : Int} (h1 : 0 ≤ k) (h2 : k < 4) : ∃ u, idxP [V.str "from", .str "until", .str "also", .str "but"] k = some (.str u) ∧ inOut u = true ∧ uOk u = true := by
  have : k = 0 ∨ k = 1 ∨ k = 2 ∨ k = 3 := by omega
  rcases this with rfl | rfl | rfl | rfl <;> exact ⟨_, rfl, by decide, by decide⟩
noncomputable def C_wh : Ctr := fun vs H Q _ => ∃ c r, vs = [.int c, rv r] ∧ r.fair ∧ ∀ r' H', H <+: H' → r'.fair → r'.depth = r.depth + 1 → Q (rv r') H'
theorem w_wide_head : ∀ vs H Q X, C_wh vs H Q X → wpFn O4 f_l_wide_head vs H Q X := by
  rintro vs H Q X ⟨c, r, rfl, g, q⟩
  refine fn_of rfl ?_
  change wpSs O4 f_l_wide_head.body [some (.int c), some (rv r), none, none, none, none, none, none] H _ _
  first | refine e2_1 (at4 (k := c % 4) (by omega) (by omega)) fun u hu ho => ?_ | refine e1_2 (at4 (k := c % 4) (by omega) (by omega)) fun u hu ho => ?_ | refine e0_3 (at4 (k := c % 4) (by omega) (by omega)) fun u hu ho => ?_ | obtain ⟨u, hu, ho⟩ := at4 (k := c % 4) (by omega) (by omega)
  refine zs_cons ?_
  generalize hK : sqX O4 (_ :: _) = K
  simp_arith only [listAt_new, hu]
  subst hK
  refine zs_cons ?_
  generalize hK : sqX O4 (_ :: _) = K
  cases hb : u == Str.ofString "but" with
  | false =>
    simp_arith only [hb, ↓O4_tm]
    subst hK
    refine ⟨_, rfl, fun h H' hp hh => ?_⟩
    simp_arith only [X_lit]
    exact q (.hd u (.n h) r) H' (pre_new.trans hp) ⟨ho, ⟨hb, hh⟩, g⟩ rfl
  | true =>
    simp_arith only [hb]
    subst hK
    refine zs_cons ?_
    generalize hK : sqX O4 (_ :: _) = K
    simp_arith only [X_lit]
    subst hK
    have hm1 : 1 ≤ 1 + c / 4 % 20 := by omega
    have hm2 : 1 + c / 4 % 20 ≤ 20 := by omega
    generalize 1 + c / 4 % 20 = many at hm1 hm2 ⊢
    refine zs_cons ?_
    generalize hK : sqX O4 (_ :: _) = K
    first | refine e3_1 (at3 (P := fun d => 0 ≤ d ∧ d ≤ 100000000000) (a := c / 80 % 100) (b := c / 80 % 99999999800) (c := 100000000000 - many * 3) (k := c / 7 % 3) (by omega) (by omega) (by omega) (by omega) (by omega)) fun day hday hd1 hd2 => ?_ | refine e2_2 (at3 (P := fun d => 0 ≤ d ∧ d ≤ 100000000000) (a := c / 80 % 100) (b := c / 80 % 99999999800) (c := 100000000000 - many * 3) (k := c / 7 % 3) (by omega) (by omega) (by omega) (by omega) (by omega)) fun day hday hd1 hd2 => ?_ | refine e1_3 (at3 (P := fun d => 0 ≤ d ∧ d ≤ 100000000000) (a := c / 80 % 100) (b := c / 80 % 99999999800) (c := 100000000000 - many * 3) (k := c / 7 % 3) (by omega) (by omega) (by omega) (by omega) (by omega)) fun day hday hd1 hd2 => ?_ | refine e0_4 (at3 (P := fun d => 0 ≤ d ∧ d ≤ 100000000000) (a := c / 80 % 100) (b := c / 80 % 99999999800) (c := 100000000000 - many * 3) (k := c / 7 % 3) (by omega) (by omega) (by omega) (by omega) (by omega)) fun day hday hd1 hd2 => ?_ | obtain ⟨day, hday, hd1, hd2⟩ := at3 (P := fun d => 0 ≤ d ∧ d ≤ 100000000000) (a := c / 80 % 100) (b := c / 80 % 99999999800) (c := 100000000000 - many * 3) (k := c / 7 % 3) (by omega) (by omega) (by omega) (by omega) (by omega)
    have hmul : (-(2 ^ 64) < many ∧ many < 2 ^ 64) ∨ (-(2 ^ 64) < (3 : Int) ∧ (3 : Int) < 2 ^ 64) := .inr (by decide)
    simp_arith only [listAt_new, hday]
    subst hK
    refine zs_cons ?_
    obtain ⟨mn, rfl⟩ := Int.eq_ofNat_of_zero_le (show 0 ≤ many by omega)
    simp only [↓X_lit, ↓X_loc, ↓X_bin, ↓negX_int, ↓X_neg, ↓X_not, ↓Y_not, ↓X_and, ↓Y_and, ↓X_or, ↓Y_or, ↓X_cmp, ↓X_cmp2, ↓X_ite, ↓Y_ite, ↓X_tup, ↓X_lst, ↓X_call, ↓X_meth, ↓X_sub, ↓X_comp, ↓Y_lit, ↓Y_loc, ↓Y_cmp, ↓Y_cmp2, ↓Y_call, ↓Y_sub, ↓XEs_nil, ↓XEs_cons, ↓Z_expr, ↓Z_assign, ↓Z_ret, ↓Z_ite, ↓Z_for, ↓Z_raise, ↓Zs_nil, ↓sqX_next, ↓sqX_ret, ↓Zs_cons, ↓wkX_next, ↓wkX_ret, ↓fkX_next, ↓fkX_ret, ↓oKK_some, ↓oK_some, ↓tX_bool, ↓iX_t, ↓iX_f, ↓iX_d, ↓q_add, ↓q_sub, ↓q_mul, ↓q_div, ↓q_mod, ↓q_pow, ↓q_eq, ↓q_ne, ↓q_eqs, ↓q_nes, ↓q_lt, ↓q_le, ↓q_gt, ↓q_ge, ↓q_in, ↓q_inl, ↓q_nin, ↓q_stup, ↓q_sref, ↓q_sscr, ↓q_fn, ↓q_lentup, ↓q_lenref, ↓q_lenscr, ↓q_isi, ↓q_all, ↓q_int, ↓q_tuple, ↓q_append, ↓q_slicet, ↓q_set, ↓q_repr, ↓q_eqo, ↓Z_set, ↓q_listt, ↓q_ninl, ↓u_tup, ↓u_ref, ↓u_range, ↓q_slice, ↓oi_none, ↓oi_int, ↓X_slice, ↓XO_none, ↓XO_some, ↓u_rev, ↓X_zlt, ↓q_zlt, ↓retV_ret, ↓retV_next, List.getElem?_cons_zero, List.getElem?_cons_succ, List.set_cons_zero, List.set_cons_succ, Bool.not_true, Bool.not_false, idx_0, idx_1, idx_2, idx_3, idx_4, idx_5, iP_0, iP_1, iP_2, iP_3, Int.reduceAdd, Int.reduceSub, Int.reduceMul, Int.reduceNeg, Int.reducePow, Int.reduceLT, Int.reduceLE, Int.reduceEq, Int.reduceNe, Int.reduceToNat, Int.reduceAbs, Nat.reduceAdd, Nat.reduceLT, Nat.reduceLeDiff, Nat.reducePow, Nat.reduceLT, List.length_cons, List.length_nil, true_implies, false_implies, not_true_eq_false, not_false_eq_true, and_true, true_and, and_self, or_true, true_or, decide_true, decide_false, exists_eq_left', Option.some.injEq]
    refine ⟨⟨by omega, by omega⟩, ?_⟩
    refine comp_ap hd1 hd2 _ [] (fun k hk => by have := List.mem_range.mp hk; omega) fun ds hl hs => ?_
    rw [List.nil_append]
    rw [List.length_range] at hl
    refine ⟨by rw [List.length_map]; omega, ?_⟩
    simp only [↓X_lit, ↓X_loc, ↓X_bin, ↓negX_int, ↓X_neg, ↓X_not, ↓Y_not, ↓X_and, ↓Y_and, ↓X_or, ↓Y_or, ↓X_cmp, ↓X_cmp2, ↓X_ite, ↓Y_ite, ↓X_tup, ↓X_lst, ↓X_call, ↓X_meth, ↓X_sub, ↓X_comp, ↓Y_lit, ↓Y_loc, ↓Y_cmp, ↓Y_cmp2, ↓Y_call, ↓Y_sub, ↓XEs_nil, ↓XEs_cons, ↓Z_expr, ↓Z_assign, ↓Z_ret, ↓Z_ite, ↓Z_for, ↓Z_raise, ↓Zs_nil, ↓sqX_next, ↓sqX_ret, ↓Zs_cons, ↓wkX_next, ↓wkX_ret, ↓fkX_next, ↓fkX_ret, ↓oKK_some, ↓oK_some, ↓tX_bool, ↓iX_t, ↓iX_f, ↓iX_d, ↓q_add, ↓q_sub, ↓q_mul, ↓q_div, ↓q_mod, ↓q_pow, ↓q_eq, ↓q_ne, ↓q_eqs, ↓q_nes, ↓q_lt, ↓q_le, ↓q_gt, ↓q_ge, ↓q_in, ↓q_inl, ↓q_nin, ↓q_stup, ↓q_sref, ↓q_sscr, ↓q_fn, ↓q_lentup, ↓q_lenref, ↓q_lenscr, ↓q_isi, ↓q_all, ↓q_int, ↓q_tuple, ↓q_append, ↓q_slicet, ↓q_set, ↓q_repr, ↓q_eqo, ↓Z_set, ↓q_listt, ↓q_ninl, ↓u_tup, ↓u_ref, ↓u_range, ↓q_slice, ↓oi_none, ↓oi_int, ↓X_slice, ↓XO_none, ↓XO_some, ↓u_rev, ↓X_zlt, ↓q_zlt, ↓retV_ret, ↓retV_next, List.getElem?_cons_zero, List.getElem?_cons_succ, List.set_cons_zero, List.set_cons_succ, Bool.not_true, Bool.not_false, idx_0, idx_1, idx_2, idx_3, idx_4, idx_5, iP_0, iP_1, iP_2, iP_3, Int.reduceAdd, Int.reduceSub, Int.reduceMul, Int.reduceNeg, Int.reducePow, Int.reduceLT, Int.reduceLE, Int.reduceEq, Int.reduceNe, Int.reduceToNat, Int.reduceAbs, Nat.reduceAdd, Nat.reduceLT, Nat.reduceLeDiff, Nat.reducePow, Nat.reduceLT, List.length_cons, List.length_nil, true_implies, false_implies, not_true_eq_false, not_false_eq_true, and_true, true_and, and_self, or_true, true_or, decide_true, decide_false, exists_eq_left', Option.some.injEq, listAt_new]
    exact q (.hd u (.l ds) r) _ (pre_new.trans (pre_new.trans pre_new)) ⟨ho, ⟨hb, fun e => by rw [e, List.length_nil] at hl; omega, by omega, hs⟩, g⟩ rfl
noncomputable def O5 : Orc := ext "_law_wide_head" C_wh O4
end Mine

set_option autoImplicit false
set_option linter.unusedSimpArgs false
set_option maxRecDepth 20000
/- Law 07: the text as the law writes it; the law. -/
namespace Mine
open PySem

noncomputable abbrev bearL : List V := [.str "from", .str "until", .str "also", .str "but"]
noncomputable def C_be : Ctr := fun vs H Q _ => vs = [] ∧ Q (.ref H.length) (H ++ [.list bearL])
theorem w_bearing : ∀ vs H Q X, C_be vs H Q X → wpFn O5 f_l_bearing vs H Q X := by
  rintro vs H Q X ⟨rfl, q⟩
  refine fn_of rfl ?_
  simp_arith only [f_l_bearing, initL, List.map_cons, List.map_nil, List.replicate, List.cons_append, List.nil_append]
  exact q
noncomputable def O6 : Orc := ext "_law_bearing" C_be O5
theorem O6_be : O6 "_law_bearing" = C_be := rfl

noncomputable def Rl.heads : Rl → List V
  | .pl u p is => [rv (.pl u p is)]
  | .hd u p r => rv (.hd u p r) :: r.heads
theorem heads_len (r : Rl) : r.heads.length = r.depth + 1 := by
  induction r with
  | pl u p is => rfl
  | hd u p r ih => exact congrArg (· + 1) ih
noncomputable abbrev hdT : IE := .cmp (.sub (.loc 0) (.lit (.int 0))) .In (.call (.fn "_law_bearing") [])
noncomputable abbrev hdB : List IS := [(.expr (.meth (.loc 1) .append [(.loc 0)])), (.assign 0 (.sub (.loc 0) (.lit (.int 2))))]
theorem hd_test {u : Str} {rest : List V} {Lr : Lc} {H : Hp} {P : Bool → Hp → Prop} {X : XL} {b : Bool} (hm : memV (.str u) bearL = some b) (h : P b (H ++ [.list bearL])) : (wp2 O6 hdT).T (some (.tup (.str u :: rest)) :: Lr) H P X := by
  simp_arith only [↓O6_be]
  refine ⟨rfl, ?_⟩
  simp_arith only [listAt_new, hm]
  exact h
theorem hd_step {u : Str} {v1 v2 : V} {rest : List V} {t2 t3 t4 : Option V} {n : Nat} {Q : QS} {H H' : Hp} {acc : List V} {k : Nat} (hm : memV (.str u) bearL = some true) (hp : H <+: H') (hn : n = H.length) (hl : listAt H' n = some acc) (hz : acc.length ≤ 1000000)
    (ih : ∀ H2, H <+: H2 → listAt H2 n = some (acc ++ [.tup (.str u :: v1 :: v2 :: rest)]) → whileGo (whTX O6 hdT noX) (whBX O6 hdB noXS) k [some v2, some (.ref n), t2, t3, t4] H2 Q) :
    whileGo (whTX O6 hdT noX) (whBX O6 hdB noXS) (k + 1) [some (.tup (.str u :: v1 :: v2 :: rest)), some (.ref n), t2, t3, t4] H' Q := by
  rw [whX_s]
  refine hd_test hm ?_
  have hl' := listAt_pre (pre_new (o := .list bearL)) hl
  simp_arith only [hl', hz]
  exact ⟨⟨_, hl'⟩, ih _ (pre_set (hp.trans pre_new) (by omega)) (listAt_set hl')⟩
theorem hd_loop {t2 t3 t4 : Option V} {n : Nat} {Q : QS} {H : Hp} (hn : n = H.length) {r : Rl} (g : r.fair) : ∀ (acc : List V) (H' : Hp), H <+: H' → listAt H' n = some acc → acc.length + r.depth ≤ 1000000 →
    (∀ H2 l x, H <+: H2 → listAt H2 n = some l → l ++ [x] = acc ++ r.heads → Q .next [some x, some (.ref n), t2, t3, t4] H2) →
    whileGo (whTX O6 hdT noX) (whBX O6 hdB noXS) (r.depth + 1) [some (rv r), some (.ref n), t2, t3, t4] H' Q := by
  induction r with
  | pl u p is => intro acc H' hp hl hz q; rw [whX_s]; exact hd_test (mem_out.trans (congrArg some g.1.1)) (q _ _ _ (hp.trans pre_new) (listAt_pre pre_new hl) rfl)
  | hd u p r ih =>
    intro acc H' hp hl hz q
    have hz : acc.length + (r.depth + 1) ≤ 1000000 := hz
    exact hd_step (mem_out.trans (congrArg some g.1.1)) hp hn hl (by omega) fun H2 hp2 hl2 => ih g.2.2 _ H2 hp2 hl2 (by rw [List.length_append, List.length_singleton]; omega) fun H3 l x hp3 hl3 e => q H3 l x hp3 hl3 (by rw [e, List.append_assoc]; rfl)
noncomputable def C_hd : Ctr := fun vs H Q _ => ∃ r : Rl, vs = [rv r] ∧ r.fair ∧ r.depth ≤ 1000 ∧ ∀ H', H <+: H' → Q (.ref H'.length) (H' ++ [.list r.heads])
theorem w_heads : ∀ vs H Q X, C_hd vs H Q X → wpFn O6 f_l_heads vs H Q X := by
  rintro vs H Q X ⟨r, rfl, g, hd, q⟩
  refine fn_of rfl ?_
  change wpSs O6 f_l_heads.body [some (rv r), none, none, none, none] H _ _
  refine zs_cons ?_
  generalize hK : sqX O6 (_ :: _) = K
  simp_arith only [X_lit]
  subst hK
  refine zs_cons ?_
  rw [Z_while]
  refine ⟨r.depth + 1, hd_loop rfl g [] _ pre_new listAt_new (by rw [List.length_nil]; omega) ?_⟩
  intro H2 l x hp hl e
  have hl' := listAt_pre (pre_new (o := .list [x])) hl
  simp_arith only [hl', listAt_new]
  have := congrArg List.length e
  rw [List.length_append, List.length_singleton, List.nil_append, heads_len] at this
  refine ⟨by omega, ?_⟩
  rw [e]
  exact q (H2 ++ [.list [x]]) (hp.trans pre_new)
noncomputable def O7 : Orc := ext "_law_heads" C_hd O6

noncomputable def PartOf (v : V) (s : Str) : Prop := v = .str s ∨ ∃ (p : Pt) (b : Bool), p.ok b ∧ v = p.v ∧ s = p.s
noncomputable def C_pt : Ctr := fun vs H Q _ => ∃ v s, vs = [v] ∧ PartOf v s ∧ ∀ H', H <+: H' → Q (.str s) H'
theorem w_part : ∀ vs H Q X, C_pt vs H Q X → wpFn O7 f_l_part vs H Q X := by
  rintro vs H Q X ⟨v, s, rfl, hv, q⟩
  refine fn_of rfl ?_
  rcases hv with rfl | ⟨⟨i⟩ | ⟨ds⟩, b, hi, rfl, rfl⟩
  · simp_arith! only [f_l_part, initL, List.map_cons, List.map_nil, List.replicate, List.cons_append, List.nil_append, isi_str_tup]
    exact q H (List.prefix_refl _)
  · simp_arith! only [f_l_part, initL, List.map_cons, List.map_nil, List.replicate, List.cons_append, List.nil_append, Pt.v, Pt.s, isi_int_tup, small_abs hi.2]
    exact q H (List.prefix_refl _)
  · simp only [f_l_part, initL, List.map_cons, List.map_nil, List.replicate, List.cons_append, List.nil_append, ↓X_lit, ↓X_loc, ↓X_bin, ↓negX_int, ↓X_neg, ↓X_not, ↓Y_not, ↓X_and, ↓Y_and, ↓X_or, ↓Y_or, ↓X_cmp, ↓X_cmp2, ↓X_ite, ↓Y_ite, ↓X_tup, ↓X_lst, ↓X_call, ↓X_meth, ↓X_sub, ↓X_comp, ↓Y_lit, ↓Y_loc, ↓Y_cmp, ↓Y_cmp2, ↓Y_call, ↓Y_sub, ↓XEs_nil, ↓XEs_cons, ↓Z_expr, ↓Z_assign, ↓Z_ret, ↓Z_ite, ↓Z_for, ↓Z_raise, ↓Zs_nil, ↓sqX_next, ↓sqX_ret, ↓Zs_cons, ↓wkX_next, ↓wkX_ret, ↓fkX_next, ↓fkX_ret, ↓oKK_some, ↓oK_some, ↓tX_bool, ↓iX_t, ↓iX_f, ↓iX_d, ↓q_add, ↓q_sub, ↓q_mul, ↓q_div, ↓q_mod, ↓q_pow, ↓q_eq, ↓q_ne, ↓q_eqs, ↓q_nes, ↓q_lt, ↓q_le, ↓q_gt, ↓q_ge, ↓q_in, ↓q_inl, ↓q_nin, ↓q_stup, ↓q_sref, ↓q_sscr, ↓q_fn, ↓q_lentup, ↓q_lenref, ↓q_lenscr, ↓q_isi, ↓q_all, ↓q_int, ↓q_tuple, ↓q_append, ↓q_slicet, ↓q_set, ↓q_repr, ↓q_eqo, ↓Z_set, ↓q_listt, ↓q_ninl, ↓u_tup, ↓u_ref, ↓u_range, ↓q_slice, ↓oi_none, ↓oi_int, ↓X_slice, ↓XO_none, ↓XO_some, ↓u_rev, ↓X_zlt, ↓q_zlt, ↓retV_ret, ↓retV_next, List.getElem?_cons_zero, List.getElem?_cons_succ, List.set_cons_zero, List.set_cons_succ, Bool.not_true, Bool.not_false, idx_0, idx_1, idx_2, idx_3, idx_4, idx_5, iP_0, iP_1, iP_2, iP_3, Int.reduceAdd, Int.reduceSub, Int.reduceMul, Int.reduceNeg, Int.reducePow, Int.reduceLT, Int.reduceLE, Int.reduceEq, Int.reduceNe, Int.reduceToNat, Int.reduceAbs, Nat.reduceAdd, Nat.reduceLT, Nat.reduceLeDiff, Nat.reducePow, Nat.reduceLT, List.length_cons, List.length_nil, true_implies, false_implies, not_true_eq_false, not_false_eq_true, and_true, true_and, and_self, or_true, true_or, decide_true, decide_false, exists_eq_left', Option.some.injEq, ↓X_strm, ↓sV_str, ↓q_join, ↓q_split, ↓q_strint, ↓q_strstr, ↓q_intstr, ↓q_lenstr, ↓q_slices, ↓q_ins, ↓q_nins, ↓u_str, Pt.v, Pt.s, intsV, isi_tup_tup]
    refine comp_strs (by simp) ds [] hi.2.2.2 ?_
    rw [List.nil_append]
    have hl := hi.2.2.1
    refine ⟨by rw [List.length_map]; omega, ?_⟩
    simp_arith! only [listAt_new, strs_nums]
    exact ⟨Nat.le_trans (list_sum hi.2.2.2 hl) (by decide), q _ pre_new⟩
noncomputable def O8 : Orc := ext "_law_part" C_pt O7
theorem O8_be : O8 "_law_bearing" = C_be := rfl
theorem O8_hd : O8 "_law_heads" = C_hd := rfl
theorem O8_pt : O8 "_law_part" = C_pt := rfl

inductive Parts : List V → List Str → Prop
  | nil : Parts [] []
  | cons {v : V} {s : Str} {vs : List V} {ss : List Str} : PartOf v s → Parts vs ss → Parts (v :: vs) (s :: ss)
theorem comp_parts {X : XL} {j : Nat} {L : Lc} {QL : List V → Hp → Prop} {st : Hp → Prop} {H0 : Hp} (hj : j < L.length) (hst : ∀ H', H0 <+: H' → st H') : ∀ {vs : List V} {ss : List Str} (acc : List Str) (H : Hp), Parts vs ss → H0 <+: H → (∀ H', H0 <+: H' → QL ((acc ++ ss).map V.str) H') →
    compGo (coEX O8 (.call (.fn "_law_part") [.loc j]) X) st j L vs (acc.map V.str) H QL
  | [], _, acc, H, .nil, hp, q => by
    have q := q H hp
    rw [List.append_nil] at q
    exact q
  | v :: vs, _, acc, H, .cons (s := s) (ss := ss) h hr, hp, q => by
    rw [coX_cons]
    have e : (L.set j (some v))[j]? = some (some v) := List.getElem?_set_self hj
    simp_arith only [e, O8_pt]
    refine ⟨v, s, rfl, h, fun H' hp' => ⟨hst _ (hp.trans hp'), ?_⟩⟩
    have := comp_parts (X := X) (QL := QL) hj hst (acc ++ [s]) H' hr (hp.trans hp') (fun H2 hp2 => by simpa using q H2 hp2)
    simpa using this
noncomputable abbrev wrC : IS := .assign 1 (.bin .Add (.loc 1) (.comp (.call (.fn "_law_part") [(.loc 4)]) 4 .val (.loc 3)))
noncomputable abbrev wrB : List IS := [(.assign 3 (.call (.ty .list) [(.loc 2)])), (.ite (.cmp (.sub (.loc 2) (.lit (.int 0))) .In (.call (.fn "_law_bearing") [])) [(.assign 3 (.lst [(.sub (.loc 2) (.lit (.int 0))), (.sub (.loc 2) (.lit (.int 1)))]))] []), wrC]
section
variable {XF : XS} {v : V} {i : Nat} {l : List V} {H0 : Hp} {Q : QS}
noncomputable def WrGo (XF : XS) (v : V) (i : Nat) (l : List V) (H0 : Hp) (rest : List V) (ws : List Str) (Q : QS) : Prop :=
  ∀ j t2 t3 H2, H0 <+: H2 → listAt H2 j = some (ws.map V.str) → forGo (whBX O8 wrB XF) (fun H' => listAt H' i = some l) 2 rest [some v, some (.ref j), t2, t3, none, none, none] H2 Q
/- the last statement of the body, the parts known -/
theorem wr_add {h : V} {rest : List V} {ws ss : List Str} {parts : List V} {j k : Nat} {H' : Hp} (hi : listAt H0 i = some l) (hp : H0 <+: H') (hw : ws.length ≤ 100) (hss : ss.length ≤ 4) (hj : listAt H' j = some (ws.map V.str)) (hk : listAt H' k = some parts) (hpt : Parts parts ss) (q : WrGo XF v i l H0 rest (ws ++ ss) Q) :
    wpSs O8 [wrC] [some v, some (.ref j), some h, some (.ref k), none, none, none] H' (fkX (whBX O8 wrB XF) (fun H' => listAt H' i = some l) 2 rest Q) XF := by
  refine zs_cons ?_
  rw [Z_assign]
  simp only [X_bin, X_loc, X_comp, XEs_nil, XEs_cons, List.getElem?_cons_zero, List.getElem?_cons_succ, oKK_some, u_ref, hk, oK_some]
  refine comp_parts (acc := []) (by simp) (fun H2 hp2 => listAt_pre hp2 hk) H' hpt (List.prefix_refl _) fun H2 hp2 => ?_
  rw [List.nil_append]
  refine ⟨by rw [List.length_map]; omega, ?_⟩
  have hj2 := listAt_pre (pre_new (o := .list (ss.map V.str))) (listAt_pre hp2 hj)
  simp only [q_list, oK_some, hj2, listAt_new]
  refine ⟨by simp only [List.length_map]; omega, ?_⟩
  simp_arith only [X_lit]
  refine ⟨listAt_pre (hp.trans (hp2.trans (pre_new.trans pre_new))) hi, q _ _ _ _ (hp.trans (hp2.trans (pre_new.trans pre_new))) ?_⟩
  rw [listAt_new]; simp
theorem wr_in {u : Str} {x w : V} {rest : List V} {ws ss : List Str} (hi : listAt H0 i = some l) (hw : ws.length ≤ 100) (hss : ss.length ≤ 4) (hm : memV (.str u) bearL = some true) (hpt : Parts [.str u, x] ss) (q : WrGo XF v i l H0 rest (ws ++ ss) Q) : WrGo XF v i l H0 (.tup [.str u, x, w] :: rest) ws Q := by
  intro j t2 t3 H2 hp hj
  rw [foX_cons]
  refine zs_cons ?_
  generalize hK : sqX O8 (_ :: _) = K
  simp_arith only [X_lit]
  subst hK
  refine zs_cons ?_
  generalize hK : sqX O8 (_ :: _) = K
  simp_arith only [↓O8_be]
  refine ⟨rfl, ?_⟩
  simp_arith only [listAt_new, hm]
  subst hK
  refine wr_add hi (hp.trans (pre_new.trans (pre_new.trans pre_new))) hw hss ?_ listAt_new hpt q
  exact listAt_pre (pre_new.trans (pre_new.trans pre_new)) hj
theorem wr_out {u : Str} {parts rest : List V} {ws ss : List Str} (hi : listAt H0 i = some l) (hw : ws.length ≤ 100) (hss : ss.length ≤ 4) (hm : memV (.str u) bearL = some false) (hpt : Parts (.str u :: parts) ss) (q : WrGo XF v i l H0 rest (ws ++ ss) Q) : WrGo XF v i l H0 (.tup (.str u :: parts) :: rest) ws Q := by
  intro j t2 t3 H2 hp hj
  rw [foX_cons]
  refine zs_cons ?_
  generalize hK : sqX O8 (_ :: _) = K
  simp_arith only [X_lit]
  subst hK
  refine zs_cons ?_
  generalize hK : sqX O8 (_ :: _) = K
  simp_arith only [↓O8_be]
  refine ⟨rfl, ?_⟩
  simp_arith only [listAt_new, hm]
  subst hK
  refine wr_add hi (hp.trans (pre_new.trans pre_new)) hw hss ?_ (listAt_pre pre_new listAt_new) hpt q
  exact listAt_pre (pre_new.trans pre_new) hj
theorem wr_end {ws : List Str} (hq : ∀ j t2 t3 H2, H0 <+: H2 → listAt H2 j = some (ws.map V.str) → Q .next [some v, some (.ref j), t2, t3, none, none, none] H2) : WrGo XF v i l H0 [] ws Q := fun j t2 t3 H2 hp hj => hq j t2 t3 H2 hp hj
theorem p_str {s : Str} : PartOf (.str s) s := .inl rfl
theorem p_pt {b : Bool} {p : Pt} (h : p.ok b) : PartOf p.v p.s := .inr ⟨p, b, h, rfl, rfl⟩
theorem p_nums : ∀ {is : List Int}, smalls is → Parts (is.map V.int) (is.map numS)
  | [], _ => .nil
  | i :: is, h => .cons (p_pt (p := .n i) (b := false) ⟨rfl, h i (by simp)⟩) (p_nums fun d hd => h d (List.mem_cons_of_mem _ hd))
theorem wr_rule {r : Rl} (g : r.fair) : ∀ (ws : List Str), listAt H0 i = some l → ws.length + 2 * r.depth ≤ 90 →
    (∀ j t2 t3 H2, H0 <+: H2 → listAt H2 j = some ((ws ++ r.words).map V.str) → Q .next [some v, some (.ref j), t2, t3, none, none, none] H2) → WrGo XF v i l H0 r.heads ws Q := by
  induction r with
  | pl u p is => intro ws hi hz q; exact wr_out hi (by omega) (words_len g).1 (mem_out.trans (congrArg some g.1.1)) (.cons p_str (.cons (p_pt g.2.1) (p_nums g.2.2.1))) (wr_end q)
  | hd u p r ih =>
    intro ws hi hz q
    have hz : ws.length + 2 * (r.depth + 1) ≤ 90 := hz
    exact wr_in hi (by omega) (by show (2 : Nat) ≤ 4; decide) (mem_out.trans (congrArg some g.1.1)) (.cons p_str (.cons (p_pt g.2.1) .nil)) (ih g.2.2 _ hi (by rw [List.length_append]; show _ + 2 + _ ≤ _; omega) fun j t2 t3 H2 hp hl => q j t2 t3 H2 hp (by rw [hl, List.append_assoc]; rfl))
end
noncomputable def C_wr : Ctr := fun vs H Q _ => ∃ r : Rl, vs = [rv r] ∧ r.fair ∧ r.depth ≤ 8 ∧ ∀ H', H <+: H' → Q (.str r.text) H'
theorem w_written : ∀ vs H Q X, C_wr vs H Q X → wpFn O8 f_l_written vs H Q X := by
  rintro vs H Q X ⟨r, rfl, g, hd, q⟩
  refine fn_of rfl ?_
  change wpSs O8 f_l_written.body [some (rv r), none, none, none, none, none, none] H _ _
  refine zs_cons ?_
  generalize hK : sqX O8 (_ :: _) = K
  simp_arith only [X_lit]
  subst hK
  refine zs_cons ?_
  rw [Z_for]
  generalize hK : sqX O8 (_ :: _) = K
  simp only [XEs_nil, XEs_cons, X_call, X_loc, List.getElem?_cons_zero, oKK_some, q_fn, ↓O8_hd]
  refine ⟨r, rfl, g, by omega, fun H' hp => ?_⟩
  simp only [u_ref, listAt_new, oK_some]
  refine wr_rule (H0 := H' ++ [.list r.heads]) g [] listAt_new (by rw [List.length_nil]; omega) (fun j t2 t3 H2 hp2 hl => ?_) H.length none none _ (List.prefix_refl _) ?_
  · subst hK
    simp only [List.nil_append] at hl
    simp_arith! only [hl, strs_map]
    exact ⟨Nat.le_trans (words_sum g hd) (by decide), q H2 (pre_new.trans (hp.trans (pre_new.trans hp2)))⟩
  · exact listAt_pre (hp.trans pre_new) listAt_new
noncomputable def O9 : Orc := ext "_law_written" C_wr O8
end Mine

set_option autoImplicit false
set_option linter.unusedSimpArgs false
set_option maxRecDepth 20000
/- Law 07: how the law reads. -/
namespace Mine
open PySem PyProof.Rows

theorem idx_any {α : Type} {l : List α} {k : Int} {P : α → Prop} (h0 : 0 ≤ k) (h1 : k < (l.length : Int)) (h : ∀ v ∈ l, P v) : oK (idxP l k) P := by
  have hk : k.toNat < l.length := by omega
  unfold idxP
  rw [if_pos h0, List.getElem?_eq_getElem hk]
  exact h _ (List.getElem_mem hk)
theorem asc_one {c : Nat} (h : c < 128) : asc (one c) := fun d hd => by simp [chs, one] at hd; omega
noncomputable abbrev sgA : Str := " !\"#$&'()*+,-./0123456789:;<=>?@ABCDEFGHIJKLMNOPQRSTUVWXYZ[\\]^_`"
noncomputable abbrev sgB : Str := "abcdefghijklmnopqrstuvwxyz{|}~"
noncomputable abbrev sgC : Str := "0123456789,- "
theorem sg_c : (chs sgC).length = 13 ∧ ((chs sgC).all fun c => decide (c < 128)) = true := by decide +kernel
theorem sg_ab : (chs (sgA ++ sgB)).length = 94 ∧ ((chs (sgA ++ sgB)).all fun c => decide (c < 128)) = true := by decide +kernel
theorem sg_len : sgA.length + sgB.length ≤ 1000000 := by decide +kernel
noncomputable def C_sb : Ctr := fun vs H Q _ => ∃ c : Int, vs = [.int c] ∧ ∀ d, d < 128 → Q (.str (one d)) H
theorem w_sign_by : ∀ vs H Q X, C_sb vs H Q X → wpFn O9 f_l_sign_by vs H Q X := by
  rintro vs H Q X ⟨c, rfl, q⟩
  refine fn_of rfl ?_
  change wpSs O9 f_l_sign_by.body [some (.int c), none, none, none, none] H _ _
  refine zs_cons ?_
  generalize hK : sqX O9 (_ :: _) = K
  simp_arith! only [X_lit]
  subst hK
  change wpSs O9 (f_l_sign_by.body.drop 1) [some (.int c), some (.str sgA), none, none, none] H _ _
  refine zs_cons ⟨sg_len, ?_⟩
  change wpSs O9 (f_l_sign_by.body.drop 2) [some (.int c), some (.str (sgA ++ sgB)), none, none, none] H _ _
  generalize hS : sgA ++ sgB = S
  have hl : (chs S).length = 94 := by rw [← hS]; exact sg_ab.1
  have ha : ∀ d ∈ chs S, d < 128 := by
    have := sg_ab.2
    rw [hS, List.all_eq_true] at this
    exact fun d hd => of_decide_eq_true (this d hd)
  have hc : ∀ d ∈ chs sgC, d < 128 := by
    have := sg_c.2
    rw [List.all_eq_true] at this
    exact fun d hd => of_decide_eq_true (this d hd)
  refine zs_cons ?_
  generalize hK : sqX O9 (_ :: _) = K
  simp_arith! only [↓q_sstr]
  refine ⟨fun _ => idx_any (by omega) (by show _ < ((chs sgC).length : Int); rw [sg_c.1]; omega) fun d hd => ?_, fun _ => ?_⟩
  · subst hK; exact q d (hc d hd)
  · subst hK
    refine zs_cons ?_
    simp_arith! only [↓q_sstr]
    exact idx_any (by omega) (by show _ < ((chs S).length : Int); rw [hl]; omega) fun d hd => q d (ha d hd)
noncomputable def Oa : Orc := ext "_law_sign_by" C_sb O9

noncomputable abbrev od1 : List Str := ["", " ", "once", "once 5", "once 5 2 ", " once 5 2", "once  5 2", "once 05 2", "once 5 02", "once +5 2"]
noncomputable abbrev od2 : List Str := ["month -0 9 8", "month 0 9 8", "month -1 9 8", "week 0,,1 9 8", "week , 9 8"]
noncomputable abbrev od3 : List Str := ["week 1, 9 8", "week 6 9 8", "Once 5 2", "but 3 once 5 2", "but -3 once 5 2"]
noncomputable abbrev od4 : List Str := ["from 5 2", "from 5", "once 5 --2", "every 5 2 24 1"]
noncomputable def odAll : List Str := od1 ++ od2 ++ od3 ++ od4
theorem od_ok : (odAll.all fun s => (chs s).all (fun c => decide (c < 128)) && decide (s.length ≤ 100)) = true := by decide +kernel
theorem od_len : odAll.length = 24 := by decide
noncomputable def C_ol : Ctr := fun vs H Q _ => ∃ c : Int, vs = [.int c] ∧ ∀ s H', H <+: H' → wOk s → s.length ≤ 100 → Q (.str s) H'
theorem od_add {Φ : Orc} {c : V} {i : Nat} {xs ys : List Str} {es : List IE} {Lr : Lc} {H : Hp} {QF : QS} {XF : XS} (hl : listAt H i = some (xs.map V.str)) (he : ∀ L Q X, wpEs Φ es L H Q X = Q (ys.map V.str) H) (h1 : xs.length ≤ 1000) (h2 : ys.length ≤ 1000)
    (h : ∀ H' k, H <+: H' → listAt H' k = some ((xs ++ ys).map V.str) → QF .next (some c :: some (.ref k) :: Lr) H') : wpS Φ (.assign 1 (.bin .Add (.loc 1) (.lst es))) (some c :: some (.ref i) :: Lr) H QF XF := by
  have hl' := listAt_pre (pre_new (o := .list (ys.map V.str))) hl
  simp only [Z_assign, X_bin, X_loc, X_lst, List.getElem?_cons_zero, List.getElem?_cons_succ, oKK_some, he, q_list, hl', oK_some, listAt_new, List.set_cons_succ, List.set_cons_zero]
  refine ⟨by rw [List.length_map]; omega, by rw [List.length_map, List.length_map]; omega, h _ _ (pre_new.trans pre_new) ?_⟩
  rw [listAt_new, List.map_append]
theorem od_first {Φ : Orc} {c : V} {t1 : Option V} {ys : List Str} {es : List IE} {Lr : Lc} {H : Hp} {QF : QS} {XF : XS} (he : ∀ L Q X, wpEs Φ es L H Q X = Q (ys.map V.str) H) (h2 : ys.length ≤ 1000)
    (h : ∀ H' k, H <+: H' → listAt H' k = some (ys.map V.str) → QF .next (some c :: some (.ref k) :: Lr) H') : wpS Φ (.assign 1 (.lst es)) (some c :: t1 :: Lr) H QF XF := by
  simp only [Z_assign, X_lst, he, List.set_cons_succ, List.set_cons_zero]
  exact ⟨by rw [List.length_map]; omega, h _ _ pre_new listAt_new⟩
theorem w_odd_line : ∀ vs H Q X, C_ol vs H Q X → wpFn Oa f_l_odd_line vs H Q X := by
  rintro vs H Q X ⟨c, rfl, q⟩
  refine fn_of rfl ?_
  change wpSs Oa f_l_odd_line.body [some (.int c), none, none, none, none] H _ _
  unfold f_l_odd_line
  refine zs_cons (od_first (ys := od1) (fun _ _ _ => rfl) (by decide) fun H0 k0 hp0 hl0 => ?_)
  rw [sqX_next]
  refine zs_cons (od_add (xs := od1) (ys := od2) hl0 (fun _ _ _ => rfl) (by decide) (by decide) fun H1 k1 hp1 hl1 => ?_)
  rw [sqX_next]
  refine zs_cons (od_add (xs := od1 ++ od2) (ys := od3) hl1 (fun _ _ _ => rfl) (by decide) (by decide) fun H2 k2 hp2 hl2 => ?_)
  rw [sqX_next]
  refine zs_cons (od_add (xs := od1 ++ od2 ++ od3) (ys := od4) hl2 (fun _ _ _ => rfl) (by decide) (by decide) fun H3 k3 hp3 hl3 => ?_)
  rw [sqX_next]
  refine zs_cons ?_
  generalize hK : sqX Oa [] = K
  have hl3 : listAt H3 k3 = some (odAll.map V.str) := hl3
  simp_arith! only [hl3]
  refine idx_any (by omega) (by rw [List.length_map, od_len]; omega) fun v hv => ?_
  first | refine e2_1 (List.mem_map.mp hv) fun s hs e_308 => ?_ | refine e1_2 (List.mem_map.mp hv) fun s hs e_308 => ?_ | refine e0_3 (List.mem_map.mp hv) fun s hs e_308 => ?_ | obtain ⟨s, hs, e_308⟩ := List.mem_map.mp hv
  obtain rfl := e_308
  have := od_ok
  rw [List.all_eq_true] at this
  have h := this s hs
  rw [Bool.and_eq_true, List.all_eq_true, decide_eq_true_eq] at h
  subst hK
  exact q s H3 (hp0.trans (hp1.trans (hp2.trans hp3))) ⟨fun c hc => of_decide_eq_true (h.1 c hc), by omega⟩ h.2
noncomputable def Ob : Orc := ext "_law_odd_line" C_ol Oa

/- a number -/
theorem comp_figs {Φ : Orc} {X : XL} {a b : V} {t3 t4 t2 : Option V} {QL : List V → Hp → Prop} {H : Hp} : ∀ (cs : List Nat) (acc : List V), (∀ c ∈ cs, c < 128) → QL (acc ++ (cs.map isFig).map V.bool) H →
    compGo (coEX Φ (.cmp (.loc 2) .In (.lit (.str "0123456789"))) X) (fun _ => True) 2 [some a, some b, t2, t3, t4] (cs.map fun c => V.str ⟨#[c]⟩) acc H QL
  | [], acc, _, q => by
    have q : QL acc H := by simpa using q
    exact q
  | c :: r, acc, h, q => by
    rw [List.map_cons, coX_cons]
    have e := fig_in (h c (by simp))
    simp_arith! only [e]
    refine comp_figs r _ (fun d hd => h d (List.mem_cons_of_mem _ hd)) ?_
    simpa using q
noncomputable def C_ln : Ctr := fun vs H Q _ => ∃ w, vs = [.str w] ∧ wOk w ∧ ∀ H', H <+: H' → Q (numV w) H'
theorem all_id {cs : List Nat} : (cs.map isFig).all id = cs.all isFig := by rw [List.all_map]; rfl
theorem num_none {w : Str} (h : okNum 40 w = false) : numV w = .none := by unfold numV lawNum; rw [h]; rfl
theorem sub_of {w : Str} : (match chs w with | 45 :: _ => True | _ => False) ∨ figS w = w := by
  unfold figS
  cases h : chs w with
  | nil => exact .inr rfl
  | cons c cs =>
    by_cases hc : c = 45
    · subst hc; exact .inl trivial
    · refine .inr ?_
      split
      · rename_i q; cases q; exact absurd rfl hc
      · rfl
theorem ln_end {w : Str} {H : Hp} {Q : V → Hp → Prop} {X : XL} (hw : wOk w) (q : ∀ H', H <+: H' → Q (numV w) H') :
    wpSs Ob (f_l_number.body.drop 2) [some (.str w), some (.str (figS w)), none, none, none] H (fun fl _ H1 => Q (retV fl) H1) (fun x _ H1 => X x H1) := by
  refine zs_cons ?_
  generalize hK : sqX Ob (_ :: _) = K
  have hl := figS_len (w := w)
  have q0 := q H (List.prefix_refl _)
  by_cases h1 : figL (chs w) = []
  · have e1 : (figS w == Str.ofString "") = true := by
      have : figS w = Str.ofString "" := str_ext (by rw [figS_eq, h1]; decide)
      rw [this]; exact beq_self_eq_true _
    simp_arith! only [e1]
    rw [num_none (by unfold okNum; rw [h1]; rfl)] at q0
    subst hK; exact q0
  · have e1 : (figS w == Str.ofString "") = false := by
      refine beq_false_of_ne fun e => h1 ?_
      rw [← figS_eq, e]; decide
    by_cases h2 : (40 : Int) < ((figS w).length : Int)
    · simp_arith! only [e1, h2]
      rw [num_none (by unfold okNum; rw [decide_eq_false (by omega), Bool.false_and, Bool.and_false])] at q0
      subst hK; exact q0
    · have e3 : okNum 40 w = (figL (chs w)).all isFig := by
        unfold okNum
        have : (figL (chs w)).isEmpty = false := by cases h : figL (chs w) with | nil => exact absurd h h1 | cons a b => rfl
        rw [this, decide_eq_true (by omega), Bool.true_and]; rfl
      simp only [↓X_lit, ↓X_loc, ↓X_bin, ↓negX_int, ↓X_neg, ↓X_not, ↓Y_not, ↓X_and, ↓Y_and, ↓X_or, ↓Y_or, ↓X_cmp, ↓X_cmp2, ↓X_ite, ↓Y_ite, ↓X_tup, ↓X_lst, ↓X_call, ↓X_meth, ↓X_sub, ↓X_comp, ↓Y_lit, ↓Y_loc, ↓Y_cmp, ↓Y_cmp2, ↓Y_call, ↓Y_sub, ↓XEs_nil, ↓XEs_cons, ↓Z_expr, ↓Z_assign, ↓Z_ret, ↓Z_ite, ↓Z_for, ↓Z_raise, ↓Zs_nil, ↓sqX_next, ↓sqX_ret, ↓Zs_cons, ↓wkX_next, ↓wkX_ret, ↓fkX_next, ↓fkX_ret, ↓oKK_some, ↓oK_some, ↓tX_bool, ↓iX_t, ↓iX_f, ↓iX_d, ↓q_add, ↓q_sub, ↓q_mul, ↓q_div, ↓q_mod, ↓q_pow, ↓q_eq, ↓q_ne, ↓q_eqs, ↓q_nes, ↓q_lt, ↓q_le, ↓q_gt, ↓q_ge, ↓q_in, ↓q_inl, ↓q_nin, ↓q_stup, ↓q_sref, ↓q_sscr, ↓q_fn, ↓q_lentup, ↓q_lenref, ↓q_lenscr, ↓q_isi, ↓q_all, ↓q_int, ↓q_tuple, ↓q_append, ↓q_slicet, ↓q_set, ↓q_repr, ↓q_eqo, ↓Z_set, ↓q_listt, ↓q_ninl, ↓u_tup, ↓u_ref, ↓u_range, ↓q_slice, ↓oi_none, ↓oi_int, ↓X_slice, ↓XO_none, ↓XO_some, ↓u_rev, ↓X_zlt, ↓q_zlt, ↓retV_ret, ↓retV_next, List.getElem?_cons_zero, List.getElem?_cons_succ, List.set_cons_zero, List.set_cons_succ, Bool.not_true, Bool.not_false, idx_0, idx_1, idx_2, idx_3, idx_4, idx_5, iP_0, iP_1, iP_2, iP_3, Int.reduceAdd, Int.reduceSub, Int.reduceMul, Int.reduceNeg, Int.reducePow, Int.reduceLT, Int.reduceLE, Int.reduceEq, Int.reduceNe, Int.reduceToNat, Int.reduceAbs, Nat.reduceAdd, Nat.reduceLT, Nat.reduceLeDiff, Nat.reducePow, Nat.reduceLT, List.length_cons, List.length_nil, true_implies, false_implies, not_true_eq_false, not_false_eq_true, and_true, true_and, and_self, or_true, true_or, decide_true, decide_false, exists_eq_left', Option.some.injEq, ↓X_strm, ↓sV_str, ↓q_join, ↓q_split, ↓q_strint, ↓q_strstr, ↓q_intstr, ↓q_lenstr, ↓q_slices, ↓q_ins, ↓q_nins, ↓u_str, e1, h2]
      refine ⟨asc_all (figS_asc hw.1), comp_figs (chs (figS w)) [] (figS_asc hw.1) ?_⟩
      rw [List.nil_append]
      refine ⟨by rw [List.length_map, List.length_map, ← len_chs]; omega, ?_⟩
      simp_arith! only [listAt_new, all_bool_ints, all_id]
      rw [figS_eq, ← e3]
      cases ho : okNum 40 w with
      | false =>
        have := q _ (pre_new (o := .list ((List.map isFig (figL (chs w))).map V.bool)))
        rw [num_none ho] at this
        simp_arith! only [X_lit]
        subst hK; exact this
      | true =>
        simp_arith! only [X_lit]
        subst hK
        have q : ∀ H', H ++ [.list ((List.map isFig (figL (chs w))).map V.bool)] <+: H' → Q (numV w) H' := fun H' hp => q H' (pre_new.trans hp)
        generalize H ++ [O.list ((List.map isFig (figL (chs w))).map V.bool)] = H1 at q ⊢
        have q1 := q H1 (List.prefix_refl _)
        first | refine e2_1 (List.exists_cons_of_ne_nil h1) fun c cs ec => ?_ | refine e1_2 (List.exists_cons_of_ne_nil h1) fun c cs ec => ?_ | refine e0_3 (List.exists_cons_of_ne_nil h1) fun c cs ec => ?_ | obtain ⟨c, cs, ec⟩ := List.exists_cons_of_ne_nil h1
        have e4 : idxP (figS w).cps.toList 0 = some c := by
          show idxP (chs (figS w)) 0 = some c
          rw [figS_eq, ec]; rfl
        have e0 : (one c == Str.ofString "0") = decide (c = 48) := by rw [show Str.ofString "0" = one 48 by decide]; exact beq_one c 48
        have el : lead0 w = (decide (c = 48) && !(w == Str.ofString "0")) := by
          unfold lead0
          rw [ec]
          have : (some c == some (48 : Nat)) = decide (c = 48) := by
            by_cases h : c = 48
            · subst h; rfl
            · rw [decide_eq_false h]; exact beq_false_of_ne fun e => h (Option.some.inj e)
          show (some c == some 48 && _) = _
          rw [this]
        have ev : lead0 w = false → numV w = .int (valOf w) := fun h => by unfold numV lawNum; rw [ho, h]; rfl
        have en : lead0 w = true → numV w = .none := fun h => by unfold numV lawNum; rw [ho, h]; rfl
        have ret : lead0 w = false → wpSs Ob (f_l_number.body.drop 4) [some (.str w), some (.str (figS w)), none, none, none] H1 (fun fl _ H1 => Q (retV fl) H1) (fun x _ H1 => X x H1) := fun h => by
          rw [ev h] at q1
          first | refine e2_1 (ok_inv ho) fun _ o2 o3 => ?_ | refine e1_2 (ok_inv ho) fun _ o2 o3 => ?_ | refine e0_3 (ok_inv ho) fun _ o2 o3 => ?_ | obtain ⟨_, o2, o3⟩ := ok_inv ho
          have hi : intText? (figS w) = some ((NumText.digitsVal (figL (chs w)) : Nat) : Int) := by
            have := intText_digits (x := figS w) (by show NumText.AllDigits (chs (figS w)); rw [figS_eq]; exact o3) (by show chs (figS w) ≠ []; rw [figS_eq]; exact h1) (by omega)
            rw [this]
            show some ((NumText.digitsVal (chs (figS w)) : Nat) : Int) = _
            rw [figS_eq]
          have h640 : (figS w).length ≤ 640 := by omega
          refine zs_cons ?_
          rcases sub_of (w := w) with hm | hm
          · cases hc : chs w with
            | nil => rw [hc] at hm; exact hm.elim
            | cons d ds =>
              have hd : d = 45 := by
                rw [hc] at hm
                by_cases h : d = 45
                · exact h
                · exfalso; split at hm
                  · rename_i q; cases q; exact h rfl
                  · exact hm
              subst hd
              have ene : (figS w == w) = false := beq_false_of_ne fun e => by
                have := congrArg (fun x => (chs x).length) e
                simp only [figS_eq, hc] at this
                have e5 : (figL (45 :: ds)).length = ds.length := rfl
                rw [e5, List.length_cons] at this
                omega
              have evl : valOf w = ((NumText.digitsVal (figL (chs w)) : Nat) : Int) * (1 - 2 * 1) := by
                unfold valOf; rw [hc]
                show -((NumText.digitsVal ds : Nat) : Int) = ((NumText.digitsVal ds : Nat) : Int) * _
                omega
              simp_arith! only [hi, h640, ene]
              refine ⟨.inr ⟨by decide, by decide⟩, ?_⟩
              rw [evl] at q1; exact q1
          · have ene : (figS w == w) = true := by rw [hm]; exact beq_self_eq_true _
            have evl : valOf w = ((NumText.digitsVal (figL (chs w)) : Nat) : Int) * (1 - 2 * 0) := by
              have : figL (chs w) = chs w := by rw [← figS_eq, hm]
              unfold valOf
              rw [this]
              cases hc : chs w with
              | nil => rw [hc] at h1; exact absurd rfl h1
              | cons d ds =>
                split
                · rename_i q
                  cases q
                  rw [hc] at this
                  have e6 : figL (45 :: ds) = ds := rfl
                  rw [e6] at this
                  have := congrArg List.length this
                  rw [List.length_cons] at this
                  omega
                · omega
            simp_arith! only [hi, h640, ene]
            refine ⟨.inr ⟨by decide, by decide⟩, ?_⟩
            rw [evl] at q1; exact q1
        refine zs_cons ?_
        generalize hK : sqX Ob (_ :: _) = K
        simp_arith! only [↓q_sstr, e4, e0]
        refine ⟨fun h48 => ?_, fun h48 => ?_⟩
        · rw [decide_eq_true h48, Bool.true_and] at el
          cases hz : (w == Str.ofString "0") with
          | false =>
            rw [hz] at el
            rw [en el] at q1
            simp_arith! only [hz]
            subst hK; exact q1
          | true =>
            rw [hz] at el
            simp_arith! only [hz]
            subst hK; exact ret el
        · rw [decide_eq_false h48, Bool.false_and] at el
          subst hK; exact ret el
theorem w_l_number : ∀ vs H Q X, C_ln vs H Q X → wpFn Ob f_l_number vs H Q X := by
  rintro vs H Q X ⟨w, rfl, hw, q⟩
  refine fn_of rfl ?_
  change wpSs Ob f_l_number.body [some (.str w), none, none, none, none] H _ _
  refine zs_cons ?_
  generalize hK : sqX Ob (_ :: _) = K
  simp_arith! only [X_lit]
  subst hK
  refine zs_cons ?_
  generalize hK : sqX Ob (_ :: _) = K
  have hf := fig_step w
  cases hs : startsM w with
  | true =>
    rw [hs, if_pos rfl] at hf
    have e0 : (Txt.slice w none (some 1) == Str.ofString "-") = true := hs
    simp_arith! only [e0, hf]
    subst hK
    exact ln_end hw q
  | false =>
    rw [hs, if_neg (by decide)] at hf
    have e0 : (Txt.slice w none (some 1) == Str.ofString "-") = false := hs
    simp_arith! only [e0]
    subst hK
    have := ln_end (X := X) hw q
    rw [← hf] at this
    exact this
noncomputable def Oc : Orc := ext "_law_number" C_ln Ob
theorem Oc_ln : Oc "_law_number" = C_ln := rfl
theorem Oc_be : Oc "_law_bearing" = C_be := rfl
end Mine

set_option autoImplicit false
set_option linter.unusedSimpArgs false
set_option maxRecDepth 20000
/- Law 07: the law's own rule out of a line. -/
namespace Mine
open PySem PyProof.Rows

theorem comp_ln {Φ : Orc} (hΦ : Φ "_law_number" = C_ln) {X : XL} {j : Nat} {L : Lc} {QL : List V → Hp → Prop} {st : Hp → Prop} {H0 : Hp} (hj : j < L.length) (hst : ∀ H', H0 <+: H' → st H') : ∀ (ws : List Str) (acc : List V) (H : Hp), (∀ w ∈ ws, wOk w) → H0 <+: H → (∀ H', H0 <+: H' → QL (acc ++ ws.map numV) H') →
    compGo (coEX Φ (.call (.fn "_law_number") [.loc j]) X) st j L (ws.map V.str) acc H QL
  | [], acc, H, _, hp, q => by
    have q := q H hp
    rw [List.map_nil, List.append_nil] at q
    exact q
  | w :: ws, acc, H, h, hp, q => by
    rw [List.map_cons, coX_cons]
    have e : (L.set j (some (V.str w)))[j]? = some (some (V.str w)) := List.getElem?_set_self hj
    simp_arith only [e, hΦ]
    refine ⟨w, rfl, h w (by simp), fun H' hp' => ⟨hst _ (hp.trans hp'), ?_⟩⟩
    exact comp_ln (X := X) (QL := QL) hΦ hj hst ws (acc ++ [numV w]) H' (fun y hy => h y (List.mem_cons_of_mem _ hy)) (hp.trans hp') (fun H2 hp2 => by simpa using q H2 hp2)
/- tuple([number(one) for one in words[1].split(',')]) -/
noncomputable abbrev nvE : IE := .call (.ty .tuple) [(.comp (.call (.fn "_law_number") [(.loc 2)]) 2 .val (.strm (.sub (.loc 0) (.lit (.int 1))) false (.lit (.str ","))))]
theorem nv_ok {u w : Str} {rest : List V} {i : Nat} {t1 t3 t4 : Option V} {H : Hp} {Q : V → Hp → Prop} {X : XL} (hl : listAt H i = some (.str u :: .str w :: rest)) (hw : wOk w) (q : ∀ H', H <+: H' → Q (numsV w) H') : (wp2 Oc nvE).E [some (.ref i), t1, none, t3, t4] H Q X := by
  have e1 : ((Str.ofString ",").length == 0) = false := by decide
  have e2 : w.length ≤ 1000000 := Nat.le_trans hw.2 (by decide)
  have e3 := split_le w ","
  simp only [↓X_lit, ↓X_loc, ↓X_bin, ↓negX_int, ↓X_neg, ↓X_not, ↓Y_not, ↓X_and, ↓Y_and, ↓X_or, ↓Y_or, ↓X_cmp, ↓X_cmp2, ↓X_ite, ↓Y_ite, ↓X_tup, ↓X_lst, ↓X_call, ↓X_meth, ↓X_sub, ↓X_comp, ↓Y_lit, ↓Y_loc, ↓Y_cmp, ↓Y_cmp2, ↓Y_call, ↓Y_sub, ↓XEs_nil, ↓XEs_cons, ↓Z_expr, ↓Z_assign, ↓Z_ret, ↓Z_ite, ↓Z_for, ↓Z_raise, ↓Zs_nil, ↓sqX_next, ↓sqX_ret, ↓Zs_cons, ↓wkX_next, ↓wkX_ret, ↓fkX_next, ↓fkX_ret, ↓oKK_some, ↓oK_some, ↓tX_bool, ↓iX_t, ↓iX_f, ↓iX_d, ↓q_add, ↓q_sub, ↓q_mul, ↓q_div, ↓q_mod, ↓q_pow, ↓q_eq, ↓q_ne, ↓q_eqs, ↓q_nes, ↓q_lt, ↓q_le, ↓q_gt, ↓q_ge, ↓q_in, ↓q_inl, ↓q_nin, ↓q_stup, ↓q_sref, ↓q_sscr, ↓q_fn, ↓q_lentup, ↓q_lenref, ↓q_lenscr, ↓q_isi, ↓q_all, ↓q_int, ↓q_tuple, ↓q_append, ↓q_slicet, ↓q_set, ↓q_repr, ↓q_eqo, ↓Z_set, ↓q_listt, ↓q_ninl, ↓u_tup, ↓u_ref, ↓u_range, ↓q_slice, ↓oi_none, ↓oi_int, ↓X_slice, ↓XO_none, ↓XO_some, ↓u_rev, ↓X_zlt, ↓q_zlt, ↓retV_ret, ↓retV_next, List.getElem?_cons_zero, List.getElem?_cons_succ, List.set_cons_zero, List.set_cons_succ, Bool.not_true, Bool.not_false, idx_0, idx_1, idx_2, idx_3, idx_4, idx_5, iP_0, iP_1, iP_2, iP_3, Int.reduceAdd, Int.reduceSub, Int.reduceMul, Int.reduceNeg, Int.reducePow, Int.reduceLT, Int.reduceLE, Int.reduceEq, Int.reduceNe, Int.reduceToNat, Int.reduceAbs, Nat.reduceAdd, Nat.reduceLT, Nat.reduceLeDiff, Nat.reducePow, Nat.reduceLT, List.length_cons, List.length_nil, true_implies, false_implies, not_true_eq_false, not_false_eq_true, and_true, true_and, and_self, or_true, true_or, decide_true, decide_false, exists_eq_left', Option.some.injEq, ↓X_strm, ↓sV_str, ↓q_join, ↓q_split, ↓q_strint, ↓q_strstr, ↓q_intstr, ↓q_lenstr, ↓q_slices, ↓q_ins, ↓q_nins, ↓u_str, hl, e1, e2, listAt_new]
  refine comp_ln Oc_ln (by simp) (fun H' hp => listAt_pre hp listAt_new) (Txt.split w ",") [] _ (split_ok2 hw) (List.prefix_refl _) fun H' hp => ?_
  rw [List.nil_append]
  refine ⟨by rw [List.length_map]; have := hw.2; omega, ?_⟩
  exact q _ (pre_new.trans (hp.trans pre_new))
theorem listAt_other {H : Hp} {n i : Nat} {o : O} (h : i ≠ n) : listAt (H.set n o) i = listAt H i := by
  unfold listAt; rw [List.getElem?_set_ne (Ne.symm h)]
noncomputable def meantL (u : Str) : List Str → List V
  | w :: x :: r => if inOut u then [.str u, hdV u w] else .str u :: plP u (w :: x :: r)
  | [w] => .str u :: plP u [w]
  | [] => [.str u]
noncomputable def C_me : Ctr := fun vs H Q _ => ∃ (u : Str) (r : List Str) (i : Nat), vs = [.ref i] ∧ listAt H i = some (.str u :: r.map V.str) ∧ (∀ w ∈ r, wOk w) ∧ r.length ≤ 100000 ∧ ∀ H' k, H <+: H' → H.length ≤ k → listAt H' k = some (meantL u r) → Q (.ref k) H'
theorem pre_len {H H' : Hp} (h : H <+: H') : H.length ≤ H'.length := h.length_le
theorem me_rest {u : Str} {r : List Str} {i : Nat} {H0 H : Hp} {Q : V → Hp → Prop} {X : XL} (hp : H0 <+: H) (hl : listAt H0 i = some (.str u :: r.map V.str)) (hr : ∀ w ∈ r, wOk w) (hz : r.length ≤ 100000)
    (q : ∀ H' k, H0 <+: H' → H0.length ≤ k → listAt H' k = some (.str u :: plP u r) → Q (.ref k) H') :
    wpSs Oc (f_l_meant.body.drop 2) [some (.ref i), none, none, none, none] H (fun fl _ H1 => Q (retV fl) H1) (fun x _ H1 => X x H1) := by
  have hlH := listAt_pre hp hl
  refine zs_cons ?_
  generalize hK : sqX Oc (_ :: _) = K
  simp only [↓X_lit, ↓X_loc, ↓X_bin, ↓negX_int, ↓X_neg, ↓X_not, ↓Y_not, ↓X_and, ↓Y_and, ↓X_or, ↓Y_or, ↓X_cmp, ↓X_cmp2, ↓X_ite, ↓Y_ite, ↓X_tup, ↓X_lst, ↓X_call, ↓X_meth, ↓X_sub, ↓X_comp, ↓Y_lit, ↓Y_loc, ↓Y_cmp, ↓Y_cmp2, ↓Y_call, ↓Y_sub, ↓XEs_nil, ↓XEs_cons, ↓Z_expr, ↓Z_assign, ↓Z_ret, ↓Z_ite, ↓Z_for, ↓Z_raise, ↓Zs_nil, ↓sqX_next, ↓sqX_ret, ↓Zs_cons, ↓wkX_next, ↓wkX_ret, ↓fkX_next, ↓fkX_ret, ↓oKK_some, ↓oK_some, ↓tX_bool, ↓iX_t, ↓iX_f, ↓iX_d, ↓q_add, ↓q_sub, ↓q_mul, ↓q_div, ↓q_mod, ↓q_pow, ↓q_eq, ↓q_ne, ↓q_eqs, ↓q_nes, ↓q_lt, ↓q_le, ↓q_gt, ↓q_ge, ↓q_in, ↓q_inl, ↓q_nin, ↓q_stup, ↓q_sref, ↓q_sscr, ↓q_fn, ↓q_lentup, ↓q_lenref, ↓q_lenscr, ↓q_isi, ↓q_all, ↓q_int, ↓q_tuple, ↓q_append, ↓q_slicet, ↓q_set, ↓q_repr, ↓q_eqo, ↓Z_set, ↓q_listt, ↓q_ninl, ↓u_tup, ↓u_ref, ↓u_range, ↓q_slice, ↓oi_none, ↓oi_int, ↓X_slice, ↓XO_none, ↓XO_some, ↓u_rev, ↓X_zlt, ↓q_zlt, ↓retV_ret, ↓retV_next, List.getElem?_cons_zero, List.getElem?_cons_succ, List.set_cons_zero, List.set_cons_succ, Bool.not_true, Bool.not_false, idx_0, idx_1, idx_2, idx_3, idx_4, idx_5, iP_0, iP_1, iP_2, iP_3, Int.reduceAdd, Int.reduceSub, Int.reduceMul, Int.reduceNeg, Int.reducePow, Int.reduceLT, Int.reduceLE, Int.reduceEq, Int.reduceNe, Int.reduceToNat, Int.reduceAbs, Nat.reduceAdd, Nat.reduceLT, Nat.reduceLeDiff, Nat.reducePow, Nat.reduceLT, List.length_cons, List.length_nil, true_implies, false_implies, not_true_eq_false, not_false_eq_true, and_true, true_and, and_self, or_true, true_or, decide_true, decide_false, exists_eq_left', Option.some.injEq, ↓X_strm, ↓sV_str, ↓q_join, ↓q_split, ↓q_strint, ↓q_strstr, ↓q_intstr, ↓q_lenstr, ↓q_slices, ↓q_ins, ↓q_nins, ↓u_str, hlH, sl_1, listAt_new]
  refine comp_ln Oc_ln (by simp) (fun H' hp => listAt_pre hp listAt_new) r [] _ hr (List.prefix_refl _) fun H1 hp1 => ?_
  rw [List.nil_append]
  refine ⟨by rw [List.length_map]; omega, ?_⟩
  have hp01 : H0 <+: H1 := hp.trans (pre_new.trans hp1)
  have hn : listAt (H1 ++ [.list (r.map numV)]) H1.length = some (r.map numV) := listAt_new
  have hl1 : listAt (H1 ++ [.list (r.map numV)]) i = some (.str u :: r.map V.str) := listAt_pre (hp01.trans pre_new) hl
  have hlen := pre_len hp01
  have hp2 : H0 <+: H1 ++ [.list (r.map numV)] := hp01.trans pre_new
  generalize H1 ++ [O.list (r.map numV)] = H2 at hn hl1 hp2 ⊢
  generalize H1.length = k at hn hlen ⊢
  subst hK
  /- the last statement -/
  have last : ∀ {t2 t3 t4 : Option V} (H3 : Hp), H0 <+: H3 → listAt H3 i = some (.str u :: r.map V.str) → listAt H3 k = some (plP u r) → wpSs Oc (f_l_meant.body.drop 4) [some (.ref i), some (.ref k), t2, t3, t4] H3 (fun fl _ H1 => Q (retV fl) H1) (fun x _ H1 => X x H1) := by
    intro t2 t3 t4 H3 hp3 hl3 hk3
    refine zs_cons ?_
    have hk4 := listAt_pre (pre_new (o := .list [.str u])) hk3
    simp_arith only [hl3, listAt_new, hk4]
    refine ⟨by rw [plP_len]; omega, ?_⟩
    refine q _ _ (hp3.trans (pre_new.trans pre_new)) ?_ (by rw [listAt_new]; rfl)
    have := pre_len hp3
    rw [List.length_append]; omega
  cases r with
  | nil =>
    have hd : (wpSs Oc (f_l_meant.body.drop 4) [some (.ref i), some (.ref k), none, none, none] H2 (fun fl _ H1 => Q (retV fl) H1) (fun x _ H1 => X x H1)) := last H2 hp2 hl1 hn
    refine zs_cons ?_
    generalize hK : sqX Oc (_ :: _) = K
    have h1 : ¬ (1 : Int) < (((List.map V.str ([] : List Str)).length + 1 : Nat) : Int) := by decide
    cases hw : (u == Str.ofString "week") with
    | false => simp_arith only [hl1, hw]; subst hK; exact hd
    | true => simp_arith only [hl1, hw, h1]; subst hK; exact hd
  | cons w r =>
    refine zs_cons ?_
    generalize hK : sqX Oc (_ :: _) = K
    have h1 : (1 : Int) < (((List.map V.str (w :: r)).length + 1 : Nat) : Int) := by rw [List.length_map, List.length_cons]; omega
    cases hw : (u == Str.ofString "week") with
    | false =>
      have hk : listAt H2 k = some (plP u (w :: r)) := by rw [hn, plP_cons, hw]; rfl
      simp_arith only [hl1, hw]
      subst hK; exact last H2 hp2 hl1 hk
    | true =>
      have h1' : (1 : Int) < (((r.map V.str).length + 1 + 1 : Nat) : Int) := by omega
      have hl1' : listAt H2 i = some (.str u :: .str w :: r.map V.str) := hl1
      simp only [Z_ite, Y_and, Y_cmp, X_cmp, X_call, XEs_cons, XEs_nil, X_loc, X_lit, X_sub, List.getElem?_cons_zero, oKK_some, q_lenref, hl1', oK_some, q_gt, List.length_cons, tX_bool, decide_eq_true h1', iX_t, q_sref, idx_0, iP_0, q_eqs, hw]
      refine zs_cons ?_
      rw [Z_set]
      refine nv_ok (rest := r.map V.str) hl1 (hr w (by simp)) fun H3 hp3 => ?_
      have hn3 := listAt_pre hp3 hn
      have hl3 := listAt_pre hp3 hl1
      simp_arith only [hn3]
      refine ⟨by rw [List.length_map, List.length_cons]; omega, ?_⟩
      subst hK
      have e : ((w :: r).map numV).set 0 (numsV w) = plP u (w :: r) := by rw [plP_cons, hw]; rfl
      rw [e]
      have hik : i ≠ k := fun q => by
        have : i < H0.length := by
          unfold listAt at hl
          cases e : H0[i]? with
          | none => rw [e] at hl; cases hl
          | some o => exact (List.getElem?_eq_some_iff.mp e).1
        omega
      refine last _ (pre_set (hp2.trans hp3) hlen) ?_ (listAt_set hn3)
      rw [listAt_other hik]; exact hl3
theorem w_meant : ∀ vs H Q X, C_me vs H Q X → wpFn Oc f_l_meant vs H Q X := by
  rintro vs H Q X ⟨u, r, i, rfl, hl, hr, hz, q⟩
  refine fn_of rfl ?_
  change wpSs Oc f_l_meant.body [some (.ref i), none, none, none, none] H _ _
  by_cases h2 : (2 : Int) < (((r.map V.str).length + 1 : Nat) : Int)
  · cases r with
    | nil => exact absurd h2 (by decide)
    | cons w r =>
      cases r with
      | nil => exact absurd h2 (by show ¬ (2 : Int) < 2; decide)
      | cons x r =>
        have hw := hr w (by simp)
        have hl : listAt H i = some (.str u :: .str w :: .str x :: r.map V.str) := hl
        have hlb := listAt_pre (pre_new (o := .list bearL)) hl
        have e2 : (2 : Int) < (((r.map V.str).length + 1 + 1 + 1 : Nat) : Int) := by omega
        refine zs_cons ?_
        generalize hK : sqX Oc (_ :: _) = K
        simp_arith only [hl, e2, ↓Oc_be]
        refine ⟨rfl, ?_⟩
        have em : memV (.str u) bearL = some (inOut u) := mem_out
        cases ho : inOut u with
        | true =>
          rw [ho] at em
          simp_arith only [listAt_new, em, hlb]
          cases hb : (u == Str.ofString "but") with
          | false =>
            simp_arith only [hlb, hb, ↓Oc_ln]
            refine ⟨w, rfl, hw, fun H1 hp1 => ?_⟩
            simp_arith only [X_lit]
            subst hK
            refine q _ _ (pre_new.trans (hp1.trans pre_new)) (pre_len (pre_new.trans hp1)) ?_
            rw [listAt_new]
            show some _ = some (if inOut u then [V.str u, hdV u w] else _)
            rw [ho, if_pos rfl]; unfold hdV; rw [hb]; rfl
          | true =>
            simp_arith only [hlb, hb]
            subst hK
            refine zs_cons ?_
            generalize hK : sqX Oc (_ :: _) = K
            simp only [Z_ite, Y_and, Y_cmp, X_cmp, X_call, XEs_cons, XEs_nil, X_loc, X_lit, X_sub, List.getElem?_cons_zero, oKK_some, q_lenref, hlb, oK_some, q_gt, List.length_cons, tX_bool, decide_eq_true e2, iX_t, q_sref, idx_0, iP_0, q_eqs, hb]
            refine zs_cons ?_
            rw [Z_ret, X_lst, XEs_cons, X_sub]
            simp only [X_loc, X_lit, List.getElem?_cons_zero, oKK_some, q_sref, hlb, oK_some, idx_0, iP_0, XEs_cons]
            refine nv_ok hlb hw fun H1 hp1 => ?_
            simp only [XEs_nil]
            refine ⟨by simp, ?_⟩
            subst hK
            refine q _ _ (pre_new.trans (hp1.trans pre_new)) (pre_len (pre_new.trans hp1)) ?_
            rw [listAt_new]
            show some _ = some (if inOut u then [V.str u, hdV u w] else _)
            rw [ho, if_pos rfl]; unfold hdV; rw [hb]; rfl
        | false =>
          rw [ho] at em
          have hb : (u == Str.ofString "but") = false := by
            refine beq_false_of_ne fun e => ?_
            rw [e] at ho; exact absurd ho (by decide)
          simp_arith only [listAt_new, em, hlb]
          subst hK
          refine zs_cons ?_
          generalize hK : sqX Oc (_ :: _) = K
          simp_arith only [hlb, e2, hb]
          subst hK
          refine me_rest (r := w :: x :: r) pre_new hl hr hz fun H' k hp hk hlk => q H' k hp hk ?_
          rw [hlk]
          show some _ = some (if inOut u then _ else _)
          rw [ho]; rfl
  · have hm : meantL u r = .str u :: plP u r := by
      cases r with
      | nil => rfl
      | cons w r => cases r with
        | nil => rfl
        | cons x r => exfalso; apply h2; simp only [List.length_map, List.length_cons]; omega
    rw [hm] at q
    refine zs_cons ?_
    generalize hK : sqX Oc (_ :: _) = K
    simp_arith only [hl, h2]
    subst hK
    refine zs_cons ?_
    generalize hK : sqX Oc (_ :: _) = K
    simp_arith only [hl, h2]
    subst hK
    exact me_rest (List.prefix_refl _) hl hr hz q
noncomputable def Od : Orc := ext "_law_meant" C_me Oc
theorem Od_me : Od "_law_meant" = C_me := rfl
theorem Od_be : Od "_law_bearing" = C_be := rfl
end Mine

set_option autoImplicit false
set_option linter.unusedSimpArgs false
set_option maxRecDepth 20000
/- Law 07: the law. -/
namespace Mine
open PySem PyProof.Rows

theorem q_adds {x y : Str} {H : Hp} {Q : V → Hp → Prop} : pBin .Add (.str x) (.str y) H Q = (x.length + y.length ≤ 1000000 ∧ Q (.str (x ++ y)) H) := rfl
noncomputable abbrev lrT : IE := .and (.cmp (.call (.bi .len) [(.loc 1)]) .Gt (.lit (.int 2))) (.cmp (.sub (.loc 1) (.lit (.int 0))) .In (.call (.fn "_law_bearing") []))
noncomputable abbrev lrB : List IS := [(.expr (.meth (.loc 2) .append [(.call (.fn "_law_meant") [(.loc 1)])])), (.assign 1 (.slice (.loc 1) (some (.lit (.int 2))) none))]
noncomputable abbrev lrF : List IS := [(.assign 3 (.call (.ty .tuple) [(.bin .Add (.loc 4) (.lst [(.loc 3)]))]))]
noncomputable def LvOk (H : Hp) (n : Nat) : List Nat → List (Str × Str) → Prop
  | [], [] => True
  | k :: ks, p :: ps => (n < k ∧ listAt H k = some [.str p.1, hdV p.1 p.2]) ∧ LvOk H n ks ps
  | _, _ => False
theorem LvOk.keep {H H' : Hp} {n : Nat} (h : ∀ k l, n < k → listAt H k = some l → listAt H' k = some l) : ∀ {ks : List Nat} {ps : List (Str × Str)}, LvOk H n ks ps → LvOk H' n ks ps
  | [], [], _ => trivial
  | k :: _, _ :: _, x => ⟨⟨x.1.1, h k _ x.1.1 x.1.2⟩, LvOk.keep h x.2⟩
  | [], _ :: _, x => x.elim
  | _ :: _, [], x => x.elim
noncomputable def wrapR : List (Str × Str) → V → V
  | [], v => v
  | p :: ps, v => wrapR ps (.tup [.str p.1, hdV p.1 p.2, v])
theorem lr_test {u : Str} {r : List Str} {iw : Nat} {t0 t2 : Option V} {Lr : Lc} {H : Hp} {P : Bool → Hp → Prop} {X : XL} (hl : listAt H iw = some (.str u :: r.map V.str))
    (h0 : r.length < 2 → P false H) (h1 : 2 ≤ r.length → P (inOut u) (H ++ [.list bearL])) : (wp2 Od lrT).T (t0 :: some (.ref iw) :: t2 :: Lr) H P X := by
  by_cases hr : r.length < 2
  · have e2 : ¬ (2 : Int) < (((r.map V.str).length + 1 : Nat) : Int) := by rw [List.length_map]; omega
    simp_arith only [hl, e2]
    exact h0 hr
  · have e2 : (2 : Int) < (((r.map V.str).length + 1 : Nat) : Int) := by rw [List.length_map]; omega
    have em : memV (.str u) bearL = some (inOut u) := mem_out
    simp_arith only [hl, e2, ↓Od_be]
    refine ⟨rfl, ?_⟩
    simp_arith only [listAt_new, em]
    exact h1 (by omega)
theorem lr_loop {t : V} {n : Nat} {H0 : Hp} {Q : QS} (hn : n = H0.length) {V0 : V} (post : ∀ u r iw ks ps H2, H0 <+: H2 → listAt H2 n = some ((ks.map V.ref).reverse) → LvOk H2 n ks ps → listAt H2 iw = some (.str u :: r.map V.str) → (∀ w ∈ r, wOk w) → r.length ≤ 100000 →
      meantL u r = .str u :: plP u r → wrapR ps (plV u r) = V0 → Q .next [some t, some (.ref iw), some (.ref n), none, none, none, none, none] H2) :
    ∀ (m : Nat) (u : Str) (r : List Str) (ks : List Nat) (ps : List (Str × Str)) (iw : Nat) (H1 : Hp), r.length ≤ m → H0 <+: H1 → listAt H1 n = some ((ks.map V.ref).reverse) → LvOk H1 n ks ps → listAt H1 iw = some (.str u :: r.map V.str) → iw ≠ n → (∀ w ∈ r, wOk w) → ks.length + r.length ≤ 100000 →
      wrapR ps (lawRule (u :: r)) = V0 → whileGo (whTX Od lrT noX) (whBX Od lrB noXS) (m + 1) [some t, some (.ref iw), some (.ref n), none, none, none, none, none] H1 Q := by
  intro m
  induction m using Nat.strongRecOn with
  | ind m ih =>
    intro u r ks ps iw H1 hm hp hks hlv hl hiw hr hz hv
    rw [whX_s]
    have hz' : r.length ≤ 100000 := by omega
    refine lr_test hl (fun h2 => ?_) fun h2 => ?_
    · have e1 : meantL u r = .str u :: plP u r ∧ lawRule (u :: r) = plV u r := by
        cases r with
        | nil => exact ⟨rfl, rfl⟩
        | cons w r => cases r with
          | nil => exact ⟨rfl, rfl⟩
          | cons x r => simp only [List.length_cons] at h2; omega
      rw [e1.2] at hv
      exact post u r iw ks ps H1 hp hks hlv hl hr hz' e1.1 hv
    · have hp1 : H0 <+: H1 ++ [.list bearL] := hp.trans pre_new
      have hks1 := listAt_pre (pre_new (o := .list bearL)) hks
      have hl1 := listAt_pre (pre_new (o := .list bearL)) hl
      have hlv1 : LvOk (H1 ++ [.list bearL]) n ks ps := hlv.keep fun k l _ q => listAt_pre pre_new q
      generalize H1 ++ [O.list bearL] = H2 at hp1 hks1 hl1 hlv1 ⊢
      match r, h2, hl1, hr, hz, hz', hv, hm with
      | w :: x :: r, _, hl1, hr, hz, hz', hv, hm =>
        cases ho : inOut u with
        | false =>
          have e1 : meantL u (w :: x :: r) = .str u :: plP u (w :: x :: r) := by
            show (if inOut u then _ else _) = _
            rw [ho]; rfl
          rw [lawRule_plain ho] at hv
          exact post u (w :: x :: r) iw ks ps H2 hp1 hks1 hlv1 hl1 hr hz' e1 hv
        | true =>
          have e1 : meantL u (w :: x :: r) = [.str u, hdV u w] := by
            show (if inOut u then _ else _) = _
            rw [ho]; rfl
          have e2 : lawRule (u :: w :: x :: r) = .tup [.str u, hdV u w, lawRule (x :: r)] := by
            show (if inOut u then _ else _) = _
            rw [ho]; rfl
          rw [e2] at hv
          show wpSs Od lrB _ _ _ _
          refine zs_cons ?_
          generalize hK : sqX Od (_ :: _) = K
          simp only [Z_expr, X_meth, X_loc, X_call, XEs_cons, XEs_nil, List.getElem?_cons_zero, List.getElem?_cons_succ, oKK_some, q_fn, ↓Od_me]
          refine ⟨⟨_, hks1⟩, u, w :: x :: r, iw, rfl, hl1, hr, hz', fun H3 k hp3 hk hlk => ?_⟩
          have hks3 := listAt_pre hp3 hks1
          have hl3 := listAt_pre hp3 hl1
          have hnk : n < k := by
            have := pre_len hp1
            have : n < H2.length := by
              unfold listAt at hks1
              cases e : H2[n]? with
              | none => rw [e] at hks1; cases hks1
              | some o => exact (List.getElem?_eq_some_iff.mp e).1
            omega
          have hlen : ((ks.map V.ref).reverse).length ≤ 1000000 := by rw [List.length_reverse, List.length_map]; omega
          simp only [q_append, hks3, oK_some, hlen, true_and]
          subst hK
          have hl4 : listAt (H3.set n (.list ((ks.map V.ref).reverse ++ [.ref k]))) iw = some (.str u :: .str w :: (x :: r).map V.str) := by rw [listAt_other hiw]; exact hl3
          have hks4 : listAt (H3.set n (.list ((ks.map V.ref).reverse ++ [.ref k]))) n = some (((k :: ks).map V.ref).reverse) := by rw [listAt_set hks3]; simp
          have hp4 : H0 <+: H3.set n (.list ((ks.map V.ref).reverse ++ [.ref k])) := pre_set (hp1.trans hp3) (by omega)
          have hlv4 : LvOk (H3.set n (.list ((ks.map V.ref).reverse ++ [.ref k]))) n (k :: ks) ((u, w) :: ps) :=
            ⟨⟨hnk, by rw [listAt_other (by omega), hlk, e1]⟩, hlv1.keep fun j l hj q => by rw [listAt_other (by omega)]; exact listAt_pre hp3 q⟩
          generalize H3.set n (O.list ((ks.map V.ref).reverse ++ [V.ref k])) = H4 at hl4 hks4 hp4 hlv4 ⊢
          show wpSs Od [_] _ _ _ _
          refine zs_cons ?_
          generalize hK : sqX Od [] = K
          simp_arith only [hl4, sl_2]
          subst hK
          rw [List.length_cons] at hm
          have hn4 : n ≠ H4.length := by
            have : n < H4.length := by
              unfold listAt at hks4
              cases e : H4[n]? with
              | none => rw [e] at hks4; cases hks4
              | some o => exact (List.getElem?_eq_some_iff.mp e).1
            omega
          cases m with
          | zero => exact absurd hm (by omega)
          | succ m =>
            rw [sqX_next, Zs_nil, wkX_next]
            refine ih m (Nat.lt_succ_self _) x r (k :: ks) ((u, w) :: ps) H4.length _ (by rw [List.length_cons] at hm; omega) (hp4.trans pre_new) (listAt_pre pre_new hks4) (hlv4.keep fun j l _ q => listAt_pre pre_new q) listAt_new (Ne.symm hn4) (fun y hy => hr y (by simp [hy])) ?_ hv
            simp only [List.length_cons] at hz ⊢; omega
theorem lr_for {t a : V} {n : Nat} {l : List V} {XF : XS} {Q : QS} : ∀ (ks : List Nat) (ps : List (Str × Str)) (v : V) (t4 : Option V) (H : Hp), LvOk H n ks ps → listAt H n = some l →
    (∀ t4 H2, H <+: H2 → Q .next [some t, some a, some (.ref n), some (wrapR ps v), t4, none, none, none] H2) →
    forGo (whBX Od lrF XF) (fun H' => listAt H' n = some l) 4 (ks.map V.ref) [some t, some a, some (.ref n), some v, t4, none, none, none] H Q
  | [], [], v, t4, H, _, _, q => q t4 H (List.prefix_refl _)
  | [], _ :: _, _, _, _, h, _, _ => h.elim
  | _ :: _, [], _, _, _, h, _, _ => h.elim
  | k :: ks, p :: ps, v, t4, H, h, hn, q => by
    rw [List.map_cons, foX_cons]
    have h1 := listAt_pre (pre_new (o := .list [v])) h.1.2
    simp_arith only [h1, listAt_new]
    refine ⟨listAt_pre (pre_new.trans pre_new) hn, lr_for ks ps _ _ _ (h.2.keep fun j l _ q => listAt_pre (pre_new.trans pre_new) q) (listAt_pre (pre_new.trans pre_new) hn) fun t4 H2 hp => q t4 H2 (pre_new.trans (pre_new.trans hp))⟩
noncomputable def C_lr : Ctr := fun vs H Q _ => ∃ t, vs = [.str t] ∧ wOk t ∧ ∀ H', H <+: H' → Q (lawRule (Txt.split t " ")) H'
theorem w_l_rule_of : ∀ vs H Q X, C_lr vs H Q X → wpFn Od f_l_rule_of vs H Q X := by
  rintro vs H Q X ⟨t, rfl, ht, q⟩
  refine fn_of rfl ?_
  change wpSs Od f_l_rule_of.body [some (.str t), none, none, none, none, none, none, none] H _ _
  have e1 : ((Str.ofString " ").length == 0) = false := by decide
  have e2 : t.length ≤ 1000000 := Nat.le_trans ht.2 (by decide)
  first | refine e2_1 (split_cons t) fun u r es => ?_ | refine e1_2 (split_cons t) fun u r es => ?_ | refine e0_3 (split_cons t) fun u r es => ?_ | obtain ⟨u, r, es⟩ := split_cons t
  have hok := split_ok2 (y := " ") ht
  have hsl := split_le t " "
  have ht2 := ht.2
  rw [es] at hok hsl q
  rw [List.length_cons] at hsl
  refine zs_cons ?_
  generalize hK : sqX Od (_ :: _) = K
  simp_arith! only [e1, e2, es]
  subst hK
  refine zs_cons ⟨by decide, ?_⟩
  change wpSs Od (f_l_rule_of.body.drop 2) [some (.str t), some (.ref H.length), some (.ref (H ++ [O.list ((u :: r).map V.str)]).length), none, none, none, none, none] ((H ++ [.list ((u :: r).map V.str)]) ++ [.list []]) _ _
  have hw : listAt (H ++ [O.list ((u :: r).map V.str)]) H.length = some (.str u :: r.map V.str) := listAt_new
  have hpw : H <+: H ++ [O.list ((u :: r).map V.str)] := pre_new
  have hne : H.length ≠ (H ++ [O.list ((u :: r).map V.str)]).length := by rw [List.length_append]; simp
  generalize hH : H ++ [O.list ((u :: r).map V.str)] = H0 at hw hpw hne ⊢
  refine zs_cons ?_
  rw [Z_while]
  refine ⟨r.length + 1, lr_loop (H0 := H0) (V0 := lawRule (u :: r)) rfl (fun u' r' iw ks ps H2 hp hks hlv hl hr hz hm hv => ?_) r.length u r [] [] H.length _ (Nat.le_refl _) pre_new listAt_new trivial (listAt_pre pre_new hw) hne (fun w hw => hok w (List.mem_cons_of_mem _ hw)) (by simp only [List.length_nil]; omega) rfl⟩
  refine zs_cons ?_
  generalize hK : sqX Od (_ :: _) = K
  simp only [Z_assign, X_call, X_loc, XEs_cons, XEs_nil, List.getElem?_cons_zero, List.getElem?_cons_succ, oKK_some, q_fn, ↓Od_me]
  refine ⟨u', r', iw, rfl, hl, hr, hz, fun H3 k hp3 _ hlk => ?_⟩
  rw [hm] at hlk
  simp only [q_tuple, hlk, oK_some]
  subst hK
  change wpSs Od (f_l_rule_of.body.drop 4) [some (.str t), some (.ref iw), some (.ref H0.length), some (plV u' r'), none, none, none, none] H3 _ _
  have hks3 := listAt_pre hp3 hks
  refine zs_cons ?_
  rw [Z_for]
  simp only [XEs_cons, XEs_nil, X_loc, List.getElem?_cons_zero, List.getElem?_cons_succ, oKK_some, u_rev, hks3, oK_some, List.reverse_reverse]
  refine lr_for ks ps (plV u' r') none H3 (hlv.keep fun j l _ q => listAt_pre hp3 q) hks3 fun t4 H4 hp4 => ?_
  rw [hv]
  exact q H4 (hpw.trans (hp.trans (hp3.trans hp4)))
noncomputable def Oe : Orc := ext "_law_rule_of" C_lr Od
theorem Oe_rd : Oe "read" = C_rd := rfl
noncomputable def C_rf : Ctr := fun vs H Q _ => ∃ t k, vs = [.str t, .int k] ∧ wOk t ∧ (∀ R, ¬ Told t R) ∧ ∀ H', H <+: H' → Q (.bool true) H'
theorem ups_n : NR.ups.contains "NoRule" = true := by decide
theorem ups_h : NR.ups.contains "HourError" = true := by decide
theorem ups_v : NR.ups.contains "ValueError" = true := by decide
theorem w_refused : ∀ vs H Q X, C_rf vs H Q X → wpFn Oe f_l_refused vs H Q X := by
  rintro vs H Q X ⟨t, k, rfl, ht, no, q⟩
  refine fn_of rfl ?_
  change wpSs Oe f_l_refused.body [some (.str t), some (.int k), none, none, none, none] H _ _
  refine zs_cons ?_
  rw [Z_try]
  refine zs_cons ?_
  simp only [Z_expr, X_call, X_loc, XEs_cons, XEs_nil, List.getElem?_cons_zero, oKK_some, q_fn, ↓Oe_rd]
  refine ⟨t, rfl, ht, .inr ⟨no, fun H' hp => ?_⟩⟩
  refine ⟨ups_n, ?_⟩
  show oK (evR NR [some (.str t), some (.int k), none, none, none, none] _) _
  have e : evR NR [some (.str t), some (.int k), none, none, none, none] (.or (.cmp (.bin .Mod (.loc 1) (.lit (.int 2))) .Eq (.lit (.int 0))) (.excIs "ValueError")) = some (.bool true) := by
    have e1 : binRV .Mod k 2 = some (.int (k % 2)) := by
      show (if (0 : Int) < 2 ∧ (2 : Int) < 2 ^ 128 then some (V.int (k % 2)) else none) = _
      rw [if_pos (by decide)]
    show ((((binRV .Mod k 2).bind intV).bind fun i => cmpRV .Eq i 0).bind boolV).bind (fun p => (match p with | true => some (V.bool true) | false => some (.bool (NR.ups.contains "ValueError")))) = _
    rw [e1, ups_v]
    show (match decide (k % 2 = 0) with | true => some (V.bool true) | false => some (V.bool true)) = _
    cases decide (k % 2 = 0) <;> rfl
  rw [e]
  exact q H' hp
noncomputable def Of : Orc := ext "_law_refused" C_rf Oe
theorem Of_rd : Of "read" = C_rd := rfl
noncomputable def C_ra : Ctr := fun vs H Q _ => ∃ t, vs = [.str t] ∧ wOk t ∧ (∀ R, ¬ Told t R) ∧ ∀ H', H <+: H' → Q (.bool true) H'
theorem w_refused_any : ∀ vs H Q X, C_ra vs H Q X → wpFn Of f_l_refused_by_any vs H Q X := by
  rintro vs H Q X ⟨t, rfl, ht, no, q⟩
  refine fn_of rfl ?_
  change wpSs Of f_l_refused_by_any.body [some (.str t), none, none, none] H _ _
  refine zs_cons ?_
  rw [Z_try]
  refine zs_cons ?_
  simp only [Z_expr, X_call, X_loc, XEs_cons, XEs_nil, List.getElem?_cons_zero, oKK_some, q_fn, ↓Of_rd]
  refine ⟨t, rfl, ht, .inr ⟨no, fun H' hp => ?_⟩⟩
  exact ⟨ups_h, q H' hp⟩
noncomputable def Og : Orc := ext "_law_refused_by_any" C_ra Of

/- the line -/
theorem Og_ca : Og "_law_cell_at" = C_cell_at := rfl
theorem Og_wp : Og "_law_wide_plain" = C_wp := rfl
theorem Og_wh : Og "_law_wide_head" = C_wh := rfl
theorem Og_wr : Og "_law_written" = C_wr := rfl
theorem Og_sb : Og "_law_sign_by" = C_sb := rfl
theorem Og_ol : Og "_law_odd_line" = C_ol := rfl
theorem text_asc {r : Rl} (g : r.fair) : asc r.text := by
  refine join_chars (P := fun c => c < 128) ?_ _ fun w hw => (words_ok g w hw).2.2
  rw [sp_eq]; intro c hc; simp [chs, one] at hc; omega
theorem text_pos {r : Rl} (g : r.fair) : 0 < r.text.length := by
  have h3 := (words_len g).2
  unfold Rl.text
  match r.words, h3 with
  | a :: b :: c, _ =>
    rw [len_chs, sp_eq, chs_join, List.length_append, List.length_cons]
    omega
theorem asc_slice {x : Str} (h : asc x) (l u : Option Int) : asc (Txt.slice x l u) := fun c hc => h c (slice_mem hc)
theorem asc_app {x y : Str} (h1 : asc x) (h2 : asc y) : asc (x ++ y) := fun c hc => by
  rw [chs_append] at hc
  rcases List.mem_append.mp hc with q | q
  · exact h1 c q
  · exact h2 c q
theorem len_app (x y : Str) : (x ++ y).length = x.length + y.length := by rw [len_chs, len_chs, len_chs, chs_append, List.length_append]
noncomputable abbrev liB : List IS := [(.assign 4 (.call (.fn "_law_wide_head") [(.call (.fn "_law_cell_at") [(.loc 0), (.bin .Add (.lit (.int 7)) (.loc 3))]), (.loc 4)]))]
theorem li_loop {ns : List Int} {a b : V} {t7 t8 t9 : Option V} {XF : XS} {Q : QS} {H0 : Hp} : ∀ (ks : List Nat) (r : Rl) (t3 : Option V) (H : Hp), H0 <+: H → r.fair → r.depth + ks.length ≤ 8 →
    (∀ r' t3' H', H0 <+: H' → r'.fair → r'.depth ≤ 8 → Q .next [some (.scr ns), some a, some b, t3', some (rv r'), none, none, t7, t8, t9] H') →
    forGo (whBX Og liB XF) (fun _ => True) 3 (ks.map fun (k : Nat) => V.int (0 + (k : Int))) [some (.scr ns), some a, some b, t3, some (rv r), none, none, t7, t8, t9] H Q
  | [], r, t1, H, hp, g, hd, q => q r t1 H hp g (by simpa using hd)
  | k :: ks, r, t1, H, hp, g, hd, q => by
    rw [List.map_cons, foX_cons]
    simp only [List.length_cons] at hd
    simp_arith only [↓Og_ca, ↓cc_cell, ↓Og_wh]
    refine ⟨by omega, _, r, rfl, g, fun r' H' hp' g' hd' => ?_⟩
    simp_arith only [X_lit]
    exact li_loop ks r' _ H' (hp.trans hp') g' (by omega) q
noncomputable def C_li : Ctr := fun vs H Q _ => ∃ ns way c, vs = [.scr ns, .int way, .int c] ∧ ∀ t H', H <+: H' → wOk t → Q (.str t) H'
theorem li_tail {ns : List Int} {way c : Int} {r : Rl} {t3 t7 t8 t9 : Option V} {H : Hp} {Q : V → Hp → Prop} {X : XL} (g : r.fair) (hd : r.depth ≤ 8) (q : ∀ t H', H <+: H' → wOk t → Q (.str t) H') :
    wpSs Og (f_l_line.body.drop 2) [some (.scr ns), some (.int way), some (.int c), t3, some (rv r), none, none, t7, t8, t9] H (fun fl _ H1 => Q (retV fl) H1) (fun x _ H1 => X x H1) := by
  refine zs_cons ?_
  generalize hK : sqX Og (_ :: _) = K
  simp_arith only [↓Og_wr]
  subst hK
  refine ⟨r, rfl, g, hd, fun H1 hp1 => ?_⟩
  have hlen := text_len g hd
  have ha := text_asc g
  have h0 := text_pos g
  generalize r.text = T at hlen ha h0
  change wpSs Og (f_l_line.body.drop 3) [some (.scr ns), some (.int way), some (.int c), t3, some (rv r), some (.str T), none, t7, t8, t9] H1 _ _
  refine zs_cons ?_
  generalize hK : sqX Og (_ :: _) = K
  simp_arith! only [X_lit]
  subst hK
  refine ⟨⟨by omega, by omega⟩, ?_⟩
  generalize c % (T.length : Int) = p
  have q1 := fun t ht => q t H1 hp1 ht
  have l1 : ∀ l u, (Txt.slice T l u).length ≤ 6000 := fun l u => Nat.le_trans (Txt.slice_le T l u) hlen
  have one1 : ∀ d, (one d).length = 1 := fun _ => rfl
  have big : ∀ {l u l2 u2 : Option Int} {d : Nat}, d < 128 → wOk (Txt.slice T l u ++ one d ++ Txt.slice T l2 u2) := fun {l u l2 u2 d} hd => ⟨asc_app (asc_app (asc_slice ha _ _) (asc_one hd)) (asc_slice ha _ _), by rw [len_app, len_app, one1]; have := l1 l u; have := l1 l2 u2; omega⟩
  have s1 : ∀ {l u : Option Int} {d : Nat}, (Txt.slice T l u).length + (one d).length ≤ 1000000 := fun {l u d} => by have := l1 l u; rw [one1]; omega
  have s2 : ∀ {l u l2 u2 : Option Int} {d : Nat}, (Txt.slice T l u ++ one d).length + (Txt.slice T l2 u2).length ≤ 1000000 := fun {l u l2 u2 d} => by have := l1 l u; have := l1 l2 u2; rw [len_app, one1]; omega
  have s3 : ∀ {l u l2 u2 : Option Int}, (Txt.slice T l u).length + (Txt.slice T l2 u2).length ≤ 1000000 := fun {l u l2 u2} => by have := l1 l u; have := l1 l2 u2; omega
  change wpSs Og (f_l_line.body.drop 4) [some (.scr ns), some (.int way), some (.int c), t3, some (rv r), some (.str T), some (.int p), t7, t8, t9] H1 _ _
  refine zs_cons ?_
  generalize hK : sqX Og (_ :: _) = K
  simp_arith! only [↓Og_sb, ↓Og_ca, ↓cc_cell]
  refine ⟨fun _ => ⟨_, rfl, fun d hd => ?_⟩, fun _ => ?_⟩
  · simp_arith! only [↓q_adds]
    subst hK
    exact ⟨s1, s2, q1 _ (big hd)⟩
  subst hK
  refine zs_cons ?_
  generalize hK : sqX Og (_ :: _) = K
  simp_arith! only [↓Og_sb, ↓Og_ca, ↓cc_cell]
  refine ⟨fun _ => ⟨_, rfl, fun d hd => ?_⟩, fun _ => ?_⟩
  · simp_arith! only [↓q_adds]
    subst hK
    exact ⟨s1, s2, q1 _ (big hd)⟩
  subst hK
  refine zs_cons ?_
  generalize hK : sqX Og (_ :: _) = K
  simp_arith! only [↓q_adds]
  refine ⟨fun _ => ?_, fun _ => ?_⟩
  · subst hK
    exact ⟨s3, q1 _ ⟨asc_app (asc_slice ha _ _) (asc_slice ha _ _), by rw [len_app]; have := l1 none (some p); have := l1 (some (p + 1)) none; omega⟩⟩
  subst hK
  refine zs_cons ?_
  generalize hK : sqX Og (_ :: _) = K
  simp_arith! only [↓Og_ol]
  refine ⟨fun _ => ⟨c, rfl, fun s H2 hp2 hs _ => ?_⟩, fun _ => ?_⟩
  · subst hK; exact q s H2 (hp1.trans hp2) hs
  · subst hK
    exact q1 T ⟨ha, by omega⟩
theorem w_line : ∀ vs H Q X, C_li vs H Q X → wpFn Og f_l_line vs H Q X := by
  rintro vs H Q X ⟨ns, way, c, rfl, q⟩
  refine fn_of rfl ?_
  change wpSs Og f_l_line.body [some (.scr ns), some (.int way), some (.int c), none, none, none, none, none, none, none] H _ _
  have er : rangeL 0 3 = [.int 0, .int 1, .int 2] := rfl
  refine zs_cons ?_
  generalize hK : sqX Og (_ :: _) = K
  simp only [↓X_lit, ↓X_loc, ↓X_bin, ↓negX_int, ↓X_neg, ↓X_not, ↓Y_not, ↓X_and, ↓Y_and, ↓X_or, ↓Y_or, ↓X_cmp, ↓X_cmp2, ↓X_ite, ↓Y_ite, ↓X_tup, ↓X_lst, ↓X_call, ↓X_meth, ↓X_sub, ↓X_comp, ↓Y_lit, ↓Y_loc, ↓Y_cmp, ↓Y_cmp2, ↓Y_call, ↓Y_sub, ↓XEs_nil, ↓XEs_cons, ↓Z_expr, ↓Z_assign, ↓Z_ret, ↓Z_ite, ↓Z_for, ↓Z_raise, ↓Zs_nil, ↓sqX_next, ↓sqX_ret, ↓Zs_cons, ↓wkX_next, ↓wkX_ret, ↓fkX_next, ↓fkX_ret, ↓oKK_some, ↓oK_some, ↓tX_bool, ↓iX_t, ↓iX_f, ↓iX_d, ↓q_add, ↓q_sub, ↓q_mul, ↓q_div, ↓q_mod, ↓q_pow, ↓q_list, ↓q_eq, ↓q_ne, ↓q_eqs, ↓q_nes, ↓q_lt, ↓q_le, ↓q_gt, ↓q_ge, ↓q_in, ↓q_inl, ↓q_nin, ↓q_stup, ↓q_sref, ↓q_sscr, ↓q_fn, ↓q_lentup, ↓q_lenref, ↓q_lenscr, ↓q_isi, ↓q_all, ↓q_int, ↓q_tuple, ↓q_append, ↓q_slicet, ↓q_set, ↓q_repr, ↓q_eqo, ↓Z_set, ↓q_listt, ↓q_ninl, ↓u_tup, ↓u_ref, ↓u_range, ↓q_slice, ↓oi_none, ↓oi_int, ↓X_slice, ↓XO_none, ↓XO_some, ↓u_rev, ↓X_zlt, ↓q_zlt, ↓retV_ret, ↓retV_next, List.getElem?_cons_zero, List.getElem?_cons_succ, List.set_cons_zero, List.set_cons_succ, Bool.not_true, Bool.not_false, idx_0, idx_1, idx_2, idx_3, idx_4, idx_5, iP_0, iP_1, iP_2, iP_3, Int.reduceAdd, Int.reduceSub, Int.reduceMul, Int.reduceNeg, Int.reducePow, Int.reduceLT, Int.reduceLE, Int.reduceEq, Int.reduceNe, Int.reduceToNat, Int.reduceAbs, Nat.reduceAdd, Nat.reduceLT, Nat.reduceLeDiff, Nat.reducePow, Nat.reduceLT, List.length_cons, List.length_nil, true_implies, false_implies, not_true_eq_false, not_false_eq_true, and_true, true_and, and_self, or_true, true_or, decide_true, decide_false, exists_eq_left', Option.some.injEq, ↓coX_nil, ↓coX_cons, er, ↓Og_ca, ↓cc_cell, ↓Og_wp]
  subst hK
  refine ⟨by simp, _, _, _, _, rfl, listAt_new, fun r H' hp hpl g => ?_⟩
  refine zs_cons ?_
  rw [Z_for]
  generalize hK : sqX Og (_ :: _) = K
  simp only [XEs_nil, XEs_cons, X_bin, X_call, X_loc, X_lit, List.getElem?_cons_zero, oKK_some, q_fn, ↓Og_ca, ↓cc_cell]
  refine ⟨by decide, ?_⟩
  simp only [q_mod, u_range]
  refine ⟨⟨by decide, by decide⟩, ⟨by omega, by omega⟩, ?_⟩
  have hn1 : 0 ≤ cell ns 3 % 9 := by omega
  have hn2 : cell ns 3 % 9 < 9 := by omega
  generalize cell ns 3 % 9 = n at hn1 hn2 ⊢
  have e : rangeL 0 n = (List.range (n - 0).toNat).map fun (k : Nat) => V.int (0 + (k : Int)) := rfl
  rw [e]
  refine li_loop (H0 := H') _ r _ H' (List.prefix_refl _) g (by rw [List.length_range, hpl]; omega) fun r' t1' H2 hp2 g' hd' => ?_
  subst hK
  exact li_tail g' hd' fun t H3 hp3 => q t H3 (pre_new.trans (hp.trans (hp2.trans hp3)))
noncomputable def Oh : Orc := ext "_law_line" C_li Og
theorem Oh_ca : Oh "_law_cell_at" = C_cell_at := rfl
theorem Oh_li : Oh "_law_line" = C_li := rfl
theorem Oh_lr : Oh "_law_rule_of" = C_lr := rfl
theorem Oh_go : Oh "_law_good" = C_good := rfl
theorem Oh_rf : Oh "_law_refused" = C_rf := rfl
theorem Oh_ra : Oh "_law_refused_by_any" = C_ra := rfl
theorem Oh_rd : Oh "read" = C_rd := rfl
noncomputable def C_lawF : Ctr := fun vs H Q _ => ∃ ns, vs = [.scr ns] ∧ ∀ H', H <+: H' → Q (.bool true) H'
theorem w_lawF : ∀ vs H Q X, C_lawF vs H Q X → wpFn Oh f_lawF vs H Q X := by
  rintro vs H Q X ⟨ns, rfl, q⟩
  refine fn_of rfl ?_
  change wpSs Oh f_lawF.body [some (.scr ns), none, none, none, none, none, none, none] H _ _
  refine zs_cons ?_
  generalize hK : sqX Oh (_ :: _) = K
  simp_arith only [↓Oh_ca, ↓cc_cell]
  subst hK
  generalize cell ns 4 % 6 = way
  refine zs_cons ?_
  generalize hK : sqX Oh (_ :: _) = K
  simp_arith only [↓Oh_ca, ↓cc_cell, ↓Oh_li]
  subst hK
  refine ⟨ns, way, _, rfl, fun t H1 hp1 ht => zs_cons ?_⟩
  generalize hK : sqX Oh (_ :: _) = K
  simp_arith only [↓Oh_lr]
  subst hK
  refine ⟨t, rfl, ht, fun H2 hp2 => zs_cons ?_⟩
  have hsl := split_le t " "
  have ht2 := ht.2
  have hok := split_ok2 (y := " ") ht
  have hfs : Fs (lawRule (Txt.split t " ")) := lawRule_fs (fun w hw => (hok w hw).2) (by omega)
  have hpd := lawRule_pd (Txt.split t " ")
  have hback : isRl 8 (lawRule (Txt.split t " ")) = true → ∃ R, Told t R ∧ lawRule (Txt.split t " ") = rv R := fun h => by
    first | refine e3_1 (rv_good h) fun R g d e1 => ?_ | refine e2_2 (rv_good h) fun R g d e1 => ?_ | refine e1_3 (rv_good h) fun R g d e1 => ?_ | refine e0_4 (rv_good h) fun R g d e1 => ?_ | obtain ⟨R, g, d, e1⟩ := rv_good h
    refine ⟨R, ⟨⟨g, by rw [← e1]; exact h⟩, by omega, ?_⟩, e1⟩
    unfold Rl.text
    rw [← lr_back g e1, StrLaws.join_split]
  have hforth : isRl 8 (lawRule (Txt.split t " ")) = false → ∀ R, ¬ Told t R := fun h R ⟨g, d, e⟩ => by
    rw [e, split_text g.1, lawRule_words g.1, g.2] at h
    cases h
  generalize lawRule (Txt.split t " ") = due at hfs hpd hback hforth ⊢
  generalize hK : sqX Oh (_ :: _) = K
  simp_arith only [↓Oh_go, ↓Oh_rf, ↓Oh_ca, ↓cc_cell]
  refine ⟨due, rfl, hpd.th, hfs, fun H3 hp3 => ?_⟩
  cases hg : isRl 8 due with
  | false =>
    have no := hforth hg
    simp_arith only [↓Oh_rf, ↓Oh_ca, ↓cc_cell]
    refine ⟨t, _, rfl, ht, no, fun H4 hp4 => ?_⟩
    simp_arith only [↓Oh_ra]
    subst hK
    exact ⟨t, rfl, ht, no, fun H5 hp5 => q H5 (hp1.trans (hp2.trans (hp3.trans (hp4.trans hp5))))⟩
  | true =>
    first | refine e2_1 (hback hg) fun R hR e_309 => ?_ | refine e1_2 (hback hg) fun R hR e_309 => ?_ | refine e0_3 (hback hg) fun R hR e_309 => ?_ | obtain ⟨R, hR, e_309⟩ := hback hg
    obtain rfl := e_309
    simp_arith only [X_lit]
    subst hK
    refine zs_cons ?_
    generalize hK : sqX Oh (_ :: _) = K
    simp_arith only [↓Oh_rd]
    subst hK
    refine ⟨t, rfl, ht, .inl ⟨R, hR, fun H4 hp4 => zs_cons ?_⟩⟩
    first | refine e2_1 hR fun e_310 hd _ => ?_ | refine e1_2 hR fun e_310 hd _ => ?_ | refine e0_3 hR fun e_310 hd _ => ?_ | obtain ⟨e_310, hd, _⟩ := hR
    obtain ⟨g, _⟩ := e_310
    first | refine e3_2 (sh_rule (H := H4) g) fun d hd1 o1 o2 o3 => ?_ | refine e2_3 (sh_rule (H := H4) g) fun d hd1 o1 o2 o3 => ?_ | refine e1_4 (sh_rule (H := H4) g) fun d hd1 o1 o2 o3 => ?_ | obtain ⟨d, hd1, o1, o2, o3⟩ := sh_rule (H := H4) g
    have htu : ∃ l, rv R = .tup l := by cases R <;> exact ⟨_, rfl⟩
    obtain ⟨l, hl⟩ := htu
    have e4 : (d.shown == d.shown) = true := beq_self_eq_true _
    have hb : d.showable = true ∧ d.depth ≤ 60 ∧ d.shown.length ≤ 1000000 := ⟨o1, by omega, by omega⟩
    rw [hl] at hd1 ⊢
    simp_arith only [isi_tup_tup, hd1, hb, e4]
    exact q _ (hp1.trans (hp2.trans (hp3.trans hp4)))
end Mine

namespace Mine
open PySem
noncomputable def G07 : List (Str × V) := ("TIMES", .int 1000000000000) :: ("DAYS", .int 100000000000) :: ("LONGEST", .int 48) :: ("MOST_STEP", .int 1000000) :: ("DEEPEST", .int 8) :: ("OUTER", .tup [.str "from", .str "until", .str "also", .str "but"]) :: ("FIGURES", .str "0123456789") :: ("MOST_FIGURES", .int 13) :: ("isinstance", .bi .isinstance) :: ("len", .bi .len) :: ("all", .bi .all) :: ("repr", .bi .repr) :: ("int", .ty .int) :: ("bool", .ty .bool) :: ("str", .ty .str) :: ("tuple", .ty .tuple) :: ("list", .ty .list) :: ("range", .ty .range) :: ("reversed", .ty .reversed) :: ("zip", .ty .zip) :: ("ValueError", .ty .valueError) :: ("HourError", .cls "HourError" ["HourError", "ValueError"]) :: ("NoRule", .cls "NoRule" ["NoRule", "HourError", "ValueError"]) :: ("is_whole", .fn "is_whole") :: ("is_between", .fn "is_between") :: ("is_time", .fn "is_time") :: ("are_rising", .fn "are_rising") :: ("is_plain", .fn "is_plain") :: ("is_rule", .fn "is_rule") :: ("_law_whole", .fn "_law_whole") :: ("_law_between", .fn "_law_between") :: ("_law_good_days", .fn "_law_good_days") :: ("_law_good_plain", .fn "_law_good_plain") :: ("_law_good", .fn "_law_good") :: ("shown", .fn "shown") :: ("number_of", .fn "number_of") :: ("numbers_of", .fn "numbers_of") :: ("plain_of", .fn "plain_of") :: ("rule_of", .fn "rule_of") :: ("read", .fn "read") :: ("_law_cell_at", .fn "_law_cell_at") :: ("_law_weekdays", .fn "_law_weekdays") :: ("_law_time", .fn "_law_time") :: ("_law_wide_plain", .fn "_law_wide_plain") :: ("_law_wide_head", .fn "_law_wide_head") :: ("_law_bearing", .fn "_law_bearing") :: ("_law_heads", .fn "_law_heads") :: ("_law_part", .fn "_law_part") :: ("_law_written", .fn "_law_written") :: ("_law_sign_by", .fn "_law_sign_by") :: ("_law_odd_line", .fn "_law_odd_line") :: ("_law_number", .fn "_law_number") :: ("_law_meant", .fn "_law_meant") :: ("_law_rule_of", .fn "_law_rule_of") :: ("_law_refused", .fn "_law_refused") :: ("_law_refused_by_any", .fn "_law_refused_by_any") :: ("_law_line", .fn "_law_line") :: []
noncomputable def ΦL07 : Orc := ext "law" C_lawF Oh
end Mine

open PySem PySem.W PyProof.Rows Mine
namespace Mine
noncomputable def K07 (P : Params) : Frag := [(3, { cls := Value.type "dict", data := Data.dict #[{ hash := PyData.keyHash P (Str.ofString "__name__"), key := Value.str (Str.ofString "__name__") 165, val := Value.str (Str.ofString "law_uf010016_07") 346 }, { hash := PyData.keyHash P (Str.ofString "__doc__"), key := Value.str (Str.ofString "__doc__") 166, val := Value.none }, { hash := PyData.keyHash P (Str.ofString "__package__"), key := Value.str (Str.ofString "__package__") 167, val := Value.none }, { hash := PyData.keyHash P (Str.ofString "__loader__"), key := Value.str (Str.ofString "__loader__") 168, val := Value.builtin "__main__.__loader__#opaque" }, { hash := PyData.keyHash P (Str.ofString "__spec__"), key := Value.str (Str.ofString "__spec__") 169, val := Value.none }, { hash := PyData.keyHash P (Str.ofString "__annotations__"), key := Value.str (Str.ofString "__annotations__") 170, val := Value.ref 6 }, { hash := PyData.keyHash P (Str.ofString "__builtins__"), key := Value.str (Str.ofString "__builtins__") 171, val := Value.ref 4 }, { hash := PyData.keyHash P (Str.ofString "__file__"), key := Value.str (Str.ofString "__file__") 173, val := Value.str (Str.ofString "/claim/cut.py") 172 }, { hash := PyData.keyHash P (Str.ofString "__cached__"), key := Value.str (Str.ofString "__cached__") 174, val := Value.none }, { hash := PyData.keyHash P (Str.ofString "HourError"), key := Value.str (Str.ofString "HourError") 206, val := Value.ref 24 }, { hash := PyData.keyHash P (Str.ofString "NoRule"), key := Value.str (Str.ofString "NoRule") 222, val := Value.ref 37 }, { hash := PyData.keyHash P (Str.ofString "is_whole"), key := Value.str (Str.ofString "is_whole") 231, val := Value.ref 46 }, { hash := PyData.keyHash P (Str.ofString "TIMES"), key := Value.str (Str.ofString "TIMES") 237, val := Value.int 1000000000000 236 }, { hash := PyData.keyHash P (Str.ofString "DAYS"), key := Value.str (Str.ofString "DAYS") 241, val := Value.int 100000000000 240 }, { hash := PyData.keyHash P (Str.ofString "LONGEST"), key := Value.str (Str.ofString "LONGEST") 243, val := Value.int 48 242 }, { hash := PyData.keyHash P (Str.ofString "MOST_STEP"), key := Value.str (Str.ofString "MOST_STEP") 245, val := Value.int 1000000 244 }, { hash := PyData.keyHash P (Str.ofString "DEEPEST"), key := Value.str (Str.ofString "DEEPEST") 247, val := Value.int 8 246 }, { hash := PyData.keyHash P (Str.ofString "OUTER"), key := Value.str (Str.ofString "OUTER") 252, val := Value.ref 47 }, { hash := PyData.keyHash P (Str.ofString "is_between"), key := Value.str (Str.ofString "is_between") 261, val := Value.ref 54 }, { hash := PyData.keyHash P (Str.ofString "is_time"), key := Value.str (Str.ofString "is_time") 268, val := Value.ref 61 }, { hash := PyData.keyHash P (Str.ofString "are_rising"), key := Value.str (Str.ofString "are_rising") 279, val := Value.ref 68 }, { hash := PyData.keyHash P (Str.ofString "is_plain"), key := Value.str (Str.ofString "is_plain") 287, val := Value.ref 75 }, { hash := PyData.keyHash P (Str.ofString "is_rule"), key := Value.str (Str.ofString "is_rule") 295, val := Value.ref 82 }, { hash := PyData.keyHash P (Str.ofString "FIGURES"), key := Value.str (Str.ofString "FIGURES") 299, val := Value.str (Str.ofString "0123456789") 298 }, { hash := PyData.keyHash P (Str.ofString "MOST_FIGURES"), key := Value.str (Str.ofString "MOST_FIGURES") 301, val := Value.int 13 300 }, { hash := PyData.keyHash P (Str.ofString "shown"), key := Value.str (Str.ofString "shown") 307, val := Value.ref 87 }, { hash := PyData.keyHash P (Str.ofString "number_of"), key := Value.str (Str.ofString "number_of") 316, val := Value.ref 94 }, { hash := PyData.keyHash P (Str.ofString "numbers_of"), key := Value.str (Str.ofString "numbers_of") 322, val := Value.ref 99 }, { hash := PyData.keyHash P (Str.ofString "plain_of"), key := Value.str (Str.ofString "plain_of") 328, val := Value.ref 104 }, { hash := PyData.keyHash P (Str.ofString "rule_of"), key := Value.str (Str.ofString "rule_of") 337, val := Value.ref 111 }, { hash := PyData.keyHash P (Str.ofString "read"), key := Value.str (Str.ofString "read") 345, val := Value.ref 118 }, { hash := PyData.keyHash P (Str.ofString "_law_cell_at"), key := Value.str (Str.ofString "_law_cell_at") 355, val := Value.ref 125 }, { hash := PyData.keyHash P (Str.ofString "_law_whole"), key := Value.str (Str.ofString "_law_whole") 362, val := Value.ref 132 }, { hash := PyData.keyHash P (Str.ofString "_law_weekdays"), key := Value.str (Str.ofString "_law_weekdays") 371, val := Value.ref 139 }, { hash := PyData.keyHash P (Str.ofString "_law_time"), key := Value.str (Str.ofString "_law_time") 378, val := Value.ref 146 }, { hash := PyData.keyHash P (Str.ofString "_law_wide_plain"), key := Value.str (Str.ofString "_law_wide_plain") 388, val := Value.ref 153 }, { hash := PyData.keyHash P (Str.ofString "_law_wide_head"), key := Value.str (Str.ofString "_law_wide_head") 394, val := Value.ref 158 }, { hash := PyData.keyHash P (Str.ofString "_law_bearing"), key := Value.str (Str.ofString "_law_bearing") 400, val := Value.ref 165 }, { hash := PyData.keyHash P (Str.ofString "_law_heads"), key := Value.str (Str.ofString "_law_heads") 408, val := Value.ref 172 }, { hash := PyData.keyHash P (Str.ofString "_law_part"), key := Value.str (Str.ofString "_law_part") 414, val := Value.ref 177 }, { hash := PyData.keyHash P (Str.ofString "_law_written"), key := Value.str (Str.ofString "_law_written") 420, val := Value.ref 182 }, { hash := PyData.keyHash P (Str.ofString "_law_between"), key := Value.str (Str.ofString "_law_between") 429, val := Value.ref 189 }, { hash := PyData.keyHash P (Str.ofString "_law_good_days"), key := Value.str (Str.ofString "_law_good_days") 435, val := Value.ref 194 }, { hash := PyData.keyHash P (Str.ofString "_law_good_plain"), key := Value.str (Str.ofString "_law_good_plain") 444, val := Value.ref 201 }, { hash := PyData.keyHash P (Str.ofString "_law_good"), key := Value.str (Str.ofString "_law_good") 452, val := Value.ref 208 }, { hash := PyData.keyHash P (Str.ofString "_law_sign_by"), key := Value.str (Str.ofString "_law_sign_by") 460, val := Value.ref 215 }, { hash := PyData.keyHash P (Str.ofString "_law_odd_line"), key := Value.str (Str.ofString "_law_odd_line") 468, val := Value.ref 222 }, { hash := PyData.keyHash P (Str.ofString "_law_number"), key := Value.str (Str.ofString "_law_number") 474, val := Value.ref 227 }, { hash := PyData.keyHash P (Str.ofString "_law_meant"), key := Value.str (Str.ofString "_law_meant") 480, val := Value.ref 232 }, { hash := PyData.keyHash P (Str.ofString "_law_rule_of"), key := Value.str (Str.ofString "_law_rule_of") 491, val := Value.ref 239 }, { hash := PyData.keyHash P (Str.ofString "_law_refused"), key := Value.str (Str.ofString "_law_refused") 500, val := Value.ref 246 }, { hash := PyData.keyHash P (Str.ofString "_law_refused_by_any"), key := Value.str (Str.ofString "_law_refused_by_any") 507, val := Value.ref 253 }, { hash := PyData.keyHash P (Str.ofString "_law_line"), key := Value.str (Str.ofString "_law_line") 513, val := Value.ref 258 }, { hash := PyData.keyHash P (Str.ofString "law"), key := Value.str (Str.ofString "law") 524, val := Value.ref 265 }] 54 }), (24, { cls := Value.type "type", data := Data.cls { name := Str.ofString "HourError", bases := [Value.type "ValueError"], mro := [Value.ref 24, Value.type "ValueError", Value.type "Exception", Value.type "BaseException", Value.type "object"], ns := 23, qualname := Str.ofString "HourError", subclasses := [Value.ref 37] }, slots := #[Option.some (Value.ref 15), Option.none, Option.some (Value.str (Str.ofString "HourError") 189), Option.some (Value.str (Str.ofString "HourError") 197), Option.some (Value.builtin "ValueError.__new__"), Option.some (Value.bool Bool.true)] }), (23, { cls := Value.type "dict", data := Data.dict #[{ hash := PyData.keyHash P (Str.ofString "__module__"), key := Value.str (Str.ofString "__module__") 196, val := Value.str (Str.ofString "freehour.errors") 187 }, { hash := PyData.keyHash P (Str.ofString "__firstlineno__"), key := Value.str (Str.ofString "__firstlineno__") 200, val := Value.int 2 199 }, { hash := PyData.keyHash P (Str.ofString "__static_attributes__"), key := Value.str (Str.ofString "__static_attributes__") 201, val := Value.ref 22 }, { hash := PyData.keyHash P (Str.ofString "__weakref__"), key := Value.str (Str.ofString "__weakref__") 203, val := Value.ref 25 }, { hash := PyData.keyHash P (Str.ofString "__doc__"), key := Value.str (Str.ofString "__doc__") 204, val := Value.none }] 3 }), (37, { cls := Value.type "type", data := Data.cls { name := Str.ofString "NoRule", bases := [Value.ref 24], mro := [Value.ref 37, Value.ref 24, Value.type "ValueError", Value.type "Exception", Value.type "BaseException", Value.type "object"], ns := 36, qualname := Str.ofString "NoRule" }, slots := #[Option.some (Value.ref 28), Option.none, Option.some (Value.str (Str.ofString "NoRule") 207), Option.some (Value.str (Str.ofString "NoRule") 215), Option.some (Value.builtin "ValueError.__new__"), Option.some (Value.bool Bool.true)] }), (36, { cls := Value.type "dict", data := Data.dict #[{ hash := PyData.keyHash P (Str.ofString "__module__"), key := Value.str (Str.ofString "__module__") 214, val := Value.str (Str.ofString "freehour.errors") 187 }, { hash := PyData.keyHash P (Str.ofString "__firstlineno__"), key := Value.str (Str.ofString "__firstlineno__") 218, val := Value.int 4 217 }, { hash := PyData.keyHash P (Str.ofString "__static_attributes__"), key := Value.str (Str.ofString "__static_attributes__") 219, val := Value.ref 35 }, { hash := PyData.keyHash P (Str.ofString "__doc__"), key := Value.str (Str.ofString "__doc__") 220, val := Value.none }] 2 }), (47, { cls := Value.type "tuple", data := Data.seq #[Value.str (Str.ofString "from") 248, Value.str (Str.ofString "until") 249, Value.str (Str.ofString "also") 250, Value.str (Str.ofString "but") 251] })]
noncomputable def X07 : List (Str × List Str × Addr) := [("HourError", ["HourError", "ValueError"], 24), ("NoRule", ["NoRule", "HourError", "ValueError"], 37)]
noncomputable def H07 : Hook := kHook K07 [3, 24, 23, 37, 36, 47] (fun _ => rfl)
noncomputable def V07 : Program := viewOf Challenge.pw_uf010016_07
end Mine
namespace Mine
set_option maxRecDepth 100000
theorem hl07 : LeftO (RowW.prog (OpenRow.toRowW Challenge.rw_uf010016_07.row)) V07 [Str.ofString "TIMES", Str.ofString "DAYS"] (fun s => xlAt V07 [(Str.ofString "TIMES", .int 1000000000000), (Str.ofString "DAYS", .int 100000000000)] s && recOk (RowW.records (OpenRow.toRowW Challenge.rw_uf010016_07.row)) s) (Hook.obs H07) (Hook.val H07) 3234 := by intro w; kernel_rfl
theorem ck07_is_whole : checkFn G07 V07 "is_whole" = some f_is_whole := by kernel_rfl
theorem ck07_is_between : checkFn G07 V07 "is_between" = some f_is_between := by kernel_rfl
theorem ck07_is_time : checkFn G07 V07 "is_time" = some f_is_time := by kernel_rfl
theorem ck07_are_rising : checkFn G07 V07 "are_rising" = some f_are_rising := by kernel_rfl
theorem ck07_is_plain : checkFn G07 V07 "is_plain" = some f_is_plain := by kernel_rfl
theorem ck07_is_rule : checkFn G07 V07 "is_rule" = some f_is_rule := by kernel_rfl
theorem ck07_law_whole : checkFn G07 V07 "_law_whole" = some f_l_whole := by kernel_rfl
theorem ck07_law_between : checkFn G07 V07 "_law_between" = some f_l_between := by kernel_rfl
theorem ck07_law_good_days : checkFn G07 V07 "_law_good_days" = some f_l_good_days := by kernel_rfl
theorem ck07_law_good_plain : checkFn G07 V07 "_law_good_plain" = some f_l_good_plain := by kernel_rfl
theorem ck07_law_good : checkFn G07 V07 "_law_good" = some f_l_good := by kernel_rfl
theorem ck07_shown : checkFn G07 V07 "shown" = some f_shown := by kernel_rfl
theorem ck07_number_of : checkFn G07 V07 "number_of" = some f_number_of := by kernel_rfl
theorem ck07_numbers_of : checkFn G07 V07 "numbers_of" = some f_numbers_of := by kernel_rfl
theorem ck07_plain_of : checkFn G07 V07 "plain_of" = some f_plain_of := by kernel_rfl
theorem ck07_rule_of : checkFn G07 V07 "rule_of" = some f_rule_of := by kernel_rfl
theorem ck07_read : checkFn G07 V07 "read" = some f_read := by kernel_rfl
theorem ck07_law_cell_at : checkFn G07 V07 "_law_cell_at" = some f_l_cell_at := by kernel_rfl
theorem ck07_law_weekdays : checkFn G07 V07 "_law_weekdays" = some f_l_weekdays := by kernel_rfl
theorem ck07_law_time : checkFn G07 V07 "_law_time" = some f_l_time := by kernel_rfl
theorem ck07_law_wide_plain : checkFn G07 V07 "_law_wide_plain" = some f_l_wide_plain := by kernel_rfl
theorem ck07_law_wide_head : checkFn G07 V07 "_law_wide_head" = some f_l_wide_head := by kernel_rfl
theorem ck07_law_bearing : checkFn G07 V07 "_law_bearing" = some f_l_bearing := by kernel_rfl
theorem ck07_law_heads : checkFn G07 V07 "_law_heads" = some f_l_heads := by kernel_rfl
theorem ck07_law_part : checkFn G07 V07 "_law_part" = some f_l_part := by kernel_rfl
theorem ck07_law_written : checkFn G07 V07 "_law_written" = some f_l_written := by kernel_rfl
theorem ck07_law_sign_by : checkFn G07 V07 "_law_sign_by" = some f_l_sign_by := by kernel_rfl
theorem ck07_law_odd_line : checkFn G07 V07 "_law_odd_line" = some f_l_odd_line := by kernel_rfl
theorem ck07_law_number : checkFn G07 V07 "_law_number" = some f_l_number := by kernel_rfl
theorem ck07_law_meant : checkFn G07 V07 "_law_meant" = some f_l_meant := by kernel_rfl
theorem ck07_law_rule_of : checkFn G07 V07 "_law_rule_of" = some f_l_rule_of := by kernel_rfl
theorem ck07_law_refused : checkFn G07 V07 "_law_refused" = some f_l_refused := by kernel_rfl
theorem ck07_law_refused_by_any : checkFn G07 V07 "_law_refused_by_any" = some f_l_refused_by_any := by kernel_rfl
theorem ck07_law_line : checkFn G07 V07 "_law_line" = some f_l_line := by kernel_rfl
theorem ck07_law : checkFn G07 V07 "law" = some f_lawF := by kernel_rfl
end Mine
set_option maxRecDepth 100000 in
set_option maxHeartbeats 8000000 in
theorem PySem.Challenge.cw_uf010016_07_holds : PySem.Challenge.rw_uf010016_07.Holds := by
  w_on
  refine holds_law (by kernel_rfl) fun said => ?_
  refine holds_open (q := V07) (loose := [Str.ofString "TIMES", Str.ofString "DAYS"]) (Xt := fun s => xlAt V07 [(Str.ofString "TIMES", .int 1000000000000), (Str.ofString "DAYS", .int 100000000000)] s && recOk (RowW.records (OpenRow.toRowW Challenge.rw_uf010016_07.row)) s) (XP := XL V07 [(Str.ofString "TIMES", .int 1000000000000), (Str.ofString "DAYS", .int 100000000000)]) (Yf := Hook.obs H07) (Ya := Hook.val H07) (YP := Hook.says H07) (N := 3234) ?hl (Hook.of H07) (Hook.keeps H07) (fun s e => xl_of s (Bool.and_eq_true_iff.mp e).1) XL.keeps (by rfl) (by rfl) (by rfl) (fun s e => recFacts_of (Bool.and_eq_true_iff.mp e).2) (by rfl) (by first | assumption | decide +kernel) (by decide +kernel) ⟨rfl, rfl, rfl, rfl, rfl, by decide +kernel⟩ ?hw ?hc
  case hl => exact hl07
  case hw => w_witness2
  intro w s₀ s₁ mg mb G Y fa o pm cd doc dV kV ho hd hcd hD hmg hg args vals as hpre hlay hrd hwl hlo
  have KX := kIn_of Y
  refine Ground.open G ?_
  intro T B D TE TW
  wrow_args hpre hlay hrd hwl hlo
  have GA : GAll ⟨Challenge.rw_uf010016_07.row.prog, w, s₁.heap, mg, mb, exOf X07, []⟩ G07 := by
    refine ⟨gv_int (mg_of (v := .int 1000000000000 236) KX T.g (by kernel_rfl)), ?_⟩
    refine ⟨gv_int (mg_of (v := .int 100000000000 240) KX T.g (by kernel_rfl)), ?_⟩
    refine ⟨gv_int (mg_of (v := .int 48 242) KX T.g (by kernel_rfl)), ?_⟩
    refine ⟨gv_int (mg_of (v := .int 1000000 244) KX T.g (by kernel_rfl)), ?_⟩
    refine ⟨gv_int (mg_of (v := .int 8 246) KX T.g (by kernel_rfl)), ?_⟩
    refine ⟨gv_tup (vs := [Value.str (Str.ofString "from") 248, Value.str (Str.ofString "until") 249, Value.str (Str.ofString "also") 250, Value.str (Str.ofString "but") 251]) (n := 0) (mg_of (v := .ref 47) KX T.g (by kernel_rfl)) (KX _ _ (by kernel_rfl)) (by decide) (fun _ => (reps_str ⟨by decide +kernel, by decide +kernel⟩ (reps_str ⟨by decide +kernel, by decide +kernel⟩ (reps_str ⟨by decide +kernel, by decide +kernel⟩ (reps_str ⟨by decide +kernel, by decide +kernel⟩ reps_nil))))), ?_⟩
    refine ⟨gv_str (mg_of (v := .str (Str.ofString "0123456789") 298) KX T.g (by kernel_rfl)) ⟨by decide +kernel, by decide +kernel⟩, ?_⟩
    refine ⟨gv_int (mg_of (v := .int 13 300) KX T.g (by kernel_rfl)), ?_⟩
    refine ⟨gv_bi (ns_none_of KX T.g (by kernel_rfl)) ((T.builtins _ (by decide)).trans rfl), ?_⟩
    refine ⟨gv_bi (ns_none_of KX T.g (by kernel_rfl)) ((T.builtins _ (by decide)).trans rfl), ?_⟩
    refine ⟨gv_bi (ns_none_of KX T.g (by kernel_rfl)) ((T.builtins _ (by decide)).trans rfl), ?_⟩
    refine ⟨gv_bi (ns_none_of KX T.g (by kernel_rfl)) ((T.builtins _ (by decide)).trans rfl), ?_⟩
    refine ⟨gv_ty (ns_none_of KX T.g (by kernel_rfl)) ((T.builtins _ (by decide)).trans rfl), ?_⟩
    refine ⟨gv_ty (ns_none_of KX T.g (by kernel_rfl)) ((T.builtins _ (by decide)).trans rfl), ?_⟩
    refine ⟨gv_ty (ns_none_of KX T.g (by kernel_rfl)) ((T.builtins _ (by decide)).trans rfl), ?_⟩
    refine ⟨gv_ty (ns_none_of KX T.g (by kernel_rfl)) ((T.builtins _ (by decide)).trans rfl), ?_⟩
    refine ⟨gv_ty (ns_none_of KX T.g (by kernel_rfl)) ((T.builtins _ (by decide)).trans rfl), ?_⟩
    refine ⟨gv_ty (ns_none_of KX T.g (by kernel_rfl)) ((T.builtins _ (by decide)).trans rfl), ?_⟩
    refine ⟨gv_ty (ns_none_of KX T.g (by kernel_rfl)) ((T.builtins _ (by decide)).trans rfl), ?_⟩
    refine ⟨gv_ty (ns_none_of KX T.g (by kernel_rfl)) ((T.builtins _ (by decide)).trans rfl), ?_⟩
    refine ⟨gv_ty (ns_none_of KX T.g (by kernel_rfl)) ((T.builtins _ (by decide)).trans rfl), ?_⟩
    refine ⟨gv_cls (mg_of (v := .ref 24) KX T.g (by kernel_rfl)), ?_⟩
    refine ⟨gv_cls (mg_of (v := .ref 37) KX T.g (by kernel_rfl)), ?_⟩
    refine ⟨gv_fn (mg_of (v := .ref 46) KX T.g (by kernel_rfl)), ?_⟩
    refine ⟨gv_fn (mg_of (v := .ref 54) KX T.g (by kernel_rfl)), ?_⟩
    refine ⟨gv_fn (mg_of (v := .ref 61) KX T.g (by kernel_rfl)), ?_⟩
    refine ⟨gv_fn (mg_of (v := .ref 68) KX T.g (by kernel_rfl)), ?_⟩
    refine ⟨gv_fn (mg_of (v := .ref 75) KX T.g (by kernel_rfl)), ?_⟩
    refine ⟨gv_fn (mg_of (v := .ref 82) KX T.g (by kernel_rfl)), ?_⟩
    refine ⟨gv_fn (mg_of (v := .ref 132) KX T.g (by kernel_rfl)), ?_⟩
    refine ⟨gv_fn (mg_of (v := .ref 189) KX T.g (by kernel_rfl)), ?_⟩
    refine ⟨gv_fn (mg_of (v := .ref 194) KX T.g (by kernel_rfl)), ?_⟩
    refine ⟨gv_fn (mg_of (v := .ref 201) KX T.g (by kernel_rfl)), ?_⟩
    refine ⟨gv_fn (mg_of (v := .ref 208) KX T.g (by kernel_rfl)), ?_⟩
    refine ⟨gv_fn (mg_of (v := .ref 87) KX T.g (by kernel_rfl)), ?_⟩
    refine ⟨gv_fn (mg_of (v := .ref 94) KX T.g (by kernel_rfl)), ?_⟩
    refine ⟨gv_fn (mg_of (v := .ref 99) KX T.g (by kernel_rfl)), ?_⟩
    refine ⟨gv_fn (mg_of (v := .ref 104) KX T.g (by kernel_rfl)), ?_⟩
    refine ⟨gv_fn (mg_of (v := .ref 111) KX T.g (by kernel_rfl)), ?_⟩
    refine ⟨gv_fn (mg_of (v := .ref 118) KX T.g (by kernel_rfl)), ?_⟩
    refine ⟨gv_fn (mg_of (v := .ref 125) KX T.g (by kernel_rfl)), ?_⟩
    refine ⟨gv_fn (mg_of (v := .ref 139) KX T.g (by kernel_rfl)), ?_⟩
    refine ⟨gv_fn (mg_of (v := .ref 146) KX T.g (by kernel_rfl)), ?_⟩
    refine ⟨gv_fn (mg_of (v := .ref 153) KX T.g (by kernel_rfl)), ?_⟩
    refine ⟨gv_fn (mg_of (v := .ref 158) KX T.g (by kernel_rfl)), ?_⟩
    refine ⟨gv_fn (mg_of (v := .ref 165) KX T.g (by kernel_rfl)), ?_⟩
    refine ⟨gv_fn (mg_of (v := .ref 172) KX T.g (by kernel_rfl)), ?_⟩
    refine ⟨gv_fn (mg_of (v := .ref 177) KX T.g (by kernel_rfl)), ?_⟩
    refine ⟨gv_fn (mg_of (v := .ref 182) KX T.g (by kernel_rfl)), ?_⟩
    refine ⟨gv_fn (mg_of (v := .ref 215) KX T.g (by kernel_rfl)), ?_⟩
    refine ⟨gv_fn (mg_of (v := .ref 222) KX T.g (by kernel_rfl)), ?_⟩
    refine ⟨gv_fn (mg_of (v := .ref 227) KX T.g (by kernel_rfl)), ?_⟩
    refine ⟨gv_fn (mg_of (v := .ref 232) KX T.g (by kernel_rfl)), ?_⟩
    refine ⟨gv_fn (mg_of (v := .ref 239) KX T.g (by kernel_rfl)), ?_⟩
    refine ⟨gv_fn (mg_of (v := .ref 246) KX T.g (by kernel_rfl)), ?_⟩
    refine ⟨gv_fn (mg_of (v := .ref 253) KX T.g (by kernel_rfl)), ?_⟩
    refine ⟨gv_fn (mg_of (v := .ref 258) KX T.g (by kernel_rfl)), ?_⟩
    exact trivial
  have g : GOk ⟨Challenge.rw_uf010016_07.row.prog, w, s₁.heap, mg, mb, exOf X07, []⟩ G07 := gok (tab := X07) T GA KX rfl (by kernel_rfl) (by kernel_rfl)
  have o1 : OrcOk ⟨Challenge.rw_uf010016_07.row.prog, w, s₁.heap, mg, mb, exOf X07, []⟩ 1 E1 := ext_ok g noΦ_ok (fnOk_of_top T (x := "is_whole") (f := f_is_whole) ck07_is_whole) w_is_whole
  have o2 : OrcOk ⟨Challenge.rw_uf010016_07.row.prog, w, s₁.heap, mg, mb, exOf X07, []⟩ 2 E2 := ext_ok g o1 (fnOk_of_top T (x := "is_between") (f := f_is_between) ck07_is_between) w_is_between
  have o3 : OrcOk ⟨Challenge.rw_uf010016_07.row.prog, w, s₁.heap, mg, mb, exOf X07, []⟩ 3 E3 := ext_ok g o2 (fnOk_of_top T (x := "is_time") (f := f_is_time) ck07_is_time) w_is_time
  have o4 : OrcOk ⟨Challenge.rw_uf010016_07.row.prog, w, s₁.heap, mg, mb, exOf X07, []⟩ 4 E4 := ext_ok g o3 (fnOk_of_top T (x := "are_rising") (f := f_are_rising) ck07_are_rising) w_are_rising
  have o5 : OrcOk ⟨Challenge.rw_uf010016_07.row.prog, w, s₁.heap, mg, mb, exOf X07, []⟩ 5 E5 := ext_ok g o4 (fnOk_of_top T (x := "is_plain") (f := f_is_plain) ck07_is_plain) w_is_plain
  have o6 : OrcOk ⟨Challenge.rw_uf010016_07.row.prog, w, s₁.heap, mg, mb, exOf X07, []⟩ 6 E6 := ext_ok g o5 (fnOk_of_top T (x := "is_rule") (f := f_is_rule) ck07_is_rule) w_is_rule
  have o7 : OrcOk ⟨Challenge.rw_uf010016_07.row.prog, w, s₁.heap, mg, mb, exOf X07, []⟩ 7 E7 := ext_ok g o6 (fnOk_of_top T (x := "_law_whole") (f := f_l_whole) ck07_law_whole) w_whole5
  have o8 : OrcOk ⟨Challenge.rw_uf010016_07.row.prog, w, s₁.heap, mg, mb, exOf X07, []⟩ 8 E8 := ext_ok g o7 (fnOk_of_top T (x := "_law_between") (f := f_l_between) ck07_law_between) w_between5
  have o9 : OrcOk ⟨Challenge.rw_uf010016_07.row.prog, w, s₁.heap, mg, mb, exOf X07, []⟩ 9 E9 := ext_ok g o8 (fnOk_of_top T (x := "_law_good_days") (f := f_l_good_days) ck07_law_good_days) w_good_days
  have o10 : OrcOk ⟨Challenge.rw_uf010016_07.row.prog, w, s₁.heap, mg, mb, exOf X07, []⟩ 10 Ea := ext_ok g o9 (fnOk_of_top T (x := "_law_good_plain") (f := f_l_good_plain) ck07_law_good_plain) w_good_plain
  have o11 : OrcOk ⟨Challenge.rw_uf010016_07.row.prog, w, s₁.heap, mg, mb, exOf X07, []⟩ 11 Eb := ext_ok g o10 (fnOk_of_top T (x := "_law_good") (f := f_l_good) ck07_law_good) w_good
  have F_shown : FnOk ⟨Challenge.rw_uf010016_07.row.prog, w, s₁.heap, mg, mb, exOf X07, []⟩ G07 "shown" f_shown := fnOk_of_top T ck07_shown
  have o12 : OrcOk ⟨Challenge.rw_uf010016_07.row.prog, w, s₁.heap, mg, mb, exOf X07, []⟩ 12 (SH 1) := ext_ok (n := "shown") (C := (C_sh 0)) g o11 F_shown (w_shown 0)
  have o13 : OrcOk ⟨Challenge.rw_uf010016_07.row.prog, w, s₁.heap, mg, mb, exOf X07, []⟩ 13 (SH 2) := ext_ok (n := "shown") (C := (C_sh 1)) g o12 F_shown (w_shown 1)
  have o14 : OrcOk ⟨Challenge.rw_uf010016_07.row.prog, w, s₁.heap, mg, mb, exOf X07, []⟩ 14 (SH 3) := ext_ok (n := "shown") (C := (C_sh 2)) g o13 F_shown (w_shown 2)
  have o15 : OrcOk ⟨Challenge.rw_uf010016_07.row.prog, w, s₁.heap, mg, mb, exOf X07, []⟩ 15 (SH 4) := ext_ok (n := "shown") (C := (C_sh 3)) g o14 F_shown (w_shown 3)
  have o16 : OrcOk ⟨Challenge.rw_uf010016_07.row.prog, w, s₁.heap, mg, mb, exOf X07, []⟩ 16 (SH 5) := ext_ok (n := "shown") (C := (C_sh 4)) g o15 F_shown (w_shown 4)
  have o17 : OrcOk ⟨Challenge.rw_uf010016_07.row.prog, w, s₁.heap, mg, mb, exOf X07, []⟩ 17 (SH 6) := ext_ok (n := "shown") (C := (C_sh 5)) g o16 F_shown (w_shown 5)
  have o18 : OrcOk ⟨Challenge.rw_uf010016_07.row.prog, w, s₁.heap, mg, mb, exOf X07, []⟩ 18 (SH 7) := ext_ok (n := "shown") (C := (C_sh 6)) g o17 F_shown (w_shown 6)
  have o19 : OrcOk ⟨Challenge.rw_uf010016_07.row.prog, w, s₁.heap, mg, mb, exOf X07, []⟩ 19 (SH 8) := ext_ok (n := "shown") (C := (C_sh 7)) g o18 F_shown (w_shown 7)
  have o20 : OrcOk ⟨Challenge.rw_uf010016_07.row.prog, w, s₁.heap, mg, mb, exOf X07, []⟩ 20 (SH 9) := ext_ok (n := "shown") (C := (C_sh 8)) g o19 F_shown (w_shown 8)
  have o21 : OrcOk ⟨Challenge.rw_uf010016_07.row.prog, w, s₁.heap, mg, mb, exOf X07, []⟩ 21 N1 := ext_ok g o20 (fnOk_of_top T (x := "number_of") (f := f_number_of) ck07_number_of) w_number_of
  have o22 : OrcOk ⟨Challenge.rw_uf010016_07.row.prog, w, s₁.heap, mg, mb, exOf X07, []⟩ 22 N2 := ext_ok g o21 (fnOk_of_top T (x := "numbers_of") (f := f_numbers_of) ck07_numbers_of) w_numbers_of
  have o23 : OrcOk ⟨Challenge.rw_uf010016_07.row.prog, w, s₁.heap, mg, mb, exOf X07, []⟩ 23 N3 := ext_ok g o22 (fnOk_of_top T (x := "plain_of") (f := f_plain_of) ck07_plain_of) w_plain_of
  have F_rule_of : FnOk ⟨Challenge.rw_uf010016_07.row.prog, w, s₁.heap, mg, mb, exOf X07, []⟩ G07 "rule_of" f_rule_of := fnOk_of_top T ck07_rule_of
  have o24 : OrcOk ⟨Challenge.rw_uf010016_07.row.prog, w, s₁.heap, mg, mb, exOf X07, []⟩ 24 (RO 1) := ext_ok (n := "rule_of") (C := (C_ro 0)) g o23 F_rule_of (w_rule_of 0)
  have o25 : OrcOk ⟨Challenge.rw_uf010016_07.row.prog, w, s₁.heap, mg, mb, exOf X07, []⟩ 25 (RO 2) := ext_ok (n := "rule_of") (C := (C_ro 1)) g o24 F_rule_of (w_rule_of 1)
  have o26 : OrcOk ⟨Challenge.rw_uf010016_07.row.prog, w, s₁.heap, mg, mb, exOf X07, []⟩ 26 (RO 3) := ext_ok (n := "rule_of") (C := (C_ro 2)) g o25 F_rule_of (w_rule_of 2)
  have o27 : OrcOk ⟨Challenge.rw_uf010016_07.row.prog, w, s₁.heap, mg, mb, exOf X07, []⟩ 27 (RO 4) := ext_ok (n := "rule_of") (C := (C_ro 3)) g o26 F_rule_of (w_rule_of 3)
  have o28 : OrcOk ⟨Challenge.rw_uf010016_07.row.prog, w, s₁.heap, mg, mb, exOf X07, []⟩ 28 (RO 5) := ext_ok (n := "rule_of") (C := (C_ro 4)) g o27 F_rule_of (w_rule_of 4)
  have o29 : OrcOk ⟨Challenge.rw_uf010016_07.row.prog, w, s₁.heap, mg, mb, exOf X07, []⟩ 29 (RO 6) := ext_ok (n := "rule_of") (C := (C_ro 5)) g o28 F_rule_of (w_rule_of 5)
  have o30 : OrcOk ⟨Challenge.rw_uf010016_07.row.prog, w, s₁.heap, mg, mb, exOf X07, []⟩ 30 (RO 7) := ext_ok (n := "rule_of") (C := (C_ro 6)) g o29 F_rule_of (w_rule_of 6)
  have o31 : OrcOk ⟨Challenge.rw_uf010016_07.row.prog, w, s₁.heap, mg, mb, exOf X07, []⟩ 31 (RO 8) := ext_ok (n := "rule_of") (C := (C_ro 7)) g o30 F_rule_of (w_rule_of 7)
  have o32 : OrcOk ⟨Challenge.rw_uf010016_07.row.prog, w, s₁.heap, mg, mb, exOf X07, []⟩ 32 (RO 9) := ext_ok (n := "rule_of") (C := (C_ro 8)) g o31 F_rule_of (w_rule_of 8)
  have o33 : OrcOk ⟨Challenge.rw_uf010016_07.row.prog, w, s₁.heap, mg, mb, exOf X07, []⟩ 33 N5 := ext_ok g o32 (fnOk_of_top T (x := "read") (f := f_read) ck07_read) w_read
  have o34 : OrcOk ⟨Challenge.rw_uf010016_07.row.prog, w, s₁.heap, mg, mb, exOf X07, []⟩ 34 O1 := ext_ok g o33 (fnOk_of_top T (x := "_law_cell_at") (f := f_l_cell_at) ck07_law_cell_at) w_cell_at
  have o35 : OrcOk ⟨Challenge.rw_uf010016_07.row.prog, w, s₁.heap, mg, mb, exOf X07, []⟩ 35 O2 := ext_ok g o34 (fnOk_of_top T (x := "_law_weekdays") (f := f_l_weekdays) ck07_law_weekdays) w_weekdays
  have o36 : OrcOk ⟨Challenge.rw_uf010016_07.row.prog, w, s₁.heap, mg, mb, exOf X07, []⟩ 36 O3 := ext_ok g o35 (fnOk_of_top T (x := "_law_time") (f := f_l_time) ck07_law_time) w_time
  have o37 : OrcOk ⟨Challenge.rw_uf010016_07.row.prog, w, s₁.heap, mg, mb, exOf X07, []⟩ 37 O4 := ext_ok g o36 (fnOk_of_top T (x := "_law_wide_plain") (f := f_l_wide_plain) ck07_law_wide_plain) w_wide_plain
  have o38 : OrcOk ⟨Challenge.rw_uf010016_07.row.prog, w, s₁.heap, mg, mb, exOf X07, []⟩ 38 O5 := ext_ok g o37 (fnOk_of_top T (x := "_law_wide_head") (f := f_l_wide_head) ck07_law_wide_head) w_wide_head
  have o39 : OrcOk ⟨Challenge.rw_uf010016_07.row.prog, w, s₁.heap, mg, mb, exOf X07, []⟩ 39 O6 := ext_ok g o38 (fnOk_of_top T (x := "_law_bearing") (f := f_l_bearing) ck07_law_bearing) w_bearing
  have o40 : OrcOk ⟨Challenge.rw_uf010016_07.row.prog, w, s₁.heap, mg, mb, exOf X07, []⟩ 40 O7 := ext_ok g o39 (fnOk_of_top T (x := "_law_heads") (f := f_l_heads) ck07_law_heads) w_heads
  have o41 : OrcOk ⟨Challenge.rw_uf010016_07.row.prog, w, s₁.heap, mg, mb, exOf X07, []⟩ 41 O8 := ext_ok g o40 (fnOk_of_top T (x := "_law_part") (f := f_l_part) ck07_law_part) w_part
  have o42 : OrcOk ⟨Challenge.rw_uf010016_07.row.prog, w, s₁.heap, mg, mb, exOf X07, []⟩ 42 O9 := ext_ok g o41 (fnOk_of_top T (x := "_law_written") (f := f_l_written) ck07_law_written) w_written
  have o43 : OrcOk ⟨Challenge.rw_uf010016_07.row.prog, w, s₁.heap, mg, mb, exOf X07, []⟩ 43 Oa := ext_ok g o42 (fnOk_of_top T (x := "_law_sign_by") (f := f_l_sign_by) ck07_law_sign_by) w_sign_by
  have o44 : OrcOk ⟨Challenge.rw_uf010016_07.row.prog, w, s₁.heap, mg, mb, exOf X07, []⟩ 44 Ob := ext_ok g o43 (fnOk_of_top T (x := "_law_odd_line") (f := f_l_odd_line) ck07_law_odd_line) w_odd_line
  have o45 : OrcOk ⟨Challenge.rw_uf010016_07.row.prog, w, s₁.heap, mg, mb, exOf X07, []⟩ 45 Oc := ext_ok g o44 (fnOk_of_top T (x := "_law_number") (f := f_l_number) ck07_law_number) w_l_number
  have o46 : OrcOk ⟨Challenge.rw_uf010016_07.row.prog, w, s₁.heap, mg, mb, exOf X07, []⟩ 46 Od := ext_ok g o45 (fnOk_of_top T (x := "_law_meant") (f := f_l_meant) ck07_law_meant) w_meant
  have o47 : OrcOk ⟨Challenge.rw_uf010016_07.row.prog, w, s₁.heap, mg, mb, exOf X07, []⟩ 47 Oe := ext_ok g o46 (fnOk_of_top T (x := "_law_rule_of") (f := f_l_rule_of) ck07_law_rule_of) w_l_rule_of
  have o48 : OrcOk ⟨Challenge.rw_uf010016_07.row.prog, w, s₁.heap, mg, mb, exOf X07, []⟩ 48 Of := ext_ok g o47 (fnOk_of_top T (x := "_law_refused") (f := f_l_refused) ck07_law_refused) w_refused
  have o49 : OrcOk ⟨Challenge.rw_uf010016_07.row.prog, w, s₁.heap, mg, mb, exOf X07, []⟩ 49 Og := ext_ok g o48 (fnOk_of_top T (x := "_law_refused_by_any") (f := f_l_refused_by_any) ck07_law_refused_by_any) w_refused_any
  have o50 : OrcOk ⟨Challenge.rw_uf010016_07.row.prog, w, s₁.heap, mg, mb, exOf X07, []⟩ 50 Oh := ext_ok g o49 (fnOk_of_top T (x := "_law_line") (f := f_l_line) ck07_law_line) w_line
  have o51 : OrcOk ⟨Challenge.rw_uf010016_07.row.prog, w, s₁.heap, mg, mb, exOf X07, []⟩ 51 ΦL07 := ext_ok g o50 (fnOk_of_top T (x := "law") (f := f_lawF) ck07_law) w_lawF
  exact law_top o51 (caller_ok (by decide) rfl) hmg ⟨_, rfl, fun _ _ => rfl⟩ (by assumption) (by assumption) (by omega) hg (fun _ => rfl) (by first | rfl | wrow_post)
