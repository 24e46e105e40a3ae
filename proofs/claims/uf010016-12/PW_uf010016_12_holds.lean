import PyProof.Rows.All
import Wide.All
import OpenK.AllK
import Wide.FinOn
import PySem.Eval
import PyProof.P3Statements
import PyProof.ReprReads
import PyProof.StrBlockL
import PyProof.StrBlock2
import KE.IntText
import PyProof.Cells
import PyProof.Seq
import PyProof.InstStore
import PyProof.DictCompW
import PyProof.Rows.Nodes
import PyProof.Rows.Chain
import PyProof.Rows.TupSub
import PyProof.Rows.StrTemp
import PyProof.CallRoads
import PyProof.SliceSyntax
import PyProof.InstLoad
import PyProof.InstStoreFacts
import PyProof.ObjNew
import PyProof.Rows.Exc
import PyProof.Rows.Own
import PyProof.RaisesMany
import PyProof.ExcBaseAll.ValueError
import PyProof.StrOps
import PyProof.Rows.StrItems
import PyProof.Rows.RuleB_small
import PyProof.Rows.RuleB_floordiv
import PyProof.Rows.RuleB_mod
import PyProof.Rows.RuleB_mul
import PyProof.Rows.RuleU_int
import PyProof.Rows.RuleN_isinstance
import PyProof.Rows.IntRules
import PyProof.Rows.StrRules
import PyProof.Rows.TupMore
import PyProof.Rows.Lst
import PyProof.ListOps
import PyProof.TupleOps
import PyProof.TupleIter
import PyProof.ListIndexNeg
import PyProof.DictRoads
import PyProof.DictKinds
import PyProof.ListTruth
import PyProof.Truth
import PyProof.Rows.FactsC_int_ge
import PyProof.Rows.FactsC_int_le
import PyProof.Rows.ListMulCarried
import PyProof.StrOps2
import PyProof.NeData
import PyProof.EqAt
import PyProof.ConsumeWalk
import PyProof.TupleOfSeq
import PyProof.WalkInts
import PyProof.ListCopy
import PyProof.Conv_int_bool
import PyProof.PlainList
import PyProof.Rows.RuleC_int
import PyProof.IsRules
import PyProof.Rows.RuleIs
import PyProof.Rules3
import PyProof.P3In
import PyProof.SeqI3
import PyProof.CallFns
import PyProof.IsiPairs
import PyProof.IsiHeapPairs
import PyProof.IsiNone
import PyProof.Rows.CountFlat
import PyProof.ReprRoads
import PyProof.Rows.SeqJoint
import KE.KFind
import PyProof.ForAppend
import PyProof.Rows.AttrNodeAny
import PyProof.SliceList
import KE.KSliceW
import PyProof.RangeFor
import PyProof.CompFree
import KE.KRevIter
import PyProof.StationsW
import PyProof.Rows.Catch
import OpenK.KCall
import KE.KPairComp
import PyProof.DictTable
import PyProof.ExcArgsOwn
import PyProof.ExcFactsAll.ValueError
import KE.KItem
import PyProof.AssignAttr
import PyProof.RulesAs
import PyProof.NsDelKeeps
import PyProof.IsInstance
import PyProof.Rows.PlainObj
import OpenK.KLine
import PyProof.Rows.Top
import PyProof.Rows.PlainEq
import PyProof.Rows.TupIn
import Wide.BridgeG
import OpenK.KOwn
import PyProof.ReprLen
import PySem.Challenge.RW_uf010016_12
set_option Elab.async false
set_option linter.unusedVariables false
set_option linter.unusedSimpArgs false
set_option maxRecDepth 20000
set_option autoImplicit false
namespace Mine
theorem j4  {P0 P1:Prop}{R:Prop}(h:P0∧P1)(k:P0→P1→R):R:=by obtain ⟨h0,h1⟩:=h;exact k h0 h1
theorem R8  {P0 P1 P2:Prop}{R:Prop}(h:P0∧P1∧P2)(k:P0→P1→P2→R):R:=by obtain ⟨h0,h1,h2⟩:=h;exact k h0 h1 h2
theorem a95  {P0 P1 P2 P3:Prop}{R:Prop}(h:P0∧P1∧P2∧P3)(k:P0→P1→P2→P3→R):R:=by obtain ⟨h0,h1,h2,h3⟩:=h;exact k h0 h1 h2 h3
theorem e1_1.{u0} {α0:Sort u0}{P0:α0→Prop}{R:Prop}(h:∃ x0,P0 x0)(k:∀ x0,P0 x0→R):R:=by obtain ⟨x0,h0⟩:=h;exact k x0 h0
theorem e1_2.{u0} {α0:Sort u0}{P0 P1:α0→Prop}{R:Prop}(h:∃ x0,P0 x0∧P1 x0)(k:∀ x0,P0 x0→P1 x0→R):R:=by obtain ⟨x0,h0,h1⟩:=h;exact k x0 h0 h1
theorem e1_3.{u0} {α0:Sort u0}{P0 P1 P2:α0→Prop}{R:Prop}(h:∃ x0,P0 x0∧P1 x0∧P2 x0)(k:∀ x0,P0 x0→P1 x0→P2 x0→R):R:=by obtain ⟨x0,h0,h1,h2⟩:=h;exact k x0 h0 h1 h2
theorem e1_4.{u0} {α0:Sort u0}{P0 P1 P2 P3:α0→Prop}{R:Prop}(h:∃ x0,P0 x0∧P1 x0∧P2 x0∧P3 x0)(k:∀ x0,P0 x0→P1 x0→P2 x0→P3 x0→R):R:=by obtain ⟨x0,h0,h1,h2,h3⟩:=h;exact k x0 h0 h1 h2 h3
theorem e2_1.{u0,u1} {α0:Sort u0}{α1:Sort u1}{P0:α0→α1→Prop}{R:Prop}(h:∃ x0 x1,P0 x0 x1)(k:∀ x0 x1,P0 x0 x1→R):R:=by obtain ⟨x0,x1,h0⟩:=h;exact k x0 x1 h0
theorem e2_2.{u0,u1} {α0:Sort u0}{α1:Sort u1}{P0 P1:α0→α1→Prop}{R:Prop}(h:∃ x0 x1,P0 x0 x1∧P1 x0 x1)(k:∀ x0 x1,P0 x0 x1→P1 x0 x1→R):R:=by obtain ⟨x0,x1,h0,h1⟩:=h;exact k x0 x1 h0 h1
theorem e2_3.{u0,u1} {α0:Sort u0}{α1:Sort u1}{P0 P1 P2:α0→α1→Prop}{R:Prop}(h:∃ x0 x1,P0 x0 x1∧P1 x0 x1∧P2 x0 x1)(k:∀ x0 x1,P0 x0 x1→P1 x0 x1→P2 x0 x1→R):R:=by obtain ⟨x0,x1,h0,h1,h2⟩:=h;exact k x0 x1 h0 h1 h2
theorem e2_4.{u0,u1} {α0:Sort u0}{α1:Sort u1}{P0 P1 P2 P3:α0→α1→Prop}{R:Prop}(h:∃ x0 x1,P0 x0 x1∧P1 x0 x1∧P2 x0 x1∧P3 x0 x1)(k:∀ x0 x1,P0 x0 x1→P1 x0 x1→P2 x0 x1→P3 x0 x1→R):R:=by obtain ⟨x0,x1,h0,h1,h2,h3⟩:=h;exact k x0 x1 h0 h1 h2 h3
theorem e2_6.{u0,u1} {α0:Sort u0}{α1:Sort u1}{P0 P1 P2 P3 P4 P5:α0→α1→Prop}{R:Prop}(h:∃ x0 x1,P0 x0 x1∧P1 x0 x1∧P2 x0 x1∧P3 x0 x1∧P4 x0 x1∧P5 x0 x1)(k:∀ x0 x1,P0 x0 x1→P1 x0 x1→P2 x0 x1→P3 x0 x1→P4 x0 x1→P5 x0 x1→R):R:=by obtain ⟨x0,x1,h0,h1,h2,h3,h4,h5⟩:=h;exact k x0 x1 h0 h1 h2 h3 h4 h5
theorem e3_1.{u0,u1,u2} {α0:Sort u0}{α1:Sort u1}{α2:Sort u2}{P0:α0→α1→α2→Prop}{R:Prop}(h:∃ x0 x1 x2,P0 x0 x1 x2)(k:∀ x0 x1 x2,P0 x0 x1 x2→R):R:=by obtain ⟨x0,x1,x2,h0⟩:=h;exact k x0 x1 x2 h0
theorem e3_2.{u0,u1,u2} {α0:Sort u0}{α1:Sort u1}{α2:Sort u2}{P0 P1:α0→α1→α2→Prop}{R:Prop}(h:∃ x0 x1 x2,P0 x0 x1 x2∧P1 x0 x1 x2)(k:∀ x0 x1 x2,P0 x0 x1 x2→P1 x0 x1 x2→R):R:=by obtain ⟨x0,x1,x2,h0,h1⟩:=h;exact k x0 x1 x2 h0 h1
theorem e3_3.{u0,u1,u2} {α0:Sort u0}{α1:Sort u1}{α2:Sort u2}{P0 P1 P2:α0→α1→α2→Prop}{R:Prop}(h:∃ x0 x1 x2,P0 x0 x1 x2∧P1 x0 x1 x2∧P2 x0 x1 x2)(k:∀ x0 x1 x2,P0 x0 x1 x2→P1 x0 x1 x2→P2 x0 x1 x2→R):R:=by obtain ⟨x0,x1,x2,h0,h1,h2⟩:=h;exact k x0 x1 x2 h0 h1 h2
theorem e3_4.{u0,u1,u2} {α0:Sort u0}{α1:Sort u1}{α2:Sort u2}{P0 P1 P2 P3:α0→α1→α2→Prop}{R:Prop}(h:∃ x0 x1 x2,P0 x0 x1 x2∧P1 x0 x1 x2∧P2 x0 x1 x2∧P3 x0 x1 x2)(k:∀ x0 x1 x2,P0 x0 x1 x2→P1 x0 x1 x2→P2 x0 x1 x2→P3 x0 x1 x2→R):R:=by obtain ⟨x0,x1,x2,h0,h1,h2,h3⟩:=h;exact k x0 x1 x2 h0 h1 h2 h3
theorem e3_5.{u0,u1,u2} {α0:Sort u0}{α1:Sort u1}{α2:Sort u2}{P0 P1 P2 P3 P4:α0→α1→α2→Prop}{R:Prop}(h:∃ x0 x1 x2,P0 x0 x1 x2∧P1 x0 x1 x2∧P2 x0 x1 x2∧P3 x0 x1 x2∧P4 x0 x1 x2)(k:∀ x0 x1 x2,P0 x0 x1 x2→P1 x0 x1 x2→P2 x0 x1 x2→P3 x0 x1 x2→P4 x0 x1 x2→R):R:=by obtain ⟨x0,x1,x2,h0,h1,h2,h3,h4⟩:=h;exact k x0 x1 x2 h0 h1 h2 h3 h4
theorem e3_7.{u0,u1,u2} {α0:Sort u0}{α1:Sort u1}{α2:Sort u2}{P0 P1 P2 P3 P4 P5 P6:α0→α1→α2→Prop}{R:Prop}(h:∃ x0 x1 x2,P0 x0 x1 x2∧P1 x0 x1 x2∧P2 x0 x1 x2∧P3 x0 x1 x2∧P4 x0 x1 x2∧P5 x0 x1 x2∧P6 x0 x1 x2)(k:∀ x0 x1 x2,P0 x0 x1 x2→P1 x0 x1 x2→P2 x0 x1 x2→P3 x0 x1 x2→P4 x0 x1 x2→P5 x0 x1 x2→P6 x0 x1 x2→R):R:=by obtain ⟨x0,x1,x2,h0,h1,h2,h3,h4,h5,h6⟩:=h;exact k x0 x1 x2 h0 h1 h2 h3 h4 h5 h6
theorem e4_5.{u0,u1,u2,u3} {α0:Sort u0}{α1:Sort u1}{α2:Sort u2}{α3:Sort u3}{P0 P1 P2 P3 P4:α0→α1→α2→α3→Prop}{R:Prop}(h:∃ x0 x1 x2 x3,P0 x0 x1 x2 x3∧P1 x0 x1 x2 x3∧P2 x0 x1 x2 x3∧P3 x0 x1 x2 x3∧P4 x0 x1 x2 x3)(k:∀ x0 x1 x2 x3,P0 x0 x1 x2 x3→P1 x0 x1 x2 x3→P2 x0 x1 x2 x3→P3 x0 x1 x2 x3→P4 x0 x1 x2 x3→R):R:=by obtain ⟨x0,x1,x2,x3,h0,h1,h2,h3,h4⟩:=h;exact k x0 x1 x2 x3 h0 h1 h2 h3 h4
theorem e4_6.{u0,u1,u2,u3} {α0:Sort u0}{α1:Sort u1}{α2:Sort u2}{α3:Sort u3}{P0 P1 P2 P3 P4 P5:α0→α1→α2→α3→Prop}{R:Prop}(h:∃ x0 x1 x2 x3,P0 x0 x1 x2 x3∧P1 x0 x1 x2 x3∧P2 x0 x1 x2 x3∧P3 x0 x1 x2 x3∧P4 x0 x1 x2 x3∧P5 x0 x1 x2 x3)(k:∀ x0 x1 x2 x3,P0 x0 x1 x2 x3→P1 x0 x1 x2 x3→P2 x0 x1 x2 x3→P3 x0 x1 x2 x3→P4 x0 x1 x2 x3→P5 x0 x1 x2 x3→R):R:=by obtain ⟨x0,x1,x2,x3,h0,h1,h2,h3,h4,h5⟩:=h;exact k x0 x1 x2 x3 h0 h1 h2 h3 h4 h5
theorem e5_3.{u0,u1,u2,u3,u4} {α0:Sort u0}{α1:Sort u1}{α2:Sort u2}{α3:Sort u3}{α4:Sort u4}{P0 P1 P2:α0→α1→α2→α3→α4→Prop}{R:Prop}(h:∃ x0 x1 x2 x3 x4,P0 x0 x1 x2 x3 x4∧P1 x0 x1 x2 x3 x4∧P2 x0 x1 x2 x3 x4)(k:∀ x0 x1 x2 x3 x4,P0 x0 x1 x2 x3 x4→P1 x0 x1 x2 x3 x4→P2 x0 x1 x2 x3 x4→R):R:=by obtain ⟨x0,x1,x2,x3,x4,h0,h1,h2⟩:=h;exact k x0 x1 x2 x3 x4 h0 h1 h2
theorem e5_5.{u0,u1,u2,u3,u4} {α0:Sort u0}{α1:Sort u1}{α2:Sort u2}{α3:Sort u3}{α4:Sort u4}{P0 P1 P2 P3 P4:α0→α1→α2→α3→α4→Prop}{R:Prop}(h:∃ x0 x1 x2 x3 x4,P0 x0 x1 x2 x3 x4∧P1 x0 x1 x2 x3 x4∧P2 x0 x1 x2 x3 x4∧P3 x0 x1 x2 x3 x4∧P4 x0 x1 x2 x3 x4)(k:∀ x0 x1 x2 x3 x4,P0 x0 x1 x2 x3 x4→P1 x0 x1 x2 x3 x4→P2 x0 x1 x2 x3 x4→P3 x0 x1 x2 x3 x4→P4 x0 x1 x2 x3 x4→R):R:=by obtain ⟨x0,x1,x2,x3,x4,h0,h1,h2,h3,h4⟩:=h;exact k x0 x1 x2 x3 x4 h0 h1 h2 h3 h4
theorem e5_9.{u0,u1,u2,u3,u4} {α0:Sort u0}{α1:Sort u1}{α2:Sort u2}{α3:Sort u3}{α4:Sort u4}{P0 P1 P2 P3 P4 P5 P6 P7 P8:α0→α1→α2→α3→α4→Prop}{R:Prop}(h:∃ x0 x1 x2 x3 x4,P0 x0 x1 x2 x3 x4∧P1 x0 x1 x2 x3 x4∧P2 x0 x1 x2 x3 x4∧P3 x0 x1 x2 x3 x4∧P4 x0 x1 x2 x3 x4∧P5 x0 x1 x2 x3 x4∧P6 x0 x1 x2 x3 x4∧P7 x0 x1 x2 x3 x4∧P8 x0 x1 x2 x3 x4)(k:∀ x0 x1 x2 x3 x4,P0 x0 x1 x2 x3 x4→P1 x0 x1 x2 x3 x4→P2 x0 x1 x2 x3 x4→P3 x0 x1 x2 x3 x4→P4 x0 x1 x2 x3 x4→P5 x0 x1 x2 x3 x4→P6 x0 x1 x2 x3 x4→P7 x0 x1 x2 x3 x4→P8 x0 x1 x2 x3 x4→R):R:=by obtain ⟨x0,x1,x2,x3,x4,h0,h1,h2,h3,h4,h5,h6,h7,h8⟩:=h;exact k x0 x1 x2 x3 x4 h0 h1 h2 h3 h4 h5 h6 h7 h8
theorem e6_4.{u0,u1,u2,u3,u4,u5} {α0:Sort u0}{α1:Sort u1}{α2:Sort u2}{α3:Sort u3}{α4:Sort u4}{α5:Sort u5}{P0 P1 P2 P3:α0→α1→α2→α3→α4→α5→Prop}{R:Prop}(h:∃ x0 x1 x2 x3 x4 x5,P0 x0 x1 x2 x3 x4 x5∧P1 x0 x1 x2 x3 x4 x5∧P2 x0 x1 x2 x3 x4 x5∧P3 x0 x1 x2 x3 x4 x5)(k:∀ x0 x1 x2 x3 x4 x5,P0 x0 x1 x2 x3 x4 x5→P1 x0 x1 x2 x3 x4 x5→P2 x0 x1 x2 x3 x4 x5→P3 x0 x1 x2 x3 x4 x5→R):R:=by obtain ⟨x0,x1,x2,x3,x4,x5,h0,h1,h2,h3⟩:=h;exact k x0 x1 x2 x3 x4 x5 h0 h1 h2 h3
end Mine
set_option genSizeOf false
set_option genSizeOfSpec false
set_option genInjectivity false
set_option bootstrap.genMatcherCode false
namespace Mine
open PySem
inductive Ty where
 | int|bool|str|tuple|list|range|reversed
noncomputable def Ty.name:Ty→String
 | .int=>"int" | .bool=>"bool" | .str=>"str" | .tuple=>"tuple" | .list=>"list" | .range=>"range" | .reversed=>"reversed"
inductive Bi where
 | len|isinstance|any|all|max|min|repr
noncomputable def Bi.name:Bi→String
 | .len=>"len" | .isinstance=>"isinstance" | .any=>"any" | .all=>"all" | .max=>"max" | .min=>"min" | .repr=>"repr"
inductive Mt where
 | append|count|clear|index
noncomputable def Mt.name:Mt→Str
 | .append=>"append" | .count=>"count" | .clear=>"clear" | .index=>"index"
inductive V where
 | none
 | bool (b:Bool)
 | int (i:Int)
 | str (s:Str)
 | tup (l:List V)
 | ref (i:Nat)
 | fn (x:Str)
 | ty (n:Ty)
 | bi (n:Bi)
 | scr (ns:List Int)
 | bk
 | cls (x:Str) (ups:List Str)
 | opq (s:Str)
inductive O where
 | list (xs:List V)
 | inst (j:Nat)
 | ns (fs:List (Str × V))
 | dict (es:List (Str × V))
noncomputable abbrev Hp:=List O
noncomputable abbrev Lc:=List (Option V)
structure Exc where
 cls:Str
 ups:List Str
inductive SrcK where
 | val|range|range2|rev
inductive IE where
 | lit (v:V)
 | loc (i:Nat)
 | bin (op:Operator) (a b:IE)
 | neg (a:IE)
 | not (a:IE)
 | and (a b:IE)
 | or (a b:IE)
 | cmp (a:IE) (op:CmpOp) (b:IE)
 | cmp2 (a:IE) (op:CmpOp) (b:IE) (op':CmpOp) (c:IE)
 | ite (t a b:IE)
 | tup (es:List IE)
 | lst (es:List IE)
 | call (f:V) (args:List IE)
 | meth (o:IE) (name:Mt) (args:List IE)
 | sub (o i:IE)
 | slice (o:IE) (lo hi:Option IE)
 | comp (elt:IE) (var:Nat) (k:SrcK) (src:IE)
 | comp2 (elt:IE) (var:Nat) (k:SrcK) (src:IE)
 | compI (elt t:IE) (var:Nat) (k:SrcK) (src:IE)
 | attr (o:IE) (x:Str)
 | mcall (o:IE) (x:Str) (args:List IE)
 | new
 | dct
 | dctL (ks:List Str) (es:List IE)
 | rev (o:IE) (two:Bool)
inductive IS where
 | expr (e:IE)
 | assign (i:Nat) (e:IE)
 | setItem (o k v:IE)
 | ret (e:IE)
 | ite (t:IE) (a b:List IS)
 | while (t:IE) (b:List IS)
 | for (var:Nat) (k:SrcK) (src:IE) (b:List IS)
 | for2 (x y:Nat) (k:SrcK) (src:IE) (b:List IS)
 | setAttr (o:IE) (x:Str) (e:IE)
 | fail
 | raise (x:Str) (ups:List Str)
 | tryR (b:List IS) (hs:List (Str × IE))
inductive Fl where
 | next
 | ret (v:V)
theorem aF7:∀ {b:Bool},(!b)=true→b=false
 | false,_=>rfl
theorem b9 {α:Type}{b:α}{P:Prop}(h:none=some b):P:=nomatch h
noncomputable def idx {α:Type}(l:List α)(k:Int):Option α :=
 if 0≤k then l[k.toNat]? else if 0≤k+(l.length:Int) then l[(k+(l.length:Int)).toNat]? else none
noncomputable def aJ0 {α:Type}(l:List α)(k:Int):Option α:=if 0≤k then l[k.toNat]? else none
theorem aw7 {α:Type}{l:List α}{k:Int}{v:α}(h:aJ0 l k=some v):0≤k∧l[k.toNat]? = some v:=by
 unfold aJ0 at h
 by_cases hk:0≤k
 ·rw [if_pos hk] at h;exact ⟨hk,h⟩
 ·rw [if_neg hk] at h;exact b9 h
noncomputable def cd9:V→Option (Option Int)
 | .none=>some none
 | .int k=>some (some k)
 | _=>none
noncomputable def aM6 (u:Option Int)(d n:Nat):Nat:=match u with
 | none=>d
 | some k=>if k<0 then n-(-k).toNat else min k.toNat n
noncomputable def aC0 (lo hi:V)(l:List V):Option (List V):=(cd9 lo).bind fun a=>(cd9 hi).map fun b=>(l.drop (aM6 a 0 l.length)).take (aM6 b l.length l.length-aM6 a 0 l.length)
mutual
noncomputable def a02:V→Option PyData
 | .none=>some .none
 | .bool b=>some (.bool b)
 | .int i=>some (.int i)
 | .str x=>some (.str x)
 | .tup l=>(A6 l).map .tuple
 | _=>none
noncomputable def A6:List V→Option (List PyData)
 | []=>some []
 | v::r=>(a02 v).bind fun d=>(A6 r).map (d::·)
end
noncomputable def bV6:O→Option (List V)
 | .list xs=>some xs
 | _=>none
noncomputable def b6 (H:Hp)(i:Nat):Option (List V):=H[i]?.bind bV6
noncomputable def cm7:O→Option Nat
 | .inst j=>some j
 | _=>none
noncomputable def nsO:O→Option (List (Str × V))
 | .ns fs=>some fs
 | _=>none
noncomputable def cj3:O→Option (List (Str × V))
 | .dict es=>some es
 | _=>none
noncomputable def j6 (H:Hp)(i:Nat):Option (List (Str × V)):=H[i]?.bind cj3
noncomputable def au4 (H:Hp)(i:Nat):Option (Nat × List (Str × V)):=(H[i]?.bind cm7).bind fun j=>(H[j]?.bind nsO).map fun fs=>(j,fs)
noncomputable def b64 (H:Hp):V→Option PyData
 | .ref i=>((b6 H i).bind A6).map .list
 | v=>a02 v
mutual
noncomputable def ae2 (H:Hp):V→Option PyData
 | .none=>some .none
 | .bool b=>some (.bool b)
 | .int i=>some (.int i)
 | .str x=>some (.str x)
 | .ref i=>((b6 H i).bind A6).map .list
 | .tup l=>(aH6 H l).map .tuple
 | _=>none
noncomputable def aH6 (H:Hp):List V→Option (List PyData)
 | []=>some []
 | v::r=>(ae2 H v).bind fun d=>(aH6 H r).map (d::·)
end
noncomputable def eqH (H:Hp)(a b:V):Option Bool :=
 (ae2 H a).bind fun d=>(ae2 H b).bind fun e=>if d.depth≤60 then some (PyData.eqv d e) else none
noncomputable def Q3 (x:V)(l:List V):Option Bool :=
 (a02 x).bind fun d=>(A6 l).bind fun ds=>if d.depth≤60 then some (ds.any fun e=>PyData.eqv e d) else none
noncomputable def oK {α:Type}(t:Option α)(P:α→Prop):Prop:=match t with|some v=>P v|none=>False
theorem d8 {α:Type}{t:Option α}{P:α→Prop}(h:oK t P):∃ v,t=some v∧P v:=by cases t with|some v=>exact ⟨v,rfl,h⟩|none=>exact h.elim
noncomputable def oKK {α:Type}(t:Option (Option α))(P:α→Prop):Prop:=match t with|some (some v)=>P v|_=>False
theorem aG5 {α:Type}{t:Option (Option α)}{P:α→Prop}(h:oKK t P):∃ v,t=some (some v)∧P v:=by
 cases t with
 | none=>exact h.elim
 | some u=>cases u with|some v=>exact ⟨v,rfl,h⟩|none=>exact h.elim
noncomputable def tX (v:V)(P:Bool→Prop):Prop:=match v with | .bool b=>P b|_=>False
theorem R7 {v:V}{P:Bool→Prop}(h:tX v P):∃ c,v=.bool c∧P c:=by
 cases v with
 | bool b=>exact ⟨b,rfl,h⟩
 | _=>exact h.elim
noncomputable def al4:V→Option Int
 | .int i=>some i
 | _=>none
theorem r7 {v:V}{i:Int}(h:al4 v=some i):v=.int i:=by
 cases v with
 | int _=>exact congrArg V.int (Option.some.inj h)
 | _=>exact b9 h
noncomputable def ai5:V→Option Nat
 | .ref i=>some i
 | _=>none
theorem q8 {v:V}{i:Nat}(h:ai5 v=some i):v=.ref i:=by
 cases v with
 | ref _=>exact congrArg V.ref (Option.some.inj h)
 | _=>exact b9 h
noncomputable def b40:V→Option (List V)
 | .tup l=>some l
 | _=>none
theorem aU7 {v:V}{l:List V}(h:b40 v=some l):v=.tup l:=by
 cases v with
 | tup _=>exact congrArg V.tup (Option.some.inj h)
 | _=>exact b9 h
noncomputable def aN5:V→Option Str
 | .str x=>some x
 | _=>none
theorem V7 {v:V}{x:Str}(h:aN5 v=some x):v=.str x:=by
 cases v with
 | str _=>exact congrArg V.str (Option.some.inj h)
 | _=>exact b9 h
noncomputable def ch5 (a b:V)(H:Hp)(Q:V→Hp→Prop):Prop:=match a with
 | .int i=>oK (al4 b) fun j=>Q (.int (i+j)) H
 | .str x=>oK (aN5 b) fun y=>x.length+y.length≤1000000∧Q (.str (x++y)) H
 | .ref i=>oK (ai5 b) fun j=>oK (b6 H i) fun xs=>oK (b6 H j) fun ys=>xs.length+ys.length≤1000000∧Q (.ref H.length) (H++[.list (xs++ys)])
 | _=>False
noncomputable def al5 (a b:V)(P:Int→Int→Prop):Prop:=oK (al4 a) fun i=>oK (al4 b) fun j=>P i j
theorem ai2 {a b:V}{P:Int→Int→Prop}(h:al5 a b P):∃ i j,a=.int i∧b=.int j∧P i j:=by
 refine e1_2 (d8 h) fun i h1 h=>?_
 refine e1_2 (d8 h) fun j h2 h=>?_
 exact ⟨i,j,r7 h1,r7 h2,h⟩
noncomputable def ak2 {α:Type}(l:List α)(P:α→Prop):Prop:=match l with
 | []=>False
 | a::r=>(match r with
  | []=>P a
  | _::_=>False)
theorem z7 {α:Type}{l:List α}{P:α→Prop}(h:ak2 l P):∃ a,l=[a]∧P a:=by
 cases l with
 | nil=>exact h.elim
 | cons a r=>cases r with
  | nil=>exact ⟨a,rfl,h⟩
  | cons _ _=>exact h.elim
noncomputable def cl2 {α:Type}(l:List α)(P:Prop):Prop:=match l with
 | []=>P
 | _::_=>False
noncomputable def aZ7 {α:Type}(l:List α)(P:α→α→Prop):Prop:=match l with
 | []=>False
 | a::r=>ak2 r (P a)
theorem N0 {α:Type}{l:List α}{P:α→α→Prop}(h:aZ7 l P):∃ a b,l=[a,b]∧P a b:=by
 cases l with
 | nil=>exact h.elim
 | cons a r =>
  refine e1_2 (z7 h) fun b e_1 h=>?_
  obtain rfl:=e_1
  exact ⟨a,b,rfl,h⟩
noncomputable def bX3 {α:Type}(l:List α)(P:α→α→α→Prop):Prop:=match l with
 | []=>False
 | a::r=>aZ7 r (P a)
theorem aS3 {α:Type}{l:List α}{P:α→α→α→Prop}(h:bX3 l P):∃ a b c,l=[a,b,c]∧P a b c:=by
 cases l with
 | nil=>exact h.elim
 | cons a r =>
  refine e2_2 (N0 h) fun b c e_2 h=>?_
  obtain rfl:=e_2
  exact ⟨a,b,c,rfl,h⟩
noncomputable def aQ2 (x:Str)(n:Nat):Str:=⟨(List.replicate n x.cps).foldl (·++·) #[]⟩
noncomputable def ifP (c:Bool)(A B:Prop):Prop:=match c with|true=>A|false=>B
theorem cT {C P:Prop}(c:C):(C∧P)=P:=propext ⟨And.right,fun h=>⟨c,h⟩⟩
noncomputable def bP6:Int→Bool
 | .ofNat n=>Nat.blt 0 n&&Nat.blt n (2 ^ 128)
 | _=>false
theorem aa0 {j:Int}:bP6 j=true↔0<j∧j<2 ^ 128:=by
 cases j with
 | ofNat n =>
  show (Nat.blt 0 n&&Nat.blt n (2 ^ 128))=true↔_
  rw [Bool.and_eq_true,Nat.blt_eq,Nat.blt_eq,Int.ofNat_eq_natCast]
  omega
 | negSucc n=>exact ⟨fun h=>Bool.noConfusion h,fun h=>((Int.negSucc_not_pos n).mp h.1).elim⟩
noncomputable def smI (i:Int):Bool:=decide (-(2 ^ 64)<i)&&decide (i<2 ^ 64)
theorem aG1 {i j:Int}:(smI i||smI j)=true↔(-(2 ^ 64)<i∧i<2 ^ 64)∨(-(2 ^ 64)<j∧j<2 ^ 64):=by rw [Bool.or_eq_true,smI,smI,Bool.and_eq_true,Bool.and_eq_true,decide_eq_true_eq,decide_eq_true_eq,decide_eq_true_eq,decide_eq_true_eq]
noncomputable def cc1 (i j:Int):Bool:=decide (0≤j)&&(decide (j≤1000000)&&decide (i.natAbs<2 ^ 64))
theorem bR6 {i j:Int}:cc1 i j=true↔0≤j∧j≤1000000∧i.natAbs<2 ^ 64:=by rw [cc1,Bool.and_eq_true,Bool.and_eq_true,decide_eq_true_eq,decide_eq_true_eq,decide_eq_true_eq]
noncomputable def cj8 (a b:V)(H:Hp)(Q:V→Hp→Prop):Prop:=match a with
 | .int i=>oK (al4 b) fun j=>(smI i||smI j)=true∧Q (.int (i*j)) H
 | .ref i=>oK (b6 H i) fun xs=>ak2 xs fun x=>oK (al4 b) fun n=>(0≤n∧n≤1000000)∧Q (.ref H.length) (H++[.list (List.replicate n.toNat x)])
 | .str x=>oK (al4 b) fun n=>(1≤n∧n≤1000∧0<x.length∧x.length≤1000∧(aQ2 x n.toNat).length≤2000000∧PyData.strOk (aQ2 x n.toNat)=true)∧Q (.str (aQ2 x n.toNat)) H
 | _=>False
noncomputable def s9 (op:Operator)(a b:V)(H:Hp)(Q:V→Hp→Prop):Prop :=
 match op with
 | .Add=>ch5 a b H Q
 | .Sub=>al5 a b fun i j=>Q (.int (i-j)) H
 | .Mult=>cj8 a b H Q
 | .FloorDiv=>al5 a b fun i j=>bP6 j=true∧Q (.int (i/j)) H
 | .Mod=>al5 a b fun i j=>bP6 j=true∧Q (.int (i%j)) H
 | .Pow=>al5 a b fun i j=>cc1 i j=true∧Q (.int (i ^ j.toNat)) H
 | _=>False
noncomputable def Z5:List V→Option (List Str)
 | []=>some []
 | v::r=>(aN5 v).bind fun y=>(Z5 r).map (y::·)
noncomputable def w8:V→Bool
 | .none=>true
 | _=>false
noncomputable def aP6 (b:V)(P:Prop):Prop:=match b with | .none=>P|_=>False
theorem an8 {b:V}{P:Prop}(h:aP6 b P):b=.none∧P:=by
 cases b with
 | none=>exact ⟨rfl,h⟩
 | _=>exact h.elim
noncomputable def eqK (H:Hp)(a b:V):Option Bool:=match a with
 | .opq x=>(match b with
  | .opq y=>some (x==y)
  | _=>none)
 | a=>eqH H a b
theorem aF4 {H:Hp}{a b:V}{c:Bool}(h:eqK H a b=some c):(∃ x y,a=.opq x∧b=.opq y∧c=(x==y))∨eqH H a b=some c:=by
 cases a with
 | opq x=>cases b with
  | opq y=>exact .inl ⟨x,y,rfl,rfl,(Option.some.inj h).symm⟩
  | _=>exact b9 h
 | _=>exact .inr h
noncomputable def pIn (a b:V)(H:Hp)(P:Bool→Prop):Prop:=match b with
 | .str x=>oK (aN5 a) fun y=>P (Txt.contains x y)
 | .tup l=>oK (Q3 a l) P
 | .ref i=>oK (b6 H i) fun l=>oK (Q3 a l) P
 | _=>False
noncomputable def U0 (op:CmpOp)(a b:V)(H:Hp)(Q:V→Hp→Prop):Prop :=
 match op with
 | .Eq=>oK (eqK H a b) fun c=>Q (.bool c) H
 | .NotEq=>oK (eqK H a b) fun c=>Q (.bool (!c)) H
 | .Lt=>al5 a b fun i j=>Q (.bool (decide (i<j))) H
 | .LtE=>al5 a b fun i j=>Q (.bool (decide (i≤j))) H
 | .Gt=>al5 a b fun i j=>Q (.bool (decide (j<i))) H
 | .GtE=>al5 a b fun i j=>Q (.bool (decide (j≤i))) H
 | .In=>pIn a b H fun c=>Q (.bool c) H
 | .NotIn=>pIn a b H fun c=>Q (.bool (!c)) H
 | .Is=>aP6 b (Q (.bool (w8 a)) H)
 | .IsNot=>aP6 b (Q (.bool (!w8 a)) H)
noncomputable def bx8 (o:V)(k:Int)(H:Hp)(Q:V→Hp→Prop):Prop:=match o with
 | .tup l=>oK (idx l k) fun v=>Q v H
 | .ref j=>oK (b6 H j) fun l=>oK (idx l k) fun v=>Q v H
 | .scr ns=>oK (aJ0 ns k) fun v=>Q (.int v) H
 | .str x=>oK (aJ0 x.cps.toList k) fun c=>Q (.str ⟨#[c]⟩) H
 | _=>False
noncomputable def a27 (o i:V)(H:Hp)(Q:V→Hp→Prop):Prop:=match i with
 | .int k=>bx8 o k H Q
 | .str x=>oK (ai5 o) fun j=>oK (j6 H j) fun es=>oK (es.lookup x) fun v=>Q v H
 | _=>False
noncomputable def aH4 (o lo hi:V)(H:Hp)(Q:V→Hp→Prop):Prop:=oK (ai5 o) fun i=>oK (b6 H i) fun xs=>oK (aC0 lo hi xs) fun ys=>Q (.ref H.length) (H++[.list ys])
noncomputable def bG9 (o:V)(two:Bool)(H:Hp)(Q:V→Hp→Prop):Prop:=oK (ai5 o) fun i=>oK (b6 H i) fun xs=>bX3 xs fun a b c=>Q (.ref H.length) (H++[.list (match two with|true=>[c,a]|false=>[c,b,a])])
noncomputable def bS6 (o k v:V)(H:Hp)(Q:Hp→Prop):Prop:=oK (ai5 o) fun i=>(match k with
 | .int j=>oK (b6 H i) fun l=>(0≤j∧j<(l.length:Int))∧Q (H.set i (.list (l.set j.toNat v)))
 | .str x=>oK (j6 H i) fun es=>es.length≤100000∧Q (H.set i (.dict ((x,v)::es)))
 | _=>False)
noncomputable def X9 (x:Str):Bool:=x=="names"||x=="free_rules"||x=="busy_rules"||x=="held"||x=="given"
noncomputable def a04 (o:V)(x:Str)(H:Hp)(Q:V→Hp→Prop):Prop:=oK (ai5 o) fun i=>oK (au4 H i) fun p=>oK (p.2.lookup x) fun v=>Q v H
noncomputable def bq1 (o:V)(x:Str)(v:V)(H:Hp)(Q:Hp→Prop):Prop:=oK (ai5 o) fun i=>oK (au4 H i) fun p=>p.2.length≤100000∧Q (H.set p.1 (.ns ((x,v)::p.2)))
noncomputable def cq2 (H:Hp):V→Option Ty
 | .bool _=>some .bool
 | .int _=>some .int
 | .str _=>some .str
 | .tup _=>some .tuple
 | .ref i=>(b6 H i).map fun _=>.list
 | _=>none
noncomputable def bP8 (a b:Ty):Bool:=match b with
 | .int=>(match a with
  | .int=>true
  | .bool=>true
  | _=>false)
 | .bool=>(match a with
  | .bool=>true
  | _=>false)
 | .str=>(match a with
  | .str=>true
  | _=>false)
 | .tuple=>(match a with
  | .tuple=>true
  | _=>false)
 | .list=>(match a with
  | .list=>true
  | _=>false)
 | _=>false
noncomputable def bj7:Ty→Bool
 | .int=>true
 | .bool=>true
 | .str=>true
 | .tuple=>true
 | .list=>true
 | _=>false
noncomputable def C2 (H:Hp)(v:V)(n:Ty):Option Bool:=match bj7 n with
 | true=>(match v with
  | .none=>some false
  | v=>(cq2 H v).map fun t=>bP8 t n)
 | false=>none
noncomputable def aY7:V→Option Bool
 | .bool b=>some b
 | _=>none
noncomputable def B9:List V→Option (List Bool)
 | []=>some []
 | v::r=>(aY7 v).bind fun b=>(B9 r).map (b::·)
noncomputable abbrev Orc:=Str→List V→Hp→(V→Hp→Prop)→(Exc→Hp→Prop)→Prop
noncomputable def tyV:V→Option Ty
 | .ty t=>some t
 | _=>none
theorem a13 {v:V}{t:Ty}(h:tyV v=some t):v=.ty t:=by
 cases v with
 | ty _=>exact congrArg V.ty (Option.some.inj h)
 | _=>exact b9 h
noncomputable def cj1 (v:V)(H:Hp)(Q:V→Hp→Prop):Prop:=match v with
 | .tup l=>Q (.int (l.length:Int)) H
 | .ref i=>oK (b6 H i) fun l=>Q (.int (l.length:Int)) H
 | .scr ns=>Q (.int (ns.length:Int)) H
 | .str x=>Q (.int (x.length:Int)) H
 | _=>False
noncomputable def pBi (b:Bi)(args:List V)(H:Hp)(Q:V→Hp→Prop):Prop :=
 match b with
 | .len=>ak2 args fun v=>cj1 v H Q
 | .isinstance=>aZ7 args fun v w=>oK (tyV w) fun t=>oK (C2 H v t) fun c=>Q (.bool c) H
 | .any=>ak2 args fun v=>oK (ai5 v) fun i=>oK (b6 H i) fun l=>oK (B9 l) fun bs=>Q (.bool (bs.any id)) H
 | .all=>ak2 args fun v=>oK (ai5 v) fun i=>oK (b6 H i) fun l=>oK (B9 l) fun bs=>Q (.bool (bs.all id)) H
 | .max=>aZ7 args fun v w=>al5 v w fun i j=>Q (.int (max i j)) H
 | .min=>aZ7 args fun v w=>al5 v w fun i j=>Q (.int (min i j)) H
 | .repr=>ak2 args fun v=>oK (ae2 H v) fun d=>(d.showable=true∧d.depth≤60∧d.shown.length≤16000000)∧Q (.opq d.shown) H
noncomputable def ch3 (b:Ty)(v:V)(H:Hp)(Q:V→Hp→Prop):Prop:=match b with
 | .int=>oK (aY7 v) fun b=>Q (.int (if b then 1 else 0)) H
 | .tuple=>oK (ai5 v) fun i=>oK (b6 H i) fun l=>Q (.tup l) H
 | .list=>oK (ai5 v) fun i=>oK (b6 H i) fun l=>Q (.ref H.length) (H++[.list l])
 | _=>False
noncomputable def pTy (b:Ty)(args:List V)(H:Hp)(Q:V→Hp→Prop):Prop:=ak2 args fun v=>ch3 b v H Q
noncomputable def E7 (Φ:Orc)(f:V)(args:List V)(H:Hp)(Q:V→Hp→Prop)(X:Exc→Hp→Prop):Prop :=
 match f with
 | .fn x=>Φ x args H Q X
 | .bi b=>pBi b args H Q
 | .ty t=>pTy t args H Q
 | _=>False
noncomputable def aS6 (H:Hp)(o:V):Prop:=match o with
 | .ref i=>∃ l,b6 H i=some l
 | _=>False
noncomputable def aa2:List V→Option (List Int)
 | []=>some []
 | v::r=>(al4 v).bind fun i=>(aa2 r).map (i::·)
noncomputable def a00 (y:Int):List Int→Option Nat
 | []=>none
 | i::r=>if i=y then some 0 else (a00 y r).map (· + 1)
noncomputable def al6 (o:V)(name:Mt)(args:List V)(H:Hp)(Q:V→Hp→Prop):Prop :=
 oK (ai5 o) fun i=>oK (b6 H i) fun l=>(match name with
 | .append=>ak2 args fun v=>l.length≤1000000∧Q .none (H.set i (.list (l++[v])))
 | .count=>ak2 args fun v=>oK (Z5 l) fun ys=>oK (aN5 v) fun y=>Q (.int ((ys.count y:Nat):Int)) H
 | .clear=>cl2 args (Q .none (H.set i (.list [])))
 | .index=>ak2 args fun v=>oK (aa2 l) fun ns=>oK (al4 v) fun y=>oK (a00 y ns) fun j=>Q (.int (j:Int)) H)
noncomputable def E4 (a b:Int):List V:=(List.range (b-a).toNat).map fun (k:Nat)=>V.int (a+(k:Int))
noncomputable def b54 (v:V)(H:Hp)(Q:List V→(Hp→Prop)→Prop):Prop:=match v with
 | .tup l=>Q l (fun _=>True)
 | .str x=>x.cps.all (· < 128)=true∧Q (x.cps.toList.map fun c=>V.str ⟨#[c]⟩) (fun _=>True)
 | .ref i=>oK (b6 H i) fun l=>Q l (fun H'=>b6 H' i=some l)
 | _=>False
noncomputable def ac3 (k:SrcK)(v:V)(H:Hp)(Q:List V→(Hp→Prop)→Prop):Prop :=
 match k with
 | .val=>b54 v H Q
 | .range=>oK (al4 v) fun a=>(-(2 ^ 62)≤a∧a≤1000000)∧Q (E4 0 a) (fun _=>True)
 | .range2=>oK (b40 v) fun l=>aZ7 l fun v w=>al5 v w fun a b=>(-(2 ^ 62)≤a∧a<2 ^ 62∧-(2 ^ 62)≤b∧b<2 ^ 62∧b-a≤1000000)∧Q (E4 a b) (fun _=>True)
 | .rev=>oK (ai5 v) fun i=>oK (b6 H i) fun l=>Q l.reverse (fun H'=>b6 H' i=some l)
noncomputable abbrev XL:=Exc→Hp→Prop
noncomputable def bd1 (j:Nat)(L:Lc)(x:V):Option Lc:=some (L.set j (some x))
noncomputable def two:List V→Option (V × V)
 | []=>none
 | a::r=>(match r with
  | []=>none
  | b::r=>(match r with
   | []=>some (a,b)
   | _::_=>none))
noncomputable def bdp (i j:Nat)(L:Lc)(x:V):Option Lc:=((b40 x).bind two).map fun p=>(L.set i (some p.1)).set j (some p.2)
noncomputable abbrev bd2 (j:Nat):Lc→V→Option Lc:=bdp j (j+1)
noncomputable def u7 (el:Lc→Hp→(Option V→Hp→Prop)→Prop)(st:Hp→Prop)(bd:V→Option Lc):List V→List V→Hp→(List V→Hp→Prop)→Prop
 | [],acc,H,Q=>Q acc H
 | x::r,acc,H,Q=>oK (bd x) fun L=>el L H (fun y H2=>st H2∧u7 el st bd r (acc++y.toList) H2 Q)
noncomputable abbrev n9 (el:Lc→Hp→(Option V→Hp→Prop)→Prop)(st:Hp→Prop)(j:Nat)(L:Lc):List V→List V→Hp→(List V→Hp→Prop)→Prop:=u7 el st (bd1 j L)
noncomputable abbrev noX:XL:=fun _ _=>False
noncomputable abbrev aR0:Exc→Lc→Hp→Prop:=fun _ _ _=>False
structure ET where
 E:Lc→Hp→(V→Hp→Prop)→XL→Prop
 T:Lc→Hp→(Bool→Hp→Prop)→XL→Prop
noncomputable def ET.of (E:Lc→Hp→(V→Hp→Prop)→XL→Prop):ET :=
 ⟨E,fun L H Q X=>E L H (fun v H1=>tX v fun c=>Q c H1) X⟩
mutual
noncomputable def wp2 (Φ:Orc):IE→ET
 | .lit v=>.of fun _ H Q _=>Q v H
 | .loc i=>.of fun L H Q _=>oKK L[i]? fun v=>Q v H
 | .bin op a b=>.of fun L H Q X=>(wp2 Φ a).E L H (fun va H1=>(wp2 Φ b).E L H1 (fun vb H2=>s9 op va vb H2 Q) X) X
 | .neg a=>.of fun L H Q X=>(wp2 Φ a).E L H (fun v H1=>oK (al4 v) fun i=>Q (.int (-i)) H1) X
 | .not a=>⟨fun L H Q X=>(wp2 Φ a).E L H (fun v H1=>tX v fun c=>Q (.bool (!c)) H1) X,
   fun L H Q X=>(wp2 Φ a).T L H (fun c H1=>Q (!c) H1) X⟩
 | .and a b=>⟨fun L H Q X=>(wp2 Φ a).E L H (fun v H1=>tX v fun c=>ifP c ((wp2 Φ b).E L H1 Q X) (Q v H1)) X,
   fun L H Q X=>(wp2 Φ a).T L H (fun c H1=>ifP c ((wp2 Φ b).T L H1 Q X) (Q false H1)) X⟩
 | .or a b=>⟨fun L H Q X=>(wp2 Φ a).E L H (fun v H1=>tX v fun c=>ifP c (Q v H1) ((wp2 Φ b).E L H1 Q X)) X,
   fun L H Q X=>(wp2 Φ a).T L H (fun c H1=>ifP c (Q true H1) ((wp2 Φ b).T L H1 Q X)) X⟩
 | .cmp a op b=>.of fun L H Q X=>(wp2 Φ a).E L H (fun va H1=>(wp2 Φ b).E L H1 (fun vb H2=>U0 op va vb H2 Q) X) X
 | .cmp2 a op b op' c=>.of fun L H Q X=>(wp2 Φ a).E L H (fun va H1=>(wp2 Φ b).E L H1 (fun vb H2=>U0 op va vb H2 (fun r H3 =>
   tX r fun t=>ifP t ((wp2 Φ c).E L H3 (fun vc H4=>U0 op' vb vc H4 Q) X) (Q r H3))) X) X
 | .ite t a b=>⟨fun L H Q X=>(wp2 Φ t).T L H (fun c H1=>ifP c ((wp2 Φ a).E L H1 Q X) ((wp2 Φ b).E L H1 Q X)) X,
   fun L H Q X=>(wp2 Φ t).T L H (fun c H1=>ifP c ((wp2 Φ a).T L H1 Q X) ((wp2 Φ b).T L H1 Q X)) X⟩
 | .tup es=>.of fun L H Q X=>Nat.ble es.length 1000000=true∧O9 Φ es L H (fun vs H1=>Q (.tup vs) H1) X
 | .lst es=>.of fun L H Q X=>Nat.ble es.length 1000000=true∧O9 Φ es L H (fun vs H1=>Q (.ref H1.length) (H1++[.list vs])) X
 | .call f args=>.of fun L H Q X=>O9 Φ args L H (fun vs H1=>E7 Φ f vs H1 Q X) X
 | .meth o name args=>.of fun L H Q X=>(wp2 Φ o).E L H (fun vo H1=>aS6 H1 vo∧O9 Φ args L H1 (fun vs H2=>al6 vo name vs H2 Q) X) X
 | .sub o i=>.of fun L H Q X=>(wp2 Φ o).E L H (fun vo H1=>(wp2 Φ i).E L H1 (fun vi H2=>a27 vo vi H2 Q) X) X
 | .slice o lo hi=>.of fun L H Q X=>(wp2 Φ o).E L H (fun vo H1=>wpO Φ lo L H1 (fun vl H2=>wpO Φ hi L H2 (fun vh H3=>aH4 vo vl vh H3 Q) X) X) X
 | .comp elt j k src=>.of fun L H Q X=>(wp2 Φ src).E L H (fun v H1=>ac3 k v H1 fun items st =>
   n9 (fun L' H' K=>(wp2 Φ elt).E L' H' (fun v H2=>K (some v) H2) noX) st j L items [] H1
    (fun ys H2=>ys.length≤1000000∧Q (.ref H2.length) (H2++[.list ys]))) X
 | .comp2 elt j k src=>.of fun L H Q X=>(wp2 Φ src).E L H (fun v H1=>ac3 k v H1 fun items st =>
   u7 (fun L' H' K=>(wp2 Φ elt).E L' H' (fun v H2=>K (some v) H2) noX) st (bd2 j L) items [] H1
    (fun ys H2=>ys.length≤1000000∧Q (.ref H2.length) (H2++[.list ys]))) X
 | .compI elt t j k src=>.of fun L H Q X=>(wp2 Φ src).E L H (fun v H1=>ac3 k v H1 fun items st =>
   n9 (fun L' H' K=>(wp2 Φ t).T L' H' (fun c H2=>ifP c ((wp2 Φ elt).E L' H2 (fun v H3=>K (some v) H3) noX) (K none H2)) noX) st j L items [] H1
    (fun ys H2=>ys.length≤1000000∧Q (.ref H2.length) (H2++[.list ys]))) X
 | .attr o x=>.of fun L H Q X=>(wp2 Φ o).E L H (fun vo H1=>a04 vo x H1 Q) X
 | .mcall o x args=>.of fun L H Q X=>(wp2 Φ o).E L H (fun vo H1=>oK (ai5 vo) fun i=>oK (au4 H1 i) fun _=>O9 Φ args L H1 (fun vs H2=>Φ (Str.ofString "Book."++x) (.ref i::vs) H2 Q X) X) X
 | .new=>.of fun _ H Q X=>Φ "Book.__init__" [.ref (H.length+1)] (H++[.ns []]++[.inst H.length]) (fun v H1=>w8 v=true∧Q (.ref (H.length+1)) H1) X
 | .dct=>.of fun _ H Q _=>Q (.ref H.length) (H++[.dict []])
 | .dctL ks es=>.of fun L H Q X=>O9 Φ es L (H++[.dict []]) (fun vs H1=>j6 H1 H.length=some []∧Q (.ref H.length) (H1.set H.length (.dict (ks.zip vs).reverse))) X
 | .rev o two=>.of fun L H Q X=>(wp2 Φ o).E L H (fun vo H1=>bG9 vo two H1 Q) X
noncomputable def O9 (Φ:Orc):List IE→Lc→Hp→(List V→Hp→Prop)→XL→Prop
 | [],_,H,Q,_=>Q [] H
 | e::r,L,H,Q,X=>(wp2 Φ e).E L H (fun v H1=>O9 Φ r L H1 (fun vs H2=>Q (v::vs) H2) X) X
noncomputable def wpO (Φ:Orc):Option IE→Lc→Hp→(V→Hp→Prop)→XL→Prop
 | none,_,H,Q,_=>Q .none H
 | some e,L,H,Q,X=>(wp2 Φ e).E L H Q X
end
noncomputable abbrev QS:=Fl→Lc→Hp→Prop
noncomputable abbrev XS:=Exc→Lc→Hp→Prop
noncomputable def nxt (go:Lc→Hp→Prop)(Q:QS):QS:=fun fl L1 H1=>match fl with
 | .next=>go L1 H1
 | .ret v=>Q (.ret v) L1 H1
noncomputable def lop (go:Lc→Hp→Prop)(Q:QS):QS:=fun fl L1 H1=>match fl with
 | .next=>go L1 H1
 | .ret v=>Q (.ret v) L1 H1
noncomputable def I6 (body:Lc→Hp→QS→Prop)(st:Hp→Prop)(bd:Lc→V→Option Lc):List V→Lc→Hp→QS→Prop
 | [],L,H,Q=>Q .next L H
 | x::r,L,H,Q=>oK (bd L x) fun L'=>body L' H (lop (fun L1 H1=>st H1∧I6 body st bd r L1 H1 Q) Q)
noncomputable abbrev j7 (body:Lc→Hp→QS→Prop)(st:Hp→Prop)(j:Nat):List V→Lc→Hp→QS→Prop:=I6 body st (bd1 j)
noncomputable def z5 (test:Lc→Hp→(Bool→Hp→Prop)→Prop)(body:Lc→Hp→QS→Prop):Nat→Lc→Hp→QS→Prop
 | 0,_,_,_=>False
 | n+1,L,H,Q=>test L H (fun c H1=>ifP c (body L H1 (lop (fun L1 H2=>z5 test body n L1 H2 Q) Q)) (Q .next L H1))
noncomputable def evR (L:Lc):IE→Option V
 | .lit v=>some v
 | .loc i=>L[i]?.bind id
 | _=>none
noncomputable def bD0 (x:Exc)(L:Lc)(H:Hp)(Q:QS):List (Str × IE)→Prop
 | []=>False
 | h::r=>ifP (x.ups.contains h.1) (oK (evR L h.2) fun v=>Q (.ret v) L H) (bD0 x L H Q r)
mutual
noncomputable def wpS (Φ:Orc):IS→Lc→Hp→QS→XS→Prop
 | .expr e,L,H,Q,X=>(wp2 Φ e).E L H (fun _ H1=>Q .next L H1) (fun x=>X x L)
 | .assign i e,L,H,Q,X=>(wp2 Φ e).E L H (fun v H1=>Q .next (L.set i (some v)) H1) (fun x=>X x L)
 | .setItem o k v,L,H,Q,X=>(wp2 Φ v).E L H (fun vv H1=>(wp2 Φ o).E L H1 (fun vo H2=>(wp2 Φ k).E L H2 (fun vk H3=>bS6 vo vk vv H3 (Q .next L)) (fun x=>X x L)) (fun x=>X x L)) (fun x=>X x L)
 | .ret e,L,H,Q,X=>(wp2 Φ e).E L H (fun v H1=>Q (.ret v) L H1) (fun x=>X x L)
 | .ite t a b,L,H,Q,X=>(wp2 Φ t).T L H (fun c H1=>ifP c (j1 Φ a L H1 Q X) (j1 Φ b L H1 Q X)) (fun x=>X x L)
 | .while t b,L,H,Q,X=>∃ n,z5 (fun L' H' K=>(wp2 Φ t).T L' H' K noX) (fun L' H' K=>j1 Φ b L' H' K aR0) n L H Q
 | .for j k src b,L,H,Q,X=>(wp2 Φ src).E L H (fun v H1=>ac3 k v H1 fun items st =>
   j7 (fun L' H' K=>j1 Φ b L' H' K X) st j items L H1 Q) (fun x=>X x L)
 | .for2 i j k src b,L,H,Q,X=>(wp2 Φ src).E L H (fun v H1=>ac3 k v H1 fun items st =>
   I6 (fun L' H' K=>j1 Φ b L' H' K X) st (bdp i j) items L H1 Q) (fun x=>X x L)
 | .setAttr o x e,L,H,Q,X=>(wp2 Φ e).E L H (fun vv H1=>(wp2 Φ o).E L H1 (fun vo H2=>bq1 vo x vv H2 (Q .next L)) (fun x=>X x L)) (fun x=>X x L)
 | .fail,_,_,_,_=>False
 | .raise x ups,L,H,_,X=>X ⟨x,ups⟩ L H
 | .tryR b hs,L,H,Q,X=>j1 Φ b L H Q (fun x L' H'=>bD0 x L' H' Q hs)
noncomputable def j1 (Φ:Orc):List IS→Lc→Hp→QS→XS→Prop
 | [],L,H,Q,_=>Q .next L H
 | s::r,L,H,Q,X=>wpS Φ s L H (nxt (fun L1 H1=>j1 Φ r L1 H1 Q X) Q) X
end
noncomputable def bdy:IS→List IS
 | .while _ b=>b
 | .for _ _ _ b=>b
 | .for2 _ _ _ _ b=>b
 | .ite _ a _=>a
 | _=>[]
structure Fn where
 names:Nat
 params:Nat
 body:List IS
noncomputable def E2 (f:Fn)(vs:List V):Lc:=vs.map some++List.replicate (f.names-f.params) none
noncomputable def bK1:Fl→V
 | .ret v=>v
 | _=>.none
noncomputable def v8 (Φ:Orc)(f:Fn)(vs:List V)(H:Hp)(Q:V→Hp→Prop)(X:XL):Prop :=
 vs.length=f.params∧j1 Φ f.body (E2 f vs) H (fun fl _ H1=>Q (bK1 fl) H1) (fun x _ H1=>X x H1)
end Mine
namespace Mine
open PySem
structure CC where
 G:List (Str × V)
 mts:List Str
 scope:Scope
 slots:List (Str × Nat)
 nxt:Nat
noncomputable def K6 {α β:Type}(f:α→Option β):List α→Option (List β)
 | []=>some []
 | a::r=>(f a).bind fun b=>(K6 f r).map (b::·)
noncomputable def an2:Const→Option V
 | .none=>some .none
 | .bool b=>some (.bool b)
 | .int i=>some (.int i)
 | .str s=>if s.length≤2000000∧PyData.strOk s=true then some (.str s) else none
 | _=>none
noncomputable def aa9 (scope outer:Scope):Scope :=
 { scope with names:=scope.names.map fun (n,k)=>if (k==.free&&outer.kind==.function&&outer.names.lookup n==some .cell) then (n,.cell) else (n,k) }
noncomputable def I2 (y:Str × NameKind):Bool:=y.2==.cell
noncomputable def aG9 (scope outer:Scope):Bool :=
 scope.kind==.function&&(scope.names.all fun y=>(y.2 != .local||scope.names.lookup y.1==some .local)&&(y.2 != .free||(outer.kind==.function&&outer.names.lookup y.1==some .cell)))
noncomputable def bE4 (scope:Scope)(x:Str):Bool:=(scope.names.lookup x==some .local&&(scope.names.filter I2).isEmpty)||(scope.names.lookup x==some .cell&&scope.names.filter I2==[(x,.cell)])
noncomputable def aF5 (e:Expr):Bool:=e.ctorIdx==8||e.ctorIdx==9||e.ctorIdx==10
noncomputable def E5 (e:Expr):Bool:=e.ctorIdx==22
noncomputable def D8 (e:Expr):Bool:=!(e.ctorIdx==16)
noncomputable def g9 {α:Type}(b:Bool)(x:Option α):Option α:=match b with|true=>x|false=>none
theorem f0 {α:Type}{b:Bool}{x:Option α}{y:α}{R:Prop}(h:g9 b x=some y)(k:b=true→x=some y→R):R:=by cases b with|true=>exact k rfl h|false=>exact b9 h
theorem j2 {α β:Type}{x:Option α}{f:α→Option β}{b:β}{R:Prop}(h:x.bind f=some b)(k:∀ a,x=some a→f a=some b→R):R:=by cases x with|some a=>exact k a rfl h|none=>exact b9 h
@[elab_as_elim] theorem k8 {α β:Type}{x:Option α}{f:α→β}{b:β}{R:β→Prop}(h:x.map f=some b)(k:∀ a,x=some a→R (f a)):R b:=by cases x with|some a=>obtain rfl:=Option.some.inj h;exact k a rfl|none=>exact b9 h
@[elab_as_elim] theorem aE6 {α:Type}{l:List α}{R:List α→Prop}(h:l.isEmpty=true)(k:R []):R l:=by cases l with|nil=>exact k|cons _ _=>exact Bool.noConfusion h
noncomputable def b31 (x:Str):Option Mt:=[Mt.append,.count,.clear,.index].find? fun m=>x==m.name
theorem aP3 {x:Str}{m:Mt}(h:b31 x=some m):x=m.name:=eq_of_beq (List.find?_some (p:=fun m:Mt=>x==m.name) h)
noncomputable def Mt.one:Mt→Bool
 | .clear=>false
 | _=>true
noncomputable def bB6 (c:CC)(x:Str):Option NameKind:=g9 (!(x==("__debug__":Str))) (c.scope.names.lookup x)
noncomputable def aK7 (c:CC)(x:Str):Option IE:=(bB6 c x).bind fun k=>match k with
 | .globalImplicit=>(c.G.lookup x).map .lit
 | .local=>(c.slots.lookup x).map .loc
 | .cell=>(c.slots.lookup x).map .loc
 | _=>none
noncomputable def U8 (c:CC)(x:Str):Option V:=(bB6 c x).bind fun k=>match k with
 | .globalImplicit=>c.G.lookup x
 | _=>none
noncomputable def ax6 (mk:IE→IE→IE):List IE→Option IE
 | []=>none
 | a::r=>(match r with
  | []=>some a
  | b::s=>(ax6 mk (b::s)).map (mk a))
noncomputable def am7 {α β γ:Type}(f:α→β→γ)(x:Option α)(y:Option β):Option γ:=match x with|some a=>(match y with|some b=>some (f a b)|none=>none)|none=>none
@[elab_as_elim] theorem w9 {α β γ:Type}{f:α→β→γ}{x:Option α}{y:Option β}{z:γ}{R:γ→Prop}(h:am7 f x y=some z)(k:∀ a b,x=some a→y=some b→R (f a b)):R z:=by
 cases x with
 | none=>exact b9 h
 | some a=>cases y with
  | none=>exact b9 h
  | some b=>obtain rfl:=Option.some.inj h;exact k a b rfl rfl
theorem aQ7 {α β γ:Type}{f:α→β→γ}{x:Option α}{y:Option β}{z:γ}(h:am7 f x y=some z):∃ a b,x=some a∧y=some b∧z=f a b:=w9 h fun a b h1 h2=>⟨a,b,h1,h2,rfl⟩
noncomputable def Q5 {α β γ δ:Type}(f:α→β→γ→δ)(x:Option α)(y:Option β)(z:Option γ):Option δ:=match x with|some a=>am7 (f a) y z|none=>none
@[elab_as_elim] theorem C1 {α β γ δ:Type}{f:α→β→γ→δ}{x:Option α}{y:Option β}{z:Option γ}{u:δ}{R:δ→Prop}(h:Q5 f x y z=some u)(k:∀ a b c,x=some a→y=some b→z=some c→R (f a b c)):R u:=by
 cases x with
 | none=>exact b9 h
 | some a=>exact w9 (f:=f a) h fun b c h1 h2=>k a b c rfl h1 h2
noncomputable def D5 {β:Type}(e:Expr)(k:Str→Option β):Option β:=if h:e.ctorIdx=23 then Expr.Name.elim (motive_1:=fun _=>Option β) e h fun x _=>k x else none
@[elab_as_elim] theorem t0 {β:Type}{e:Expr}{k:Str→Option β}{b:β}{R:Expr→Prop}(h:D5 e k=some b)(f:∀ x p,k x=some b→R (.Name x p)):R e :=
 if hc:e.ctorIdx=23 then Expr.Name.elim (motive_1:=fun e=>D5 e k=some b→R e) e hc (fun x p h=>f x p h) h else b9 ((dif_neg hc).symm.trans h)
noncomputable def aH0 {β:Type}(e:Expr)(k:Expr→Str→Pos→Option β):Option β:=if h:e.ctorIdx=20 then Expr.Attribute.elim (motive_1:=fun _=>Option β) e h fun o x p=>k o x p else none
@[elab_as_elim] theorem aU8 {β:Type}{e:Expr}{k:Expr→Str→Pos→Option β}{b:β}{R:Expr→Prop}(h:aH0 e k=some b)(f:∀ o x p,k o x p=some b→R (.Attribute o x p)):R e :=
 if hc:e.ctorIdx=20 then Expr.Attribute.elim (motive_1:=fun e=>aH0 e k=some b→R e) e hc (fun o x p h=>f o x p h) h else b9 ((dif_neg hc).symm.trans h)
noncomputable def bY6 {β:Type}(e:Expr)(k:Expr→Expr→Option β):Option β:=if h:e.ctorIdx=21 then Expr.Subscript.elim (motive_1:=fun _=>Option β) e h fun o i p=>k o i else none
noncomputable def az7 {β:Type}(e:Expr)(k:Option Expr→Option Expr→Option Expr→Option β):Option β:=if h:e.ctorIdx=26 then Expr.Slice.elim (motive_1:=fun _=>Option β) e h fun a b c p=>k a b c else none
@[elab_as_elim] theorem aL4 {β:Type}{e:Expr}{k:Option Expr→Option Expr→Option Expr→Option β}{b:β}{R:Expr→Prop}(h:az7 e k=some b)(f:∀ a d c p,k a d c=some b→R (.Slice a d c p)):R e :=
 if hc:e.ctorIdx=26 then Expr.Slice.elim (motive_1:=fun e=>az7 e k=some b→R e) e hc (fun a b c p h=>f a b c p h) h else b9 ((dif_neg hc).symm.trans h)
noncomputable def on1 {α β:Type}(l:List α)(k:α→Option β):Option β:=match l with
 | []=>none
 | a::r=>(match r with
  | []=>k a
  | _::_=>none)
@[elab_as_elim] theorem ad3 {α β:Type}{l:List α}{k:α→Option β}{b:β}{R:List α→Prop}(h:on1 l k=some b)(f:∀ a,k a=some b→R [a]):R l:=by
 cases l with
 | nil=>exact b9 h
 | cons a r=>cases r with
  | nil=>exact f a h
  | cons _ _=>exact b9 h
noncomputable def L5 {β:Type}(e:Expr)(k:Const→Option β):Option β:=if h:e.ctorIdx=19 then Expr.Constant.elim (motive_1:=fun _=>Option β) e h fun c _ _=>k c else none
@[elab_as_elim] theorem O2 {β:Type}{e:Expr}{k:Const→Option β}{b:β}{R:Expr→Prop}(h:L5 e k=some b)(f:∀ c n p,k c=some b→R (.Constant c n p)):R e :=
 if hc:e.ctorIdx=19 then Expr.Constant.elim (motive_1:=fun e=>L5 e k=some b→R e) e hc (fun c n p h=>f c n p h) h else b9 ((dif_neg hc).symm.trans h)
noncomputable def bn5 {β:Type}(s:Stmt)(k:Expr→Option β):Option β:=if h:s.ctorIdx=3 then Stmt.Return.elim (motive_2:=fun _=>Option β) s h fun v _=>v.bind k else none
@[elab_as_elim] theorem a14 {β:Type}{s:Stmt}{k:Expr→Option β}{b:β}{R:Stmt→Prop}(h:bn5 s k=some b)(f:∀ e p,k e=some b→R (.Return (some e) p)):R s :=
 if hc:s.ctorIdx=3 then Stmt.Return.elim (motive_2:=fun s=>bn5 s k=some b→R s) s hc (fun v p h=>by cases v with|some e=>exact f e p h|none=>exact b9 h) h else b9 ((dif_neg hc).symm.trans h)
noncomputable def aE7 {β:Type}(e:Expr)(k:Expr→List Expr→Option β):Option β:=if h:e.ctorIdx=16 then Expr.Call.elim (motive_1:=fun _=>Option β) e h fun f as ks _=>g9 ks.isEmpty (k f as) else none
@[elab_as_elim] theorem ay5 {β:Type}{e:Expr}{k:Expr→List Expr→Option β}{b:β}{R:Expr→Prop}(h:aE7 e k=some b)(g:∀ f as p,k f as=some b→R (.Call f as [] p)):R e :=
 if hc:e.ctorIdx=16 then Expr.Call.elim (motive_1:=fun e=>aE7 e k=some b→R e) e hc (fun f as ks p h=>by cases ks with|nil=>exact g f as p h|cons _ _=>exact b9 h) h else b9 ((dif_neg hc).symm.trans h)
noncomputable def on2 {α β:Type}(l:List α)(k:α→α→Option β):Option β:=match l with
 | []=>none
 | a::r=>on1 r (k a)
@[elab_as_elim] theorem aU2 {α β:Type}{l:List α}{k:α→α→Option β}{b:β}{R:List α→Prop}(h:on2 l k=some b)(f:∀ a c,k a c=some b→R [a,c]):R l:=by
 cases l with
 | nil=>exact b9 h
 | cons a r=>exact ad3 (R:=fun r=>R (a::r)) h fun c h=>f a c h
noncomputable def ch6:V→Option SrcK
 | .ty t=>(match t with
  | .range=>some .range
  | .reversed=>some .rev
  | _=>none)
 | _=>none
noncomputable def co6 (f:Expr→Option IE)(k:SrcK)(as:List Expr):Option (SrcK × IE):=match as with
 | []=>none
 | a::r=>g9 (!E5 a) (match k with
  | .range=>(match r with
   | []=>(f a).map fun v=>(k,v)
   | b::s=>g9 (!E5 b&&s.isEmpty) (am7 (fun v w=>(.range2,.tup [v,w])) (f a) (f b)))
  | _=>g9 r.isEmpty ((f a).map fun v=>(k,v)))
noncomputable def ci6 (c:CC)(e:Expr):Option (SrcK × List Expr):=aE7 e fun f as=>D5 f fun g=>((U8 c g).bind ch6).map fun k=>(k,as)
noncomputable def z8 (f:Expr→Option IE)(c:CC)(e:Expr):Option (SrcK × IE):=match ci6 c e with
 | some ka=>co6 f ka.1 ka.2
 | none=>(f e).map fun v=>(SrcK.val,v)
noncomputable def bt5 (f:Expr→Option IE)(m:Mt)(args:List Expr)(o:Option IE):Option IE:=match m.one with
 | true=>on1 args fun a=>am7 (fun v i=>.meth v m [i]) o (f a)
 | false=>g9 args.isEmpty (o.map fun v=>.meth v m [])
noncomputable def aH8 (c:CC)(scope:Scope)(x:Str):CC:={ c with scope:=aa9 scope c.scope,slots:=(x,c.nxt)::c.slots,nxt:=c.nxt+1 }
noncomputable def bR4 (f:Expr→Option IE):Option Expr→Option (Option IE)
 | none=>some none
 | some e=>(f e).map some
noncomputable def aF3 {β:Type}(e:Expr)(k:Const→Option β):Option β:=if h:e.ctorIdx=3 then Expr.UnaryOp.elim (motive_1:=fun _=>Option β) e h fun o e _=>g9 (o==.USub) (L5 e k) else none
@[elab_as_elim] theorem aV2 {β:Type}{e:Expr}{k:Const→Option β}{b:β}{R:Expr→Prop}(h:aF3 e k=some b)(f:∀ c n p q,k c=some b→R (.UnaryOp .USub (.Constant c n p) q)):R e :=
 if hc:e.ctorIdx=3 then Expr.UnaryOp.elim (motive_1:=fun e=>aF3 e k=some b→R e) e hc (fun o e q h=>f0 (b:=o==.USub) (x:=L5 e k) h fun h1 h2=>by
  cases o with
  | USub=>exact O2 (R:=fun e=>R (.UnaryOp .USub e q)) h2 fun c n p h=>f c n p q h
  | _=>exact Bool.noConfusion h1) h else b9 ((dif_neg hc).symm.trans h)
noncomputable def bD8:Const→Option Bool
 | .int i=>if i=1 then some false else if i=2 then some true else none
 | _=>none
noncomputable def bT3 (f:Expr→Option IE)(o i:Expr):Option IE:=match i.ctorIdx==26 with
 | true=>az7 i fun lo hi st=>match st with
  | none=>Q5 IE.slice (f o) (bR4 f lo) (bR4 f hi)
  | some e=>g9 (lo.isNone&&hi.isNone) (am7 IE.rev (f o) (aF3 e bD8))
 | false=>am7 IE.sub (f o) (f i)
noncomputable def cUn (op:UnaryOp)(x:Option IE):Option IE:=match op with
 | .USub=>x.map .neg
 | .Not=>x.map .not
 | _=>none
noncomputable def bU8 (op:BoolOp)(vs:Option (List IE)):Option IE:=vs.bind fun vs=>match op with
 | .And=>ax6 .and vs
 | .Or=>ax6 .or vs
noncomputable def ci3 (f:Expr→Option IE)(l:Option IE)(ops:List CmpOp)(rs:List Expr):Option IE:=match ops with
 | []=>none
 | op::ops=>(match ops with
  | []=>on1 rs fun r=>am7 (fun a b=>.cmp a op b) l (f r)
  | op'::_=>g9 (ops.length.beq 1) (on2 rs fun r r'=>Q5 (fun a b d=>.cmp2 a op b op' d) l (f r) (f r')))
noncomputable def cb6:Option V→Bool
 | some v=>(match v with
  | .bk=>true
  | _=>false)
 | none=>false
noncomputable def bD5 (f:Expr→Option IE)(c:CC)(fn:Expr)(args:List Expr)(pos:Pos):Option IE:=g9 (!args.any E5&&args.length.ble 20) (match fn.ctorIdx==23 with
 | true=>D5 fn fun x=>(match cb6 (U8 c x) with
  | true=>g9 args.isEmpty (some .new)
  | false=>am7 IE.call (U8 c x) (K6 f args))
 | false=>aH0 fn fun o name apos=>g9 (D8 o&&apos.endLine.beq pos.line) (match b31 name with
  | some m=>bt5 f m args (f o)
  | none=>g9 (c.mts.contains name) (am7 (fun v as=>.mcall v name as) (f o) (K6 f args))))
noncomputable def okC (c:CC)(scope:Scope)(x:Str)(a:Int):Bool:=a==0&&aG9 scope c.scope&&bE4 scope x&&(scope.names.all fun y=>y.2 != .local||y.1==x||(c.slots.lookup y.1).isNone)&&(c.slots.all fun p=>p.2<c.nxt)
noncomputable def a69 (e:Expr):Bool:=e.ctorIdx==25
noncomputable def a74 {β:Type}(e:Expr)(k:List Expr→Option β):Option β:=if h:e.ctorIdx=25 then Expr.Tuple.elim (motive_1:=fun _=>Option β) e h fun es _ _=>k es else none
@[elab_as_elim] theorem aF8 {β:Type}{e:Expr}{k:List Expr→Option β}{b:β}{R:Expr→Prop}(h:a74 e k=some b)(f:∀ es n p,k es=some b→R (.Tuple es n p)):R e :=
 if hc:e.ctorIdx=25 then Expr.Tuple.elim (motive_1:=fun e=>a74 e k=some b→R e) e hc (fun es n p h=>f es n p h) h else b9 ((dif_neg hc).symm.trans h)
noncomputable def ah6 (c:CC)(scope:Scope)(x y:Str):CC:={ c with scope:=aa9 scope c.scope,slots:=(x,c.nxt)::(y,c.nxt+1)::c.slots,nxt:=c.nxt+2 }
noncomputable def b81 (c:CC)(scope:Scope)(x y:Str)(a:Int):Bool:=a==0&&aG9 scope c.scope&&(scope.names.lookup x==some .local&&scope.names.lookup y==some .local&&!(x==y)&&(scope.names.filter I2).isEmpty)&&(scope.names.all fun z=>z.2 != .local||z.1==x||z.1==y||(c.slots.lookup z.1).isNone)&&(c.slots.all fun p=>p.2<c.nxt)
noncomputable def b19 (f:CC→Expr→Option IE)(c:CC)(elt:Expr)(scope:Scope)(tgt iter:Expr)(ifs:List Expr)(a:Int):Option IE:=match a69 tgt with
 | true=>a74 tgt fun ts=>on2 ts fun tx ty=>D5 tx fun x=>D5 ty fun y=>g9 (b81 c scope x y a&&ifs.isEmpty) (am7 (fun ks e=>.comp2 e c.nxt ks.1 ks.2) (z8 (f c) c iter) (f (ah6 c scope x y) elt))
 | false=>D5 tgt fun x=>g9 (okC c scope x a) (match ifs with
  | []=>am7 (fun ks e=>.comp e c.nxt ks.1 ks.2) (z8 (f c) c iter) (f (aH8 c scope x) elt)
  | t::r=>g9 r.isEmpty (Q5 (fun ks e b=>.compI e b c.nxt ks.1 ks.2) (z8 (f c) c iter) (f (aH8 c scope x) elt) (f (aH8 c scope x) t)))
noncomputable def cLc (f:CC→Expr→Option IE)(c:CC)(elt:Expr)(gens:List Comprehension)(scope:Scope):Option IE:=on1 gens fun g=>b19 f c elt scope g.target g.iter g.ifs g.is_async
noncomputable def bS0 (e:Option Expr):Option Str:=e.bind fun e=>L5 e fun c=>match c with
 | .str s=>g9 (decide (s.length≤2000000)&&PyData.strOk s) (some s)
 | _=>none
noncomputable def by0 (f:Expr→Option IE)(ks:List (Option Expr))(vs:List Expr):Option IE:=match ks with
 | []=>g9 vs.isEmpty (some .dct)
 | _::_=>g9 (ks.length.beq vs.length&&ks.length.ble 15) (am7 IE.dctL (K6 bS0 ks) (K6 f vs))
noncomputable def cc0 (f:CC→Expr→Option IE)(c:CC)(e:Expr):Option IE:=match e with
 | .Constant k _ _=>(an2 k).map .lit
 | .Name x _=>aK7 c x
 | .BinOp l op r _=>am7 (IE.bin op) (f c l) (f c r)
 | .UnaryOp op x _=>cUn op (f c x)
 | .BoolOp op vs _=>bU8 op (K6 (f c) vs)
 | .IfExp t a b _=>Q5 IE.ite (f c t) (f c a) (f c b)
 | .Compare l ops rs _=>ci3 (f c) (f c l) ops rs
 | .Tuple es _ _=>g9 (!es.any E5) ((K6 (f c) es).map .tup)
 | .List es _=>g9 (!es.any E5) ((K6 (f c) es).map .lst)
 | .Call fn args ks pos=>g9 ks.isEmpty (bD5 (f c) c fn args pos)
 | .Subscript o i _=>bT3 (f c) o i
 | .ListComp elt gens scope _=>cLc f c elt gens scope
 | .Attribute o x _=>g9 (X9 x&&D8 o) ((f c o).map fun v=>.attr v x)
 | .Dict ks vs _=>by0 (f c) ks vs
 | _=>none
noncomputable def g8:Nat→CC→Expr→Option IE
 | 0=>fun _ _=>none
 | n+1=>cc0 (g8 n)
noncomputable def ag9 (c:CC)(x:Str):Option Nat:=(c.scope.names.lookup x).bind fun k=>match k with
 | .local=>c.slots.lookup x
 | .cell=>c.slots.lookup x
 | _=>none
noncomputable def co1:V→Option (Str × List Str)
 | .cls z ups=>some (z,ups)
 | _=>none
noncomputable def bS5 (c:CC)(y:Str):Option (List Str):=((U8 c y).bind co1).bind fun u=>g9 (u.1==y) (some u.2)
noncomputable def ch8 (e:Expr):Bool:=e.ctorIdx==23
noncomputable def a20 (c:CC)(e:Expr):Option IE:=match ch8 e with
 | true=>D5 e fun x=>g9 (c.scope.names.lookup x==some .local&&!(x==("__debug__":Str))) ((c.slots.lookup x).map .loc)
 | false=>L5 e fun k=>(an2 k).map .lit
noncomputable def a90 (c:CC):ExceptHandler→Option (Str × IE)
 | .ExceptHandler ty nm body _=>g9 nm.isNone (ty.bind fun t=>D5 t fun y=>(bS5 c y).bind fun _=>on1 body fun st=>bn5 st fun e=>(a20 c e).map fun ie=>(y,ie))
noncomputable def aA5 (e d:Option Expr):Option (Str × Const):=match d with
 | some _=>none
 | none=>e.bind fun e=>aE7 e fun f as=>D5 f fun x=>on1 as fun a=>L5 a fun k=>some (x,k)
@[elab_as_elim] theorem aL7 {e d:Option Expr}{u:Str × Const}{R:Option Expr→Option Expr→Str × Const→Prop}(h:aA5 e d=some u)(g:∀ x k np kn kp cp,R (some (.Call (.Name x np) [.Constant k kn kp] [] cp)) none (x,k)):R e d u:=by
 cases d with
 | some _=>exact b9 h
 | none=>cases e with
  | none=>exact b9 h
  | some e =>
   refine ay5 (R:=fun e=>R (some e) none u) h fun f as p h=>?_
   refine t0 (R:=fun f=>R (some (.Call f as [] p)) none u) h fun x np h=>?_
   refine ad3 (R:=fun as=>R (some (.Call (.Name x np) as [] p)) none u) h fun a h=>?_
   refine O2 (R:=fun a=>R (some (.Call (.Name x np) [a] [] p)) none u) h fun k kn kp h=>?_
   obtain rfl:=Option.some.inj h
   exact g x k np kn kp p
noncomputable def bC1 (c:CC)(o:Option (Str × Const)):Option IS:=o.bind fun u=>g9 (an2 u.2).isSome ((bS5 c u.1).map fun ups=>.raise u.1 ups)
noncomputable def cq1 (f:Expr→Option IE)(c:CC)(e t:Expr):Option IS:=match t.ctorIdx==23 with
 | true=>D5 t fun x=>am7 IS.assign (ag9 c x) (f e)
 | false=>match t.ctorIdx==21 with
  | true=>bY6 t fun o i=>Q5 (fun v o i=>IS.setItem o i v) (f e) (f o) (f i)
  | false=>aH0 t fun o x _=>g9 (!aF5 e&&X9 x) (am7 (fun v o=>IS.setAttr o x v) (f e) (f o))
noncomputable def bT0 (f:Expr→Option IE)(c:CC)(t iter:Expr)(b:Option (List IS)):Option IS:=match a69 t with
 | true=>a74 t fun ts=>on2 ts fun tx ty=>D5 tx fun x=>D5 ty fun y=>g9 (!(x==y)) ((ag9 c x).bind fun i=>Q5 (fun j ks b=>.for2 i j ks.1 ks.2 b) (ag9 c y) (z8 f c iter) b)
 | false=>D5 t fun x=>Q5 (fun i ks b=>.for i ks.1 ks.2 b) (ag9 c x) (z8 f c iter) b
noncomputable def bU1 (f:Expr→Option IE)(g:Stmt→Option IS)(c:CC)(st:Stmt):Option IS:=match st with
 | .Expr e _=>g9 (!aF5 e) ((f e).map .expr)
 | .Assign ts e _=>on1 ts (cq1 f c e)
 | .Return v _=>v.bind fun e=>(f e).map .ret
 | .If t a b _=>Q5 IS.ite (f t) (K6 g a) (K6 g b)
 | .While t b els _=>g9 els.isEmpty (am7 IS.while (f t) (K6 g b))
 | .For t iter b els _=>g9 els.isEmpty (bT0 f c t iter (K6 g b))
 | .Raise e cause _=>bC1 c (aA5 e cause)
 | .Try b hs els fin _=>g9 (els.isEmpty&&fin.isEmpty&&!hs.isEmpty) (am7 IS.tryR (K6 g b) (K6 (a90 c) hs))
 | _=>none
noncomputable def aN1:Nat→CC→Stmt→Option IS
 | 0=>fun _ _=>none
 | n+1=>fun c=>bU1 (g8 n c) (aN1 n c) c
noncomputable def Y0:List Str→Nat→List (Str × Nat)
 | [],_=>[]
 | x::r,k=>(x,k)::Y0 r (k+1)
noncomputable def N9 (params:List Str)(scope:Scope):List Str :=
 params++((scope.names.filter fun x=>(x.2==.local||x.2==.cell)&&!params.contains x.1).map (·.1))
noncomputable def bb9 (G:List (Str × V))(mts:List Str)(params:List Str)(body:List Stmt)(scope:Scope):Option Fn :=
 let ns:=N9 params scope
 let c:CC:={ G,mts,scope,slots:=Y0 ns 0,nxt:=ns.length }
 (K6 (aN1 40 c) body).map fun b=>{ names:=ns.length+3,params:=params.length,body:=b }
end Mine
namespace Mine
open PySem
theorem hid {A B:Prop}(h:A=B):A=B:=h
theorem bf4 {p:Prop}[Decidable p]{A B:Prop}:ifP (decide p) A B=((p→A)∧(¬ p→B)):=by by_cases h:p<;>simp [ifP,h]
noncomputable def cp5:Nat→Unit:=(fun _ _=>()) (@j1,@z5,@j7,@I6,@n9,@u7,@al6,@E7,@s9,@U0,@ac3,@v8)
noncomputable def hiP (P:Prop):Prop:=(fun _=>P) (cp5 0)
noncomputable def rQ (Q:V→Hp→Prop):QS:=fun fl _ H1=>hiP (Q (bK1 fl) H1)
noncomputable def rX (X:XL):XS:=fun x _ H1=>hiP (X x H1)
noncomputable def xL (XF:XS)(L:Lc):XL:=fun x=>XF x L
noncomputable def cE (QF:QS)(L:Lc):V→Hp→Prop:=fun _ H1=>hiP (QF .next L H1)
noncomputable def cR (QF:QS)(L:Lc):V→Hp→Prop:=fun v H1=>hiP (QF (.ret v) L H1)
noncomputable def cI (Φ:Orc)(a b:List IS)(L:Lc)(QF:QS)(XF:XS):Bool→Hp→Prop:=fun c H1=>hiP (ifP c (j1 Φ a L H1 QF XF) (j1 Φ b L H1 QF XF))
noncomputable def kV (H:Hp)(Q:V→Hp→Prop):V→Prop:=fun v=>hiP (Q v H)
noncomputable def kB (H:Hp)(Q:V→Hp→Prop):Bool→Prop:=fun c=>hiP (Q (.bool c) H)
noncomputable def kT (P:Bool→Hp→Prop):V→Hp→Prop:=fun v H1=>hiP (tX v fun c=>P c H1)
noncomputable def br7 (op:Operator)(va:V)(Q:V→Hp→Prop):V→Hp→Prop:=fun vb H2=>hiP (s9 op va vb H2 Q)
noncomputable def ci7 (Φ:Orc)(op:Operator)(b:IE)(L:Lc)(Q:V→Hp→Prop)(X:XL):V→Hp→Prop:=fun va H1=>hiP ((wp2 Φ b).E L H1 (br7 op va Q) X)
noncomputable def bs3 (op:CmpOp)(va:V)(Q:V→Hp→Prop):V→Hp→Prop:=fun vb H2=>hiP (U0 op va vb H2 Q)
noncomputable def cj2 (Φ:Orc)(op:CmpOp)(b:IE)(L:Lc)(Q:V→Hp→Prop)(X:XL):V→Hp→Prop:=fun va H1=>hiP ((wp2 Φ b).E L H1 (bs3 op va Q) X)
noncomputable def bm2 (vo:V)(Q:V→Hp→Prop):V→Hp→Prop:=fun vi H2=>hiP (a27 vo vi H2 Q)
noncomputable def ci4 (Φ:Orc)(i:IE)(L:Lc)(Q:V→Hp→Prop)(X:XL):V→Hp→Prop:=fun vo H1=>hiP ((wp2 Φ i).E L H1 (bm2 vo Q) X)
noncomputable def bQ3 (x:Str)(Q:V→Hp→Prop):V→Hp→Prop:=fun vo H1=>hiP (a04 vo x H1 Q)
noncomputable def bK9 (Φ:Orc)(f:V)(Q:V→Hp→Prop)(X:XL):List V→Hp→Prop:=fun vs H1=>hiP (E7 Φ f vs H1 Q X)
noncomputable def kCo (v:V)(R:List V→Hp→Prop):List V→Hp→Prop:=fun vs H2=>hiP (R (v::vs) H2)
noncomputable def kEs (Φ:Orc)(r:List IE)(L:Lc)(R:List V→Hp→Prop)(X:XL):V→Hp→Prop:=fun v H1=>hiP (O9 Φ r L H1 (kCo v R) X)
noncomputable def kIx (i:Int)(H:Hp)(Q:V→Hp→Prop):List V→Prop:=fun l=>hiP (oK (idx l i) (kV H Q))
noncomputable def kFl (x:Str)(H:Hp)(Q:V→Hp→Prop):Nat × List (Str × V)→Prop:=fun p=>hiP (oK (p.2.lookup x) (kV H Q))
noncomputable def kDc (x:Str)(H:Hp)(Q:V→Hp→Prop):List (Str × V)→Prop:=fun es=>hiP (oK (es.lookup x) (kV H Q))
noncomputable def kAp (n:Nat)(v:V)(H:Hp)(Q:V→Hp→Prop):List V→Prop:=fun l=>hiP (l.length≤1000000∧Q .none (H.set n (.list (l++[v]))))
noncomputable def kLn (H:Hp)(Q:V→Hp→Prop):List V→Prop:=fun l=>hiP (Q (.int (l.length:Int)) H)
noncomputable def kTu (H:Hp)(Q:V→Hp→Prop):List V→Prop:=fun l=>hiP (Q (.tup l) H)
noncomputable def kIn (a:V)(H:Hp)(Q:V→Hp→Prop):List V→Prop:=fun l=>hiP (oK (Q3 a l) (kB H Q))
noncomputable def kNi (a:V)(H:Hp)(Q:V→Hp→Prop):List V→Prop:=fun l=>hiP (oK (Q3 a l) fun c=>Q (.bool (!c)) H)
noncomputable def b89 (Φ:Orc)(x:Str)(i:Nat)(Q:V→Hp→Prop)(X:XL):List V→Hp→Prop:=fun vs H2=>hiP (Φ (Str.ofString "Book."++x) (.ref i::vs) H2 Q X)
noncomputable def b98 (Φ:Orc)(x:Str)(args:List IE)(L:Lc)(i:Nat)(H1:Hp)(Q:V→Hp→Prop)(X:XL):Nat × List (Str × V)→Prop:=fun _=>hiP (O9 Φ args L H1 (b89 Φ x i Q X) X)
noncomputable def kMc (Φ:Orc)(x:Str)(args:List IE)(L:Lc)(Q:V→Hp→Prop)(X:XL):V→Hp→Prop:=fun vo H1=>hiP (oK (ai5 vo) fun i=>oK (au4 H1 i) (b98 Φ x args L i H1 Q X))
noncomputable def b09 (vo:V)(name:Mt)(Q:V→Hp→Prop):List V→Hp→Prop:=fun vs H2=>hiP (al6 vo name vs H2 Q)
noncomputable def kMe (Φ:Orc)(name:Mt)(args:List IE)(L:Lc)(Q:V→Hp→Prop)(X:XL):V→Hp→Prop:=fun vo H1=>hiP (aS6 H1 vo∧O9 Φ args L H1 (b09 vo name Q) X)
noncomputable def bB5 (Φ:Orc)(b:IE)(L:Lc)(P:Bool→Hp→Prop)(X:XL):Bool→Hp→Prop:=fun c H1=>hiP (ifP c ((wp2 Φ b).T L H1 P X) (P false H1))
noncomputable def kOr (Φ:Orc)(b:IE)(L:Lc)(P:Bool→Hp→Prop)(X:XL):Bool→Hp→Prop:=fun c H1=>hiP (ifP c (P true H1) ((wp2 Φ b).T L H1 P X))
noncomputable def kN (P:Bool→Hp→Prop):Bool→Hp→Prop:=fun c H1=>hiP (P (!c) H1)
noncomputable def kTv (H:Hp)(P:Bool→Hp→Prop):V→Prop:=fun v=>hiP (tX v fun c=>P c H)
noncomputable def kNv (Q:V→Hp→Prop):V→Hp→Prop:=fun v H1=>hiP (tX v fun c=>Q (.bool (!c)) H1)
noncomputable def bO7 (Φ:Orc)(b:IE)(L:Lc)(Q:V→Hp→Prop)(X:XL):V→Hp→Prop:=fun v H1=>hiP (tX v fun c=>ifP c ((wp2 Φ b).E L H1 Q X) (Q v H1))
noncomputable def bR1 (Φ:Orc)(b:IE)(L:Lc)(Q:V→Hp→Prop)(X:XL):V→Hp→Prop:=fun v H1=>hiP (tX v fun c=>ifP c (Q v H1) ((wp2 Φ b).E L H1 Q X))
noncomputable def bN2 (Φ:Orc)(a b:IE)(L:Lc)(Q:V→Hp→Prop)(X:XL):Bool→Hp→Prop:=fun c H1=>hiP (ifP c ((wp2 Φ a).E L H1 Q X) ((wp2 Φ b).E L H1 Q X))
noncomputable def aU3 (Φ:Orc)(a b:IE)(L:Lc)(P:Bool→Hp→Prop)(X:XL):Bool→Hp→Prop:=fun c H1=>hiP (ifP c ((wp2 Φ a).T L H1 P X) ((wp2 Φ b).T L H1 P X))
noncomputable def kTp (Q:V→Hp→Prop):List V→Hp→Prop:=fun vs H1=>hiP (Q (.tup vs) H1)
noncomputable def kLs (Q:V→Hp→Prop):List V→Hp→Prop:=fun vs H1=>hiP (Q (.ref H1.length) (H1++[.list vs]))
section
variable {Φ:Orc} {L:Lc} {H:Hp} {Q:V→Hp→Prop} {P:Bool→Hp→Prop} {X:XL} {QF:QS} {XF:XS} {v w:V} {c:Bool} {fl:Fl} {i:Nat} {r:List IE} {R:List V→Hp→Prop} {l:List V} {b:IE}
theorem bX6:kTv H P (.bool c)=P c H:=rfl
theorem b30:kNv Q (.bool c) H=Q (.bool (!c)) H:=rfl
theorem bH3:bO7 Φ b L Q X (.bool true) H=(wp2 Φ b).E L H Q X:=rfl
theorem bQ6:bO7 Φ b L Q X (.bool false) H=Q (.bool false) H:=rfl
theorem bx4 {p:Prop}[Decidable p]:bO7 Φ b L Q X (.bool (decide p)) H=((p→(wp2 Φ b).E L H Q X)∧(¬ p→Q (.bool (decide p)) H)):=bf4
theorem bM6:bO7 Φ b L Q X (.bool c) H=ifP c ((wp2 Φ b).E L H Q X) (Q (.bool c) H):=rfl
theorem bQ8:bR1 Φ b L Q X (.bool true) H=Q (.bool true) H:=rfl
theorem bz3:bR1 Φ b L Q X (.bool false) H=(wp2 Φ b).E L H Q X:=rfl
theorem bG8 {p:Prop}[Decidable p]:bR1 Φ b L Q X (.bool (decide p)) H=((p→Q (.bool (decide p)) H)∧(¬ p→(wp2 Φ b).E L H Q X)):=bf4
theorem bE7:bR1 Φ b L Q X (.bool c) H=ifP c (Q (.bool c) H) ((wp2 Φ b).E L H Q X):=rfl
theorem bJ0 {a:IE}:bN2 Φ a b L Q X true H=(wp2 Φ a).E L H Q X:=rfl
theorem bL5 {a:IE}:bN2 Φ a b L Q X false H=(wp2 Φ b).E L H Q X:=rfl
theorem bD2 {a:IE}{p:Prop}[Decidable p]:bN2 Φ a b L Q X (decide p) H=((p→(wp2 Φ a).E L H Q X)∧(¬ p→(wp2 Φ b).E L H Q X)):=bf4
theorem bQ9 {a:IE}:bN2 Φ a b L Q X c H=ifP c ((wp2 Φ a).E L H Q X) ((wp2 Φ b).E L H Q X):=rfl
theorem bg2 {a:IE}:aU3 Φ a b L P X true H=(wp2 Φ a).T L H P X:=rfl
theorem bo0 {a:IE}:aU3 Φ a b L P X false H=(wp2 Φ b).T L H P X:=rfl
theorem bg8 {a:IE}{p:Prop}[Decidable p]:aU3 Φ a b L P X (decide p) H=((p→(wp2 Φ a).T L H P X)∧(¬ p→(wp2 Φ b).T L H P X)):=bf4
theorem bf5 {a:IE}:aU3 Φ a b L P X c H=ifP c ((wp2 Φ a).T L H P X) ((wp2 Φ b).T L H P X):=rfl
theorem bH5:kTp Q l H=Q (.tup l) H:=rfl
theorem bx9:kLs Q l H=Q (.ref H.length) (H++[.list l]):=rfl
theorem b78:rQ Q fl L H=Q (bK1 fl) H:=rfl
theorem cb2 {x:Exc}:rX X x L H=X x H:=rfl
theorem cn9:xL (rX X) L=X:=rfl
theorem b18:xL (fun _ _ _=>False) L=noX:=rfl
theorem bY7:cE QF L v H=QF .next L H:=rfl
theorem bT7:cR QF L v H=QF (.ret v) L H:=rfl
theorem cq5:cR (rQ Q) L=Q:=rfl
theorem cq7 {a b:List IS}:cI Φ a b L QF XF true H=j1 Φ a L H QF XF:=rfl
theorem cl7 {a b:List IS}:cI Φ a b L QF XF false H=j1 Φ b L H QF XF:=rfl
theorem ck4 {a b:List IS}{p:Prop}[Decidable p]:cI Φ a b L QF XF (decide p) H=((p→j1 Φ a L H QF XF)∧(¬ p→j1 Φ b L H QF XF)):=bf4
theorem cl6 {a b:List IS}:cI Φ a b L QF XF c H=ifP c (j1 Φ a L H QF XF) (j1 Φ b L H QF XF):=rfl
theorem b96:kV H Q v=Q v H:=rfl
theorem ca6:kB H Q c=Q (.bool c) H:=rfl
theorem cq9:kT P (.bool c) H=P c H:=rfl
theorem a87 {op:Operator}:br7 op v Q w H=s9 op v w H Q:=rfl
theorem bh8 {op:Operator}:ci7 Φ op b L Q X v H=(wp2 Φ b).E L H (br7 op v Q) X:=rfl
theorem a15 {op:CmpOp}:bs3 op v Q w H=U0 op v w H Q:=rfl
theorem bt7 {op:CmpOp}:cj2 Φ op b L Q X v H=(wp2 Φ b).E L H (bs3 op v Q) X:=rfl
theorem a44:bm2 v Q w H=a27 v w H Q:=rfl
theorem bk6:ci4 Φ b L Q X v H=(wp2 Φ b).E L H (bm2 v Q) X:=rfl
theorem a38 {x:Str}:bQ3 x Q v H=a04 v x H Q:=rfl
theorem a17 {f:V}:bK9 Φ f Q X l H=E7 Φ f l H Q X:=rfl
theorem bA8:kCo v R l H=R (v::l) H:=rfl
theorem bK6:kEs Φ r L R X v H=O9 Φ r L H (kCo v R) X:=rfl
theorem bP0 {i:Int}:kIx i H Q l=oK (idx l i) (kV H Q):=rfl
theorem bO8 {x:Str}{n:Nat}{es:List (Str × V)}:kFl x H Q (n,es)=oK (es.lookup x) (kV H Q):=rfl
theorem bN6 {x:Str}{es:List (Str × V)}:kDc x H Q es=oK (es.lookup x) (kV H Q):=rfl
theorem bF2:kAp i v H Q l=(l.length≤1000000∧Q .none (H.set i (.list (l++[v])))):=rfl
theorem bB9:kLn H Q l=Q (.int (l.length:Int)) H:=rfl
theorem bx6:kTu H Q l=Q (.tup l) H:=rfl
theorem bG0:kIn v H Q l=oK (Q3 v l) (kB H Q):=rfl
theorem bL3:kNi v H Q l=oK (Q3 v l) fun c=>Q (.bool (!c)) H:=rfl
theorem bo2 {x:Str}:b89 Φ x i Q X l H=Φ (Str.ofString "Book."++x) (.ref i::l) H Q X:=rfl
theorem bk7 {x:Str}{p:Nat × List (Str × V)}:b98 Φ x r L i H Q X p=O9 Φ r L H (b89 Φ x i Q X) X:=rfl
theorem bz4 {x:Str}:kMc Φ x r L Q X (.ref i) H=oK (au4 H i) (b98 Φ x r L i H Q X):=rfl
theorem bs0 {name:Mt}:b09 v name Q l H=al6 v name l H Q:=rfl
theorem bJ5 {name:Mt}:kMe Φ name r L Q X v H=(aS6 H v∧O9 Φ r L H (b09 v name Q) X):=rfl
theorem bO0:bB5 Φ b L P X true H=(wp2 Φ b).T L H P X:=rfl
theorem bP2:bB5 Φ b L P X false H=P false H:=rfl
theorem bP4 {p:Prop}[Decidable p]:bB5 Φ b L P X (decide p) H=((p→(wp2 Φ b).T L H P X)∧(¬ p→P false H)):=bf4
theorem bA1:bB5 Φ b L P X c H=ifP c ((wp2 Φ b).T L H P X) (P false H):=rfl
theorem b56:kOr Φ b L P X true H=P true H:=rfl
theorem b39:kOr Φ b L P X false H=(wp2 Φ b).T L H P X:=rfl
theorem bT6 {p:Prop}[Decidable p]:kOr Φ b L P X (decide p) H=((p→P true H)∧(¬ p→(wp2 Φ b).T L H P X)):=bf4
theorem b79:kOr Φ b L P X c H=ifP c (P true H) ((wp2 Φ b).T L H P X):=rfl
theorem cf8:kN P c H=P (!c) H:=rfl
end
section
variable {Φ:Orc} {L:Lc} {H:Hp} {Q:V→Hp→Prop} {P:Bool→Hp→Prop} {X:XL} {QF:QS} {XF:XS}
theorem g5 {v:V}:(wp2 Φ (.lit v)).E L H Q X=Q v H:=rfl
theorem bk9 {i:Nat}:(wp2 Φ (.loc i)).E L H Q X=oKK L[i]? (kV H Q):=rfl
theorem by7 {op:Operator}{a b:IE}:(wp2 Φ (.bin op a b)).E L H Q X=(wp2 Φ a).E L H (ci7 Φ op b L Q X) X:=rfl
theorem cf9 {a:IE}:(wp2 Φ (.neg a)).E L H Q X=(wp2 Φ a).E L H (fun v H1=>oK (al4 v) fun i=>Q (.int (-i)) H1) X:=rfl
theorem a62 {i:Int}:al4 (.int i)=some i:=rfl
theorem bY9 {a:IE}:(wp2 Φ (.not a)).E L H Q X=(wp2 Φ a).E L H (kNv Q) X:=rfl
theorem b74 {a:IE}:(wp2 Φ (.not a)).T L H P X=(wp2 Φ a).T L H (kN P) X:=rfl
theorem cd0 {a b:IE}:(wp2 Φ (.and a b)).E L H Q X=(wp2 Φ a).E L H (bO7 Φ b L Q X) X:=rfl
theorem bU2 {a b:IE}:(wp2 Φ (.and a b)).T L H P X=(wp2 Φ a).T L H (bB5 Φ b L P X) X:=rfl
theorem cl5 {a b:IE}:(wp2 Φ (.or a b)).E L H Q X=(wp2 Φ a).E L H (bR1 Φ b L Q X) X:=rfl
theorem cl4 {a b:IE}:(wp2 Φ (.or a b)).T L H P X=(wp2 Φ a).T L H (kOr Φ b L P X) X:=rfl
theorem bW9 {a b:IE}{op:CmpOp}:(wp2 Φ (.cmp a op b)).E L H Q X=(wp2 Φ a).E L H (cj2 Φ op b L Q X) X:=rfl
theorem bx3 {a b c:IE}{op op':CmpOp}:(wp2 Φ (.cmp2 a op b op' c)).E L H Q X=(wp2 Φ a).E L H (fun va H1=>(wp2 Φ b).E L H1 (fun vb H2=>U0 op va vb H2 (fun r H3 =>
   tX r fun t=>ifP t ((wp2 Φ c).E L H3 (fun vc H4=>U0 op' vb vc H4 Q) X) (Q r H3))) X) X:=rfl
theorem ca4 {t a b:IE}:(wp2 Φ (.ite t a b)).E L H Q X=(wp2 Φ t).T L H (bN2 Φ a b L Q X) X:=rfl
theorem b16 {t a b:IE}:(wp2 Φ (.ite t a b)).T L H P X=(wp2 Φ t).T L H (aU3 Φ a b L P X) X:=rfl
theorem bK2 {a0:IE}:(wp2 Φ (.tup [a0])).E L H Q X=O9 Φ [a0] L H (kTp Q) X:=cT rfl
theorem bC7 {a0 a1:IE}:(wp2 Φ (.tup [a0,a1])).E L H Q X=O9 Φ [a0,a1] L H (kTp Q) X:=cT rfl
theorem bC4 {a0 a1 a2:IE}:(wp2 Φ (.tup [a0,a1,a2])).E L H Q X=O9 Φ [a0,a1,a2] L H (kTp Q) X:=cT rfl
theorem bE9 {a0 a1 a2 a3:IE}:(wp2 Φ (.tup [a0,a1,a2,a3])).E L H Q X=O9 Φ [a0,a1,a2,a3] L H (kTp Q) X:=cT rfl
theorem bh7 {a0 a1 a2 a3 a4 a5 a6 a7 a8 a9 a10 a11:IE}:(wp2 Φ (.tup [a0,a1,a2,a3,a4,a5,a6,a7,a8,a9,a10,a11])).E L H Q X=O9 Φ [a0,a1,a2,a3,a4,a5,a6,a7,a8,a9,a10,a11] L H (kTp Q) X:=cT rfl
theorem bH6:(wp2 Φ (.lst [])).E L H Q X=Q (.ref H.length) (H++[.list []]):=cT rfl
theorem bH4 {a0:IE}:(wp2 Φ (.lst [a0])).E L H Q X=O9 Φ [a0] L H (kLs Q) X:=cT rfl
theorem bN0 {a0 a1:IE}:(wp2 Φ (.lst [a0,a1])).E L H Q X=O9 Φ [a0,a1] L H (kLs Q) X:=cT rfl
theorem bF5 {a0 a1 a2:IE}:(wp2 Φ (.lst [a0,a1,a2])).E L H Q X=O9 Φ [a0,a1,a2] L H (kLs Q) X:=cT rfl
theorem bz7 {a0 a1 a2 a3:IE}:(wp2 Φ (.lst [a0,a1,a2,a3])).E L H Q X=O9 Φ [a0,a1,a2,a3] L H (kLs Q) X:=cT rfl
theorem bF6 {a0 a1 a2 a3 a4 a5 a6 a7:IE}:(wp2 Φ (.lst [a0,a1,a2,a3,a4,a5,a6,a7])).E L H Q X=O9 Φ [a0,a1,a2,a3,a4,a5,a6,a7] L H (kLs Q) X:=cT rfl
theorem bn6 {a0 a1 a2 a3 a4 a5 a6 a7 a8 a9:IE}:(wp2 Φ (.lst [a0,a1,a2,a3,a4,a5,a6,a7,a8,a9])).E L H Q X=O9 Φ [a0,a1,a2,a3,a4,a5,a6,a7,a8,a9] L H (kLs Q) X:=cT rfl
theorem bv0 {a0 a1 a2 a3 a4 a5 a6 a7 a8 a9 a10 a11:IE}:(wp2 Φ (.lst [a0,a1,a2,a3,a4,a5,a6,a7,a8,a9,a10,a11])).E L H Q X=O9 Φ [a0,a1,a2,a3,a4,a5,a6,a7,a8,a9,a10,a11] L H (kLs Q) X:=cT rfl
theorem bb6 {f:V}{args:List IE}:(wp2 Φ (.call f args)).E L H Q X=O9 Φ args L H (bK9 Φ f Q X) X:=rfl
theorem bz2 {o:IE}{name:Mt}{args:List IE}:(wp2 Φ (.meth o name args)).E L H Q X=(wp2 Φ o).E L H (kMe Φ name args L Q X) X:=rfl
theorem bE5 {o i:IE}:(wp2 Φ (.sub o i)).E L H Q X=(wp2 Φ o).E L H (ci4 Φ i L Q X) X:=rfl
noncomputable def av5 (Φ:Orc)(elt:IE)(X:XL):Lc→Hp→(Option V→Hp→Prop)→Prop:=fun L' H' K=>(wp2 Φ elt).E L' H' (fun v H2=>K (some v) H2) X
noncomputable def bx0 (Φ:Orc)(elt t:IE):Lc→Hp→(Option V→Hp→Prop)→Prop:=fun L' H' K=>(wp2 Φ t).T L' H' (fun c H2=>ifP c ((wp2 Φ elt).E L' H2 (fun v H3=>K (some v) H3) noX) (K none H2)) noX
theorem bk3 {elt t:IE}{j:Nat}{k:SrcK}{src:IE}:(wp2 Φ (.compI elt t j k src)).E L H Q X=(wp2 Φ src).E L H (fun v H1=>ac3 k v H1 fun items st =>
   n9 (bx0 Φ elt t) st j L items [] H1 (fun ys H2=>ys.length≤1000000∧Q (.ref H2.length) (H2++[.list ys]))) X:=rfl
theorem by6 {elt:IE}{j:Nat}{k:SrcK}{src:IE}:(wp2 Φ (.comp elt j k src)).E L H Q X=(wp2 Φ src).E L H (fun v H1=>ac3 k v H1 fun items st =>
   n9 (av5 Φ elt noX) st j L items [] H1 (fun ys H2=>ys.length≤1000000∧Q (.ref H2.length) (H2++[.list ys]))) X:=rfl
theorem bZ1 {v:V}:(wp2 Φ (.lit v)).T L H P X=tX v fun c=>P c H:=rfl
theorem b57 {i:Nat}:(wp2 Φ (.loc i)).T L H P X=oKK L[i]? (kTv H P):=rfl
theorem b55 {a b:IE}{op:CmpOp}:(wp2 Φ (.cmp a op b)).T L H P X=(wp2 Φ (.cmp a op b)).E L H (kT P) X:=rfl
theorem bz5 {a b c:IE}{op op':CmpOp}:(wp2 Φ (.cmp2 a op b op' c)).T L H P X=(wp2 Φ (.cmp2 a op b op' c)).E L H (kT P) X:=rfl
theorem bR0 {f:V}{args:List IE}:(wp2 Φ (.call f args)).T L H P X=(wp2 Φ (.call f args)).E L H (kT P) X:=rfl
theorem b52 {o i:IE}:(wp2 Φ (.sub o i)).T L H P X=(wp2 Φ (.sub o i)).E L H (kT P) X:=rfl
theorem bg3 {R:List V→Hp→Prop}:O9 Φ [] L H R X=R [] H:=rfl
theorem aG8 {e:IE}{r:List IE}{R:List V→Hp→Prop}:O9 Φ (e::r) L H R X=(wp2 Φ e).E L H (kEs Φ r L R X) X:=rfl
theorem bc7 {e:IE}:wpS Φ (.expr e) L H QF XF=(wp2 Φ e).E L H (cE QF L) (xL XF L):=rfl
theorem K2 {i:Nat}{e:IE}:wpS Φ (.assign i e) L H QF XF=(wp2 Φ e).E L H (fun v H1=>QF .next (L.set i (some v)) H1) (xL XF L):=rfl
theorem ca1 {e:IE}:wpS Φ (.ret e) L H QF XF=(wp2 Φ e).E L H (cR QF L) (xL XF L):=rfl
theorem bl4 {t:IE}{a b:List IS}:wpS Φ (.ite t a b) L H QF XF=(wp2 Φ t).T L H (cI Φ a b L QF XF) (xL XF L):=rfl
noncomputable def a39 (Φ:Orc)(t:IE)(XF:XL):Lc→Hp→(Bool→Hp→Prop)→Prop:=fun L' H' K=>(wp2 Φ t).T L' H' K XF
noncomputable def A4 (Φ:Orc)(b:List IS)(XF:XS):Lc→Hp→QS→Prop:=fun L' H' K=>j1 Φ b L' H' K XF
theorem T9 {t:IE}{b:List IS}:wpS Φ (.while t b) L H QF XF=∃ n,z5 (a39 Φ t noX) (A4 Φ b aR0) n L H QF:=rfl
theorem aJ3 {j:Nat}{k:SrcK}{src:IE}{b:List IS}:wpS Φ (.for j k src b) L H QF XF=(wp2 Φ src).E L H (fun v H1=>ac3 k v H1 fun items st =>
   j7 (A4 Φ b XF) st j items L H1 QF) (xL XF L):=rfl
theorem bR3 {i j:Nat}{k:SrcK}{src:IE}{b:List IS}:wpS Φ (.for2 i j k src b) L H QF XF=(wp2 Φ src).E L H (fun v H1=>ac3 k v H1 fun items st =>
   I6 (A4 Φ b XF) st (bdp i j) items L H1 QF) (xL XF L):=rfl
theorem aw0:j1 Φ [] L H QF XF=QF .next L H:=rfl
noncomputable def sqX (Φ:Orc)(r:List IS)(QF:QS)(XF:XS):QS:=nxt (fun L1 H1=>j1 Φ r L1 H1 QF XF) QF
theorem n7 {r:List IS}:sqX Φ r QF XF .next L H=j1 Φ r L H QF XF:=rfl
theorem bg5 {x:Str}{ups:List Str}:wpS Φ (.raise x ups) L H QF XF=XF ⟨x,ups⟩ L H:=rfl
noncomputable def hnX (hs:List (Str × IE))(QF:QS):XS:=fun x L' H'=>bD0 x L' H' QF hs
theorem bu4 {b:List IS}{hs:List (Str × IE)}:wpS Φ (.tryR b hs) L H QF XF=j1 Φ b L H QF (hnX hs QF):=rfl
theorem cb9 {r:List IS}:cR (sqX Φ r QF XF) L=cR QF L:=rfl
theorem bo4 {r:List IS}{v:V}:sqX Φ r QF XF (.ret v) L H=QF (.ret v) L H:=rfl
theorem bv3 {s:IS}{r:List IS}:j1 Φ (s::r) L H QF XF=wpS Φ s L H (sqX Φ r QF XF) XF:=rfl
theorem b0 {s:IS}{r:List IS}(h:wpS Φ s L H (sqX Φ r QF XF) XF):j1 Φ (s::r) L H QF XF:=h
noncomputable def sqK (Φ:Orc)(r:List IS)(QF:QS)(XF:XS):QS:=sqX Φ r QF XF
theorem d7 {s:IS}{r:List IS}(h:wpS Φ s L H (sqK Φ r QF XF) XF):j1 Φ (s::r) L H QF XF:=h
theorem cd4 {r:List IS}:cR (sqK Φ r QF XF) L=cR QF L:=rfl
theorem j3 {r:List IS}(h:j1 Φ r L H QF XF):sqX Φ r QF XF .next L H:=h
noncomputable def wkX (test:Lc→Hp→(Bool→Hp→Prop)→Prop)(body:Lc→Hp→QS→Prop)(n:Nat)(Q:QS):QS:=lop (fun L1 H2=>z5 test body n L1 H2 Q) Q
noncomputable def fkX (body:Lc→Hp→QS→Prop)(st:Hp→Prop)(j:Nat)(r:List V)(Q:QS):QS:=lop (fun L1 H1=>st H1∧j7 body st j r L1 H1 Q) Q
noncomputable def cj4 (body:Lc→Hp→QS→Prop)(st:Hp→Prop)(i j:Nat)(r:List V)(Q:QS):QS:=lop (fun L1 H1=>st H1∧I6 body st (bdp i j) r L1 H1 Q) Q
end
section
variable {Φ:Orc} {t:IE} {b:List IS} {XF:XS} {X:XL} {test:Lc→Hp→(Bool→Hp→Prop)→Prop} {body:Lc→Hp→QS→Prop} {n:Nat} {Q:QS} {L:Lc} {H:Hp} {st:Hp→Prop} {j:Nat} {x:V} {r:List V} {v:V} {acc:List V} {QL:List V→Hp→Prop} {elt:IE}
theorem ab5:z5 (a39 Φ t X) (A4 Φ b XF) (n+1) L H Q=(wp2 Φ t).T L H (fun c H1=>ifP c (j1 Φ b L H1 (wkX (a39 Φ t X) (A4 Φ b XF) n Q) XF) (Q .next L H1)) X:=rfl
theorem a55:wkX test body n Q .next L H=z5 test body n L H Q:=rfl
theorem bi5:wkX test body n Q (.ret v) L H=Q (.ret v) L H:=rfl
theorem ah0:j7 body st j [] L H Q=Q .next L H:=rfl
theorem g4:j7 (A4 Φ b XF) st j (x::r) L H Q=j1 Φ b (L.set j (some x)) H (fkX (A4 Φ b XF) st j r Q) XF:=rfl
theorem a77 {i:Nat}{a c:V}:I6 (A4 Φ b XF) st (bdp i j) (.tup [a,c]::r) L H Q=j1 Φ b ((L.set i (some a)).set j (some c)) H (cj4 (A4 Φ b XF) st i j r Q) XF:=rfl
theorem aP1 {i:Nat}:cj4 body st i j r Q .next L H=(st H∧I6 body st (bdp i j) r L H Q):=rfl
theorem a43:fkX body st j r Q .next L H=(st H∧j7 body st j r L H Q):=rfl
theorem cg5:cR (fkX body st j r Q) L=cR Q L:=rfl
theorem cd1:cR (wkX test body n Q) L=cR Q L:=rfl
theorem bg4:fkX body st j r Q (.ret v) L H=Q (.ret v) L H:=rfl
theorem aE9 {t:IE}:n9 (bx0 Φ elt t) st j L (x::r) acc H QL=(wp2 Φ t).T (L.set j (some x)) H (fun c H2=>ifP c ((wp2 Φ elt).E (L.set j (some x)) H2 (fun y H3=>st H3∧n9 (bx0 Φ elt t) st j L r (acc++[y]) H3 QL) noX) (st H2∧n9 (bx0 Φ elt t) st j L r (acc++[]) H2 QL)) noX:=rfl
theorem bi3 {el:Lc→Hp→(Option V→Hp→Prop)→Prop}:n9 el st j L [] acc H QL=QL acc H:=rfl
theorem y9:n9 (av5 Φ elt X) st j L (x::r) acc H QL=(wp2 Φ elt).E (L.set j (some x)) H (fun y H2=>st H2∧n9 (av5 Φ elt X) st j L r (acc++[y]) H2 QL) X:=rfl
theorem bo1 {Q:V→Hp→Prop}{k:SrcK}{src:IE}:(wp2 Φ (.comp2 elt j k src)).E L H Q X=(wp2 Φ src).E L H (fun v H1=>ac3 k v H1 fun items st =>
   u7 (av5 Φ elt noX) st (bd2 j L) items [] H1 (fun ys H2=>ys.length≤1000000∧Q (.ref H2.length) (H2++[.list ys]))) X:=rfl
theorem a68 {a b:V}:u7 (av5 Φ elt X) st (bd2 j L) (.tup [a,b]::r) acc H QL=(wp2 Φ elt).E ((L.set j (some a)).set (j+1) (some b)) H (fun y H2=>st H2∧u7 (av5 Φ elt X) st (bd2 j L) r (acc++[y]) H2 QL) X:=rfl
theorem a67 {α:Type}{a:α}{P:α→Prop}:oKK (some (some a)) P=P a:=rfl
theorem bB1 {α:Type}{t:Option α}{a:α}{P:α→Prop}(h:t=some a):oK t P=P a:=by rw [h];rfl
theorem bj8 {α:Type}{a:α}{P:α→Prop}:oK (some a) P=P a:=rfl
theorem bh3 {b:Bool}{P:Bool→Prop}:tX (.bool b) P=P b:=rfl
theorem co0 {A B:Prop}:ifP true A B=A:=rfl
theorem cm3 {A B:Prop}:ifP false A B=B:=rfl
theorem cq4 {p:Prop}[Decidable p]{A B:Prop}:ifP (decide p) A B=((p→A)∧(¬ p→B)):=by by_cases h:p<;>simp [ifP,h]
theorem bw7 {p:Prop}[Decidable p]{A B:Prop}(h1:p→A)(h2:¬ p→B):ifP (decide p) A B:=by by_cases h:p<;>simp only [h,decide_true,decide_false,ifP];exact h1 h;exact h2 h
theorem aN7 {c:Bool}{A B:Prop}(h1:c=true→A)(h2:c=false→B):ifP c A B:=by cases c;exact h2 rfl;exact h1 rfl
end
section
variable {Φ:Orc} {H:Hp} {Q:V→Hp→Prop} {X:XL} {i j:Int} {m n:Nat} {x y:Str} {l:List V} {ns:List Int} {a v:V} {b c:Bool}
theorem b34:s9 .Add (.int i) (.int j) H Q=Q (.int (i+j)) H:=hid rfl
theorem bT1:s9 .Sub (.int i) (.int j) H Q=Q (.int (i-j)) H:=hid rfl
theorem bE6:s9 .FloorDiv (.int i) (.int 108) H Q=Q (.int (i/108)) H:=cT rfl
theorem bk4:s9 .FloorDiv (.int i) (.int 1120) H Q=Q (.int (i/1120)) H:=cT rfl
theorem cb7:s9 .FloorDiv (.int i) (.int 12) H Q=Q (.int (i/12)) H:=cT rfl
theorem bz6:s9 .FloorDiv (.int i) (.int 124) H Q=Q (.int (i/124)) H:=cT rfl
theorem b68:s9 .FloorDiv (.int i) (.int 14) H Q=Q (.int (i/14)) H:=cT rfl
theorem bK8:s9 .FloorDiv (.int i) (.int 144) H Q=Q (.int (i/144)) H:=cT rfl
theorem bh1:s9 .FloorDiv (.int i) (.int 1461) H Q=Q (.int (i/1461)) H:=cT rfl
theorem bN5:s9 .FloorDiv (.int i) (.int 150) H Q=Q (.int (i/150)) H:=cT rfl
theorem bU7:s9 .FloorDiv (.int i) (.int 16) H Q=Q (.int (i/16)) H:=cT rfl
theorem bK4:s9 .FloorDiv (.int i) (.int 160) H Q=Q (.int (i/160)) H:=cT rfl
theorem cc5:s9 .FloorDiv (.int i) (.int 18) H Q=Q (.int (i/18)) H:=cT rfl
theorem ck7:s9 .FloorDiv (.int i) (.int 2) H Q=Q (.int (i/2)) H:=cT rfl
theorem bZ6:s9 .FloorDiv (.int i) (.int 20) H Q=Q (.int (i/20)) H:=cT rfl
theorem bv6:s9 .FloorDiv (.int i) (.int 2304) H Q=Q (.int (i/2304)) H:=cT rfl
theorem bZ2:s9 .FloorDiv (.int i) (.int 24) H Q=Q (.int (i/24)) H:=cT rfl
theorem ca0:s9 .FloorDiv (.int i) (.int 28) H Q=Q (.int (i/28)) H:=cT rfl
theorem bJ3:s9 .FloorDiv (.int i) (.int 280) H Q=Q (.int (i/280)) H:=cT rfl
theorem bx2:s9 .FloorDiv (.int i) (.int 288) H Q=Q (.int (i/288)) H:=cT rfl
theorem cn7:s9 .FloorDiv (.int i) (.int 3) H Q=Q (.int (i/3)) H:=cT rfl
theorem bV4:s9 .FloorDiv (.int i) (.int 36) H Q=Q (.int (i/36)) H:=cT rfl
theorem cp3:s9 .FloorDiv (.int i) (.int 4) H Q=Q (.int (i/4)) H:=cT rfl
theorem b04:s9 .FloorDiv (.int i) (.int 48) H Q=Q (.int (i/48)) H:=cT rfl
theorem ck5:s9 .FloorDiv (.int i) (.int 5) H Q=Q (.int (i/5)) H:=cT rfl
theorem bW0:s9 .FloorDiv (.int i) (.int 50) H Q=Q (.int (i/50)) H:=cT rfl
theorem cp4:s9 .FloorDiv (.int i) (.int 6) H Q=Q (.int (i/6)) H:=cT rfl
theorem cd7:s9 .FloorDiv (.int i) (.int 62) H Q=Q (.int (i/62)) H:=cT rfl
theorem co8:s9 .FloorDiv (.int i) (.int 7) H Q=Q (.int (i/7)) H:=cT rfl
theorem b29:s9 .Mod (.int i) (.int 10) H Q=Q (.int (i%10)) H:=cT rfl
theorem b42:s9 .Mod (.int i) (.int 12) H Q=Q (.int (i%12)) H:=cT rfl
theorem bC2:s9 .Mod (.int i) (.int 127) H Q=Q (.int (i%127)) H:=cT rfl
theorem bl0:s9 .Mod (.int i) (.int 1461) H Q=Q (.int (i%1461)) H:=cT rfl
theorem b11:s9 .Mod (.int i) (.int 16) H Q=Q (.int (i%16)) H:=cT rfl
theorem co3:s9 .Mod (.int i) (.int 2) H Q=Q (.int (i%2)) H:=cT rfl
theorem ca7:s9 .Mod (.int i) (.int 24) H Q=Q (.int (i%24)) H:=cT rfl
theorem bW1:s9 .Mod (.int i) (.int 25) H Q=Q (.int (i%25)) H:=cT rfl
theorem cc8:s9 .Mod (.int i) (.int 26) H Q=Q (.int (i%26)) H:=cT rfl
theorem co4:s9 .Mod (.int i) (.int 3) H Q=Q (.int (i%3)) H:=cT rfl
theorem b37:s9 .Mod (.int i) (.int 30) H Q=Q (.int (i%30)) H:=cT rfl
theorem b85:s9 .Mod (.int i) (.int 33) H Q=Q (.int (i%33)) H:=cT rfl
theorem cp1:s9 .Mod (.int i) (.int 4) H Q=Q (.int (i%4)) H:=cT rfl
theorem b17:s9 .Mod (.int i) (.int 45) H Q=Q (.int (i%45)) H:=cT rfl
theorem cm6:s9 .Mod (.int i) (.int 5) H Q=Q (.int (i%5)) H:=cT rfl
theorem cn8:s9 .Mod (.int i) (.int 6) H Q=Q (.int (i%6)) H:=cT rfl
theorem b92:s9 .Mod (.int i) (.int 60) H Q=Q (.int (i%60)) H:=cT rfl
theorem cf7:s9 .Mod (.int i) (.int 62) H Q=Q (.int (i%62)) H:=cT rfl
theorem cm5:s9 .Mod (.int i) (.int 7) H Q=Q (.int (i%7)) H:=cT rfl
theorem bY3:s9 .Mod (.int i) (.int 70) H Q=Q (.int (i%70)) H:=cT rfl
theorem ck3:s9 .Mod (.int i) (.int 8) H Q=Q (.int (i%8)) H:=cT rfl
theorem cr4:s9 .Mod (.int i) (.int 9) H Q=Q (.int (i%9)) H:=cT rfl
theorem bB3:s9 .Mult (.int 120) (.int j) H Q=Q (.int (120*j)) H:=cT rfl
theorem bW4:s9 .Mult (.int 13) (.int j) H Q=Q (.int (13*j)) H:=cT rfl
theorem cn5:s9 .Mult (.int 2) (.int j) H Q=Q (.int (2*j)) H:=cT rfl
theorem bs6:s9 .Mult (.int i) (.int 13) H Q=Q (.int (i*13)) H:=cT (Bool.or_true _)
theorem bn4:s9 .Mult (.int i) (.int 31) H Q=Q (.int (i*31)) H:=cT (Bool.or_true _)
theorem bn9:s9 .Mult (.int i) (.int 4) H Q=Q (.int (i*4)) H:=cT (Bool.or_true _)
theorem bX8:s9 .Pow (.int 10) (.int 12) H Q=Q (.int 1000000000000) H:=cT rfl
theorem ck9:s9 .Pow (.int 10) (.int 6) H Q=Q (.int 1000000) H:=cT rfl
theorem bH8:s9 .Mult (.ref m) (.int i) H Q=oK (b6 H m) fun xs=>ak2 xs fun x=>(0≤i∧i≤1000000)∧Q (.ref H.length) (H++[.list (List.replicate i.toNat x)]):=rfl
theorem bJ1:s9 .Mult (.str x) (.int i) H Q=((1≤i∧i≤1000∧0<x.length∧x.length≤1000∧(aQ2 x i.toNat).length≤2000000∧PyData.strOk (aQ2 x i.toNat)=true)∧Q (.str (aQ2 x i.toNat)) H):=rfl
theorem bN9:s9 .Add (.ref m) (.ref n) H Q=oK (b6 H m) fun xs=>oK (b6 H n) fun ys=>xs.length+ys.length≤1000000∧Q (.ref H.length) (H++[.list (xs++ys)]):=rfl
theorem cr0:U0 .Eq (.int i) (.int j) H Q=Q (.bool (decide (i=j))) H:=rfl
theorem cr1:U0 .NotEq (.int i) (.int j) H Q=Q (.bool (decide (i≠j))) H:=by
 show Q (.bool (!decide (i=j))) H=_
 rw [decide_not]
theorem ck8:U0 .Is a .none H Q=Q (.bool (w8 a)) H:=rfl
theorem bg6:U0 .IsNot a .none H Q=Q (.bool (!w8 a)) H:=rfl
theorem b71:U0 .Eq (.str x) (.str y) H Q=Q (.bool (x==y)) H:=rfl
theorem cb3:U0 .NotEq (.str x) (.str y) H Q=Q (.bool (!(x==y))) H:=rfl
theorem co2:U0 .Lt (.int i) (.int j) H Q=Q (.bool (decide (i<j))) H:=rfl
theorem cp7:U0 .LtE (.int i) (.int j) H Q=Q (.bool (decide (i≤j))) H:=rfl
theorem cr7:U0 .Gt (.int i) (.int j) H Q=Q (.bool (decide (j<i))) H:=rfl
theorem ck1:U0 .GtE (.int i) (.int j) H Q=Q (.bool (decide (j≤i))) H:=rfl
theorem cs0:U0 .In a (.tup l) H Q=oK (Q3 a l) (kB H Q):=rfl
theorem cf1:U0 .In a (.ref n) H Q=oK (b6 H n) (kIn a H Q):=rfl
theorem bS9:U0 .NotIn a (.tup l) H Q=oK (Q3 a l) fun c=>Q (.bool (!c)) H:=rfl
theorem bE0:a27 (.tup l) (.int i) H Q=oK (idx l i) (kV H Q):=rfl
theorem bL2:a27 (.ref n) (.int i) H Q=oK (b6 H n) (kIx i H Q):=rfl
theorem bN8:a27 (.scr ns) (.int i) H Q=oK (aJ0 ns i) fun v=>Q (.int v) H:=rfl
theorem cq6 {vs:List V}:E7 Φ (.fn x) vs H Q X=Φ x vs H Q X:=rfl
theorem a33:E7 Φ (.bi .len) [.tup l] H Q X=Q (.int (l.length:Int)) H:=rfl
theorem a86:E7 Φ (.bi .len) [.ref n] H Q X=oK (b6 H n) (kLn H Q):=rfl
theorem a89:E7 Φ (.bi .len) [.scr ns] H Q X=Q (.int (ns.length:Int)) H:=rfl
theorem cb0 {t:Ty}:E7 Φ (.bi .isinstance) [v,.ty t] H Q X=oK (C2 H v t) (kB H Q):=rfl
theorem b77:E7 Φ (.bi .max) [.int i,.int j] H Q X=Q (.int (max i j)) H:=rfl
theorem b27:E7 Φ (.bi .any) [.ref n] H Q X=oK (b6 H n) fun l=>oK (B9 l) fun bs=>Q (.bool (bs.any id)) H:=rfl
theorem cg8:E7 Φ (.bi .all) [.ref n] H Q X=oK (b6 H n) fun l=>oK (B9 l) fun bs=>Q (.bool (bs.all id)) H:=rfl
theorem bM2:E7 Φ (.bi .repr) [v] H Q X=oK (ae2 H v) fun d=>(d.showable=true∧d.depth≤60∧d.shown.length≤16000000)∧Q (.opq d.shown) H:=rfl
theorem b01:U0 .Eq (.opq x) (.opq y) H Q=Q (.bool (x==y)) H:=rfl
theorem b14:U0 .NotEq (.opq x) (.opq y) H Q=Q (.bool (!(x==y))) H:=rfl
theorem bo9:al6 (.ref n) .clear [] H Q=oK (b6 H n) fun _=>Q .none (H.set n (.list [])):=rfl
theorem bl9:al6 (.ref n) .index [.int i] H Q=oK (b6 H n) fun l=>oK (aa2 l) fun ns=>oK (a00 i ns) fun j=>Q (.int (j:Int)) H:=rfl
theorem bU4:E7 Φ (.bi .min) [.int i,.int j] H Q X=Q (.int (min i j)) H:=rfl
theorem bj4:E7 Φ (.ty .list) [.ref n] H Q X=oK (b6 H n) fun l=>Q (.ref H.length) (H++[.list l]):=rfl
theorem bu5:a27 (.ref n) (.str x) H Q=oK (j6 H n) (kDc x H Q):=rfl
theorem bP7 {QH:Hp→Prop}:bS6 (.ref n) (.str x) v H QH=oK (j6 H n) fun es=>es.length≤100000∧QH (H.set n (.dict ((x,v)::es))):=rfl
theorem bw0:al6 (.ref n) .count [v] H Q=oK (b6 H n) fun l=>oK (Z5 l) fun ys=>oK (aN5 v) fun y=>Q (.int ((ys.count y:Nat):Int)) H:=rfl
theorem bL7:a04 (.ref n) x H Q=oK (au4 H n) (kFl x H Q):=rfl
theorem bH1 {QH:Hp→Prop}:bq1 (.ref n) x v H QH=oK (au4 H n) fun p=>p.2.length≤100000∧QH (H.set p.1 (.ns ((x,v)::p.2))):=rfl
theorem a37 {R:List V→(Hp→Prop)→Prop}:ac3 .range2 (.tup [.int i,.int j]) H R=((-(2 ^ 62)≤i∧i<2 ^ 62∧-(2 ^ 62)≤j∧j<2 ^ 62∧j-i≤1000000)∧R (E4 i j) (fun _=>True)):=rfl
theorem bA6:ai5 (.ref n)=some n:=rfl
theorem bO2 {L:Lc}{o:IE}:(wp2 Φ (.attr o x)).E L H Q X=(wp2 Φ o).E L H (bQ3 x Q) X:=rfl
theorem bs9 {L:Lc}{o:IE}{args:List IE}:(wp2 Φ (.mcall o x args)).E L H Q X=(wp2 Φ o).E L H (kMc Φ x args L Q X) X:=rfl
theorem ca8 {L:Lc}:(wp2 Φ .new).E L H Q X=Φ "Book.__init__" [.ref (H.length+1)] (H++[.ns []]++[.inst H.length]) (fun v H1=>w8 v=true∧Q (.ref (H.length+1)) H1) X:=rfl
theorem cf4 {L:Lc}:(wp2 Φ .dct).E L H Q X=Q (.ref H.length) (H++[.dict []]):=rfl
theorem bF4 {L:Lc}{ks:List Str}{es:List IE}:(wp2 Φ (.dctL ks es)).E L H Q X=O9 Φ es L (H++[.dict []]) (fun vs H1=>j6 H1 H.length=some []∧Q (.ref H.length) (H1.set H.length (.dict (ks.zip vs).reverse))) X:=rfl
theorem cg7 {L:Lc}{o:IE}:(wp2 Φ (.rev o b)).E L H Q X=(wp2 Φ o).E L H (fun vo H1=>bG9 vo b H1 Q) X:=rfl
theorem ba5:bG9 (.ref n) b H Q=oK (b6 H n) fun xs=>bX3 xs fun a d c=>Q (.ref H.length) (H++[.list (match b with|true=>[c,a]|false=>[c,d,a])]):=rfl
theorem bz9 {L:Lc}{QF:QS}{XF:XS}{o e:IE}:wpS Φ (.setAttr o x e) L H QF XF=(wp2 Φ e).E L H (fun vv H1=>(wp2 Φ o).E L H1 (fun vo H2=>bq1 vo x vv H2 (QF .next L)) (xL XF L)) (xL XF L):=rfl
theorem bB2 {L:Lc}{o:IE}{P:Bool→Hp→Prop}:(wp2 Φ (.attr o x)).T L H P X=(wp2 Φ (.attr o x)).E L H (kT P) X:=rfl
theorem be8 {L:Lc}{o:IE}{args:List IE}{P:Bool→Hp→Prop}:(wp2 Φ (.mcall o x args)).T L H P X=(wp2 Φ (.mcall o x args)).E L H (kT P) X:=rfl
theorem cb4:E7 Φ (.ty .int) [.bool b] H Q X=Q (.int (if b then 1 else 0)) H:=rfl
theorem bf9:E7 Φ (.ty .tuple) [.ref n] H Q X=oK (b6 H n) (kTu H Q):=rfl
theorem a41:al6 (.ref n) .append [v] H Q=oK (b6 H n) (kAp n v H Q):=rfl
theorem b05 {QH:Hp→Prop}:bS6 (.ref n) (.int i) v H QH=oK (b6 H n) fun l=>(0≤i∧i<(l.length:Int))∧QH (H.set n (.list (l.set i.toNat v))):=rfl
theorem bt4 {L:Lc}{QF:QS}{XF:XS}{o k e:IE}:wpS Φ (.setItem o k e) L H QF XF=(wp2 Φ e).E L H (fun vv H1=>(wp2 Φ o).E L H1 (fun vo H2=>(wp2 Φ k).E L H2 (fun vk H3=>bS6 vo vk vv H3 (QF .next L)) (xL XF L)) (xL XF L)) (xL XF L):=rfl
theorem bF1:U0 .NotIn a (.ref n) H Q=oK (b6 H n) (kNi a H Q):=rfl
theorem b73 {R:List V→(Hp→Prop)→Prop}:ac3 .val (.tup l) H R=R l (fun _=>True):=rfl
theorem cc2 {R:List V→(Hp→Prop)→Prop}:ac3 .val (.ref n) H R=oK (b6 H n) fun l=>R l (fun H'=>b6 H' n=some l):=rfl
theorem aV6 {lo hi:V}:aH4 (.ref n) lo hi H Q=oK (b6 H n) fun xs=>oK (aC0 lo hi xs) fun ys=>Q (.ref H.length) (H++[.list ys]):=rfl
theorem bn3 {L:Lc}{o:IE}{lo hi:Option IE}:(wp2 Φ (.slice o lo hi)).E L H Q X=(wp2 Φ o).E L H (fun vo H1=>wpO Φ lo L H1 (fun vl H2=>wpO Φ hi L H2 (fun vh H3=>aH4 vo vl vh H3 Q) X) X) X:=rfl
theorem bj6 {L:Lc}:wpO Φ none L H Q X=Q .none H:=rfl
theorem bm8 {L:Lc}{e:IE}:wpO Φ (some e) L H Q X=(wp2 Φ e).E L H Q X:=rfl
theorem bX5 {R:List V→(Hp→Prop)→Prop}:ac3 .rev (.ref n) H R=oK (b6 H n) fun l=>R l.reverse (fun H'=>b6 H' n=some l):=rfl
theorem at9 {R:List V→(Hp→Prop)→Prop}:ac3 .range (.int i) H R=((-(2 ^ 62)≤i∧i≤1000000)∧R (E4 0 i) (fun _=>True)):=rfl
end
theorem i9 {Φ:Orc}{f:Fn}{vs:List V}{H:Hp}{Q:V→Hp→Prop}{X:XL}(h1:vs.length=f.params)(h:j1 Φ f.body (E2 f vs) H (rQ Q) (rX X)):v8 Φ f vs H Q X:=⟨h1,h⟩
theorem a73 {v:V}:bK1 (.ret v)=v:=rfl
theorem aV7:bK1 .next=.none:=rfl
theorem b62 {α:Type}{l:List α}:idx l 0=l[0]?:=rfl
theorem b35 {α:Type}{l:List α}:idx l 1=l[1]?:=rfl
theorem bH9 {α:Type}{l:List α}:idx l 2=l[2]?:=rfl
theorem bJ9 {α:Type}{l:List α}:idx l 3=l[3]?:=rfl
theorem b26 {α:Type}{l:List α}:idx l 4=l[4]?:=rfl
theorem b48 {α:Type}{l:List α}:idx l 5=l[5]?:=rfl
theorem cl9 {α:Type}{l:List α}:aJ0 l 0=l[0]?:=rfl
theorem cr5 {α:Type}{l:List α}:aJ0 l 1=l[1]?:=rfl
theorem cn1 {α:Type}{l:List α}:aJ0 l 2=l[2]?:=rfl
theorem cr9 {α:Type}{l:List α}:aJ0 l 3=l[3]?:=rfl
noncomputable def ext (n:Str)(C:List V→Hp→(V→Hp→Prop)→XL→Prop)(Φ:Orc):Orc:=fun x vs H Q X=>if x==n then C vs H Q X else Φ x vs H Q X
noncomputable def noΦ:Orc:=fun _ _ _ _ _=>False
section
variable {H:Hp} {Q:V→Hp→Prop} {Φ:Orc} {X:XL} {x:Str} {v:V} {R:List V→(Hp→Prop)→Prop}
theorem r9:E7 Φ (.bi .len) [.str x] H Q X=Q (.int (x.length:Int)) H:=rfl
theorem F8 {i:Int}:a27 (.str x) (.int i) H Q=oK (aJ0 x.cps.toList i) fun c=>Q (.str ⟨#[c]⟩) H:=rfl
theorem X2:U0 .In v (.str x) H Q=oK (aN5 v) fun y=>Q (.bool (Txt.contains x y)) H:=rfl
theorem E9:U0 .NotIn v (.str x) H Q=oK (aN5 v) fun y=>Q (.bool (!Txt.contains x y)) H:=rfl
theorem F0 {y:Str}:s9 .Add (.str x) (.str y) H Q=(x.length+y.length≤1000000∧Q (.str (x++y)) H):=rfl
theorem G5:aN5 (.str x)=some x:=rfl
theorem W7:ac3 .val (.str x) H R=(x.cps.all (· < 128)=true∧R (x.cps.toList.map fun c=>V.str ⟨#[c]⟩) (fun _=>True)):=rfl
end
theorem ae8 {H:Hp}{i:Nat}{p:Nat × List (Str × V)}(h:au4 H i=some p):H[i]? = some (.inst p.1)∧H[p.1]? = some (.ns p.2):=by
 refine e1_2 (Option.bind_eq_some_iff.mp h) fun j h1 h=>?_
 refine e1_2 (Option.map_eq_some_iff.mp h) fun fs h2 e_3=>?_
 obtain rfl:=e_3
 refine e1_2 (Option.bind_eq_some_iff.mp h1) fun o e1 h1=>?_
 refine e1_2 (Option.bind_eq_some_iff.mp h2) fun o2 e2 h2=>?_
 have o1:o=.inst j:=by
  cases o with
  | inst _=>exact congrArg O.inst (Option.some.inj h1)
  | _=>exact b9 h1
 have o2':o2=.ns fs:=by
  cases o2 with
  | ns _=>exact congrArg O.ns (Option.some.inj h2)
  | _=>exact b9 h2
 exact ⟨by rw [e1,o1],by rw [e2,o2']⟩
theorem b7 {H H':Hp}{i:Nat}{l:List V}(p:H<+:H')(h:b6 H i=some l):b6 H' i=some l:=by
 refine e1_1 p fun Δ e_4=>?_
 obtain rfl:=e_4
 refine e1_2 (Option.bind_eq_some_iff.mp h) fun o e h=>?_
 unfold b6
 rw [List.getElem?_append_left (List.getElem?_eq_some_iff.mp e).1,e]
 exact h
theorem b5 {H:Hp}{l:List V}:b6 (H++[.list l]) H.length=some l:=by simp [b6,bV6]
theorem aO2 {H:Hp}{l m:List V}:(H++[O.list l]).set H.length (.list m)=H++[.list m]:=by simp
theorem b8 {H:Hp}{o:O}:H<+:H++[o]:=List.prefix_append _ _
theorem aB4 {α:Type}{l:List α}{k:Nat}:idx l (k:Int)=l[k]?:=by simp [idx]
end Mine
set_option compiler.extract_closed false in
local macro_rules
 | `(tactic| simp_arith only [$a,*])=>do
  let p ← ("Mine.g5 Mine.bk9 Mine.by7 Mine.a62 Mine.cf9 Mine.bY9 Mine.b74 Mine.cd0 Mine.bU2 Mine.cl5 Mine.cl4 Mine.bW9 Mine.bx3 Mine.ca4 Mine.b16 Mine.bb6 Mine.bz2 Mine.bE5 Mine.by6 Mine.bZ1 Mine.b57 Mine.b55 Mine.bz5 Mine.bR0 Mine.b52 Mine.bg3 Mine.aG8 Mine.bc7 Mine.K2 Mine.ca1 Mine.bl4 Mine.aJ3 Mine.bg5 Mine.aw0 Mine.n7 Mine.bo4 Mine.bv3 Mine.a55 Mine.bi5 Mine.a43 Mine.bg4 Mine.a67 Mine.bj8 Mine.bh3 Mine.co0 Mine.cm3 Mine.cq4 Mine.b34 Mine.bT1 Mine.bN9 Mine.cr0 Mine.cr1 Mine.b71 Mine.cb3 Mine.co2 Mine.cp7 Mine.cr7 Mine.ck1 Mine.cs0 Mine.cf1 Mine.bS9 Mine.bE0 Mine.bL2 Mine.bN8 Mine.cq6 Mine.a33 Mine.a86 Mine.a89 Mine.cb0 Mine.cg8 Mine.cb4 Mine.bf9 Mine.a41 Mine.b05 Mine.bM2 Mine.b01 Mine.bt4 Mine.bF1 Mine.b73 Mine.cc2 Mine.at9 Mine.aV6 Mine.bn3 Mine.bj6 Mine.bm8 Mine.bX5 Mine.ck8 Mine.bg6 Mine.bH8 Mine.bJ1 Mine.bu4 Mine.b27 Mine.b77 Mine.bo9 Mine.bl9 Mine.b14 Mine.bk3 Mine.bR3 Mine.aP1 Mine.bF4 Mine.bo1 Mine.bU4 Mine.bj4 Mine.bu5 Mine.bP7 Mine.bw0 Mine.bL7 Mine.bH1 Mine.ba5 Mine.a37 Mine.bA6 Mine.bO2 Mine.cg7 Mine.bs9 Mine.ca8 Mine.cf4 Mine.bz9 Mine.bB2 Mine.be8 Mine.bK2 Mine.bC7 Mine.bC4 Mine.bE9 Mine.bh7 Mine.bH6 Mine.bH4 Mine.bN0 Mine.bF5 Mine.bz7 Mine.bF6 Mine.bn6 Mine.bv0 Mine.bE6 Mine.bk4 Mine.cb7 Mine.bz6 Mine.b68 Mine.bK8 Mine.bh1 Mine.bN5 Mine.bU7 Mine.bK4 Mine.cc5 Mine.ck7 Mine.bZ6 Mine.bv6 Mine.bZ2 Mine.ca0 Mine.bJ3 Mine.bx2 Mine.cn7 Mine.bV4 Mine.cp3 Mine.b04 Mine.ck5 Mine.bW0 Mine.cp4 Mine.cd7 Mine.co8 Mine.b29 Mine.b42 Mine.bC2 Mine.bl0 Mine.b11 Mine.co3 Mine.ca7 Mine.bW1 Mine.cc8 Mine.co4 Mine.b37 Mine.b85 Mine.cp1 Mine.b17 Mine.cm6 Mine.cn8 Mine.b92 Mine.cf7 Mine.cm5 Mine.bY3 Mine.ck3 Mine.cr4 Mine.bB3 Mine.bW4 Mine.cn5 Mine.bs6 Mine.bn4 Mine.bn9 Mine.bX8 Mine.ck9 Mine.bX6 Mine.b30 Mine.bH3 Mine.bQ6 Mine.bx4 Mine.bQ8 Mine.bz3 Mine.bG8 Mine.bJ0 Mine.bL5 Mine.bD2 Mine.bg2 Mine.bo0 Mine.bg8 Mine.bH5 Mine.bx9 Mine.b78 Mine.cb2 Mine.cn9 Mine.b18 Mine.bY7 Mine.bT7 Mine.cq5 Mine.cq7 Mine.cl7 Mine.ck4 Mine.b96 Mine.ca6 Mine.cq9 Mine.a87 Mine.bh8 Mine.a15 Mine.bt7 Mine.a44 Mine.bk6 Mine.a38 Mine.a17 Mine.bA8 Mine.bK6 Mine.bP0 Mine.bO8 Mine.bN6 Mine.bF2 Mine.bB9 Mine.bx6 Mine.bG0 Mine.bL3 Mine.bo2 Mine.bk7 Mine.bz4 Mine.bs0 Mine.bJ5 Mine.bO0 Mine.bP2 Mine.bP4 Mine.b56 Mine.b39 Mine.bT6 Mine.cf8 Mine.cb9 Mine.cd4 Mine.cg5 Mine.cd1 Mine.a73 Mine.aV7".splitOn " ").toArray.mapM fun n=>`(Lean.Parser.Tactic.simpLemma| ↓ $(Lean.mkIdent n.toName):term)
  let q ← ("List.getElem?_cons_zero List.getElem?_cons_succ List.set_cons_zero List.set_cons_succ Bool.not_true Bool.not_false Mine.b62 Mine.b35 Mine.bH9 Mine.bJ9 Mine.b26 Mine.b48 Mine.cl9 Mine.cr5 Mine.cn1 Mine.cr9 Int.reduceAdd Int.reduceSub Int.reduceMul Int.reduceNeg Int.reducePow Int.reduceLT Int.reduceLE Int.reduceEq Int.reduceNe Int.reduceToNat Int.reduceAbs Nat.reduceAdd Nat.reduceLT Nat.reduceLeDiff Nat.reducePow Nat.reduceLT List.length_cons List.length_nil true_implies false_implies not_true_eq_false not_false_eq_true and_true true_and and_self or_true true_or decide_true decide_false exists_eq_left' Option.some.injEq Mine.cl6 Mine.bA1 Mine.b79 Mine.bM6 Mine.bE7 Mine.bQ9 Mine.bf5".splitOn " ").toArray.mapM fun n=>`(Lean.Parser.Tactic.simpLemma| $(Lean.mkIdent n.toName):term)
  `(tactic| simp only [$[$p],*,$[$q],*,$a,*])
namespace Mine
open PySem
theorem G0:((Str.ofString "once")==(Str.ofString "once"))=true:=by decide
theorem C8:((Str.ofString "every")==(Str.ofString "once"))=false:=by decide
theorem B8:((Str.ofString "every")==(Str.ofString "every"))=true:=by decide
theorem F9:((Str.ofString "week")==(Str.ofString "once"))=false:=by decide
theorem C9:((Str.ofString "week")==(Str.ofString "every"))=false:=by decide
theorem K7:((Str.ofString "week")==(Str.ofString "week"))=true:=by decide
theorem C4:((Str.ofString "month")==(Str.ofString "once"))=false:=by decide
theorem B5:((Str.ofString "month")==(Str.ofString "every"))=false:=by decide
theorem J6:((Str.ofString "month")==(Str.ofString "week"))=false:=by decide
theorem ak7:((Str.ofString "month")==(Str.ofString "month"))=true:=by decide
theorem Z4:((Str.ofString "from")==(Str.ofString "from"))=true:=by decide
theorem as9:((Str.ofString "from")==(Str.ofString "until"))=false:=by decide
theorem ax9:((Str.ofString "from")==(Str.ofString "also"))=false:=by decide
theorem K4:((Str.ofString "from")==(Str.ofString "but"))=false:=by decide
theorem V0:((Str.ofString "until")==(Str.ofString "from"))=false:=by decide
theorem Q6:((Str.ofString "until")==(Str.ofString "until"))=true:=by decide
theorem ar7:((Str.ofString "until")==(Str.ofString "also"))=false:=by decide
theorem F6:((Str.ofString "until")==(Str.ofString "but"))=false:=by decide
theorem Z3:((Str.ofString "also")==(Str.ofString "from"))=false:=by decide
theorem U1:((Str.ofString "also")==(Str.ofString "until"))=false:=by decide
theorem Y9:((Str.ofString "also")==(Str.ofString "also"))=true:=by decide
theorem K1:((Str.ofString "also")==(Str.ofString "but"))=false:=by decide
theorem af6:((Str.ofString "but")==(Str.ofString "from"))=false:=by decide
theorem Z7:((Str.ofString "but")==(Str.ofString "until"))=false:=by decide
theorem ad8:((Str.ofString "but")==(Str.ofString "also"))=false:=by decide
theorem P9:((Str.ofString "but")==(Str.ofString "but"))=true:=by decide
end Mine
namespace Mine
open PySem
structure Wd where
 prog:Program
 w:World
 hB:Heap
 mg:Str→Option Value
 mb:Str→Option Value
 bk:Addr
 mt:Str→Option Value
 ex:List (Str × List Str)
 fr:List Env
noncomputable def aB1 (x:Str):Option Str:=if x.cps.toList.take 5=(Str.ofString "Book.").cps.toList then some ⟨(x.cps.toList.drop 5).toArray⟩ else none
noncomputable def bR9:Option Value→Option Addr
 | some v=>(match v with
  | .ref a=>some a
  | _=>none)
 | none=>none
noncomputable def Wd.fa (D:Wd)(x:Str):Option Addr:=match aB1 x with
 | some m=>bR9 (D.mt m)
 | none=>bR9 (D.mg x)
theorem bj0 {D:Wd}{x:Str}{a:Addr}(h:aB1 x=none)(e:D.mg x=some (.ref a)):D.fa x=some a:=by unfold Wd.fa;rw [h];show bR9 (D.mg x)=_;rw [e];rfl
theorem bC8 {D:Wd}{m:Str}{a:Addr}(e:D.mt m=some (.ref a)):D.fa (Str.ofString "Book."++m)=some a:=by
 have hl:(Str.ofString "Book."++m).cps.toList=(Str.ofString "Book.").cps.toList++m.cps.toList:=Array.toList_append
 have hn:(Str.ofString "Book.").cps.toList.length=5:=by decide +kernel
 have h:aB1 (Str.ofString "Book."++m)=some m:=by
  unfold aB1
  rw [hl,List.take_left' hn,if_pos rfl,List.drop_left' hn]
 unfold Wd.fa
 rw [h]
 show bR9 (D.mt m)=some a
 rw [e];rfl
noncomputable def TupAt (h:Heap)(a:Addr)(vs:List Value):Prop:=∃ n,h.get? a=some { cls:=.type "tuple",data:=.seq vs.toArray n }∧vs.length≤2000000
noncomputable def N1 (x:Str):Prop:=x.length≤2000000∧PyData.strOk x=true
mutual
noncomputable def Rep (mg:Wd)(γ:List Addr)(h:Heap)(v:Value):V→Prop
 | .none=>v=.none
 | .bool b=>v=.bool b
 | .int i=>∃ t,v=.int i t
 | .str s=>∃ t,v=.str s t∧N1 s
 | .tup l=>∃ a vs,v=.ref a∧TupAt h a vs∧Reps mg γ h vs l
 | .ref i=>∃ a,γ[i]? = some a∧v=.ref a
 | .fn x=>∃ a,v=.ref a∧mg.fa x=some a
 | .ty n=>v=.type n.name
 | .bi n=>v=.builtin n.name
 | .scr ns=>∃ (a:Addr) (vs:List Value),v=.ref a∧mg.hB.IsList a vs.toArray∧vs.length≤2000000∧vs.length=ns.length∧∀ (k:Nat) (i:Int),ns[k]? = some i→∃ t,vs[k]? = some (.int i t)
 | .bk=>v=.ref mg.bk
 | .cls x _=>∃ a,v=.ref a∧mg.mg x=some (.ref a)
 | .opq s=>∃ t,v=.str s t
noncomputable def Reps (mg:Wd)(γ:List Addr)(h:Heap)(vs:List Value):List V→Prop
 | []=>vs=[]
 | V::l=>∃ v r,vs=v::r∧Rep mg γ h v V∧Reps mg γ h r l
end
noncomputable def FsRep (mg:Wd)(γ:List Addr)(h:Heap)(fs:List (Str × V))(m:Str→Option Value):Prop :=
 (∀ x V,fs.lookup x=some V→∃ v,m x=some v∧Rep mg γ h v V)∧∀ x,fs.lookup x=none→m x=none
noncomputable def ORep (mg:Wd)(γ:List Addr)(h:Heap)(a:Addr):O→Prop
 | .list xs=>∃ vs n,h.get? a=some { cls:=.type "list",data:=.seq vs.toArray n }∧Reps mg γ h vs xs∧vs.length≤2000000
 | .inst j=>∃ o dx,h.get? a=some o∧γ[j]? = some dx∧o.cls=.ref mg.bk∧(∀ c,o.data≠.cls c)∧o.dict=some dx∧dx≠a
 | .ns fs=>∃ m,h.Ns1 a m∧FsRep mg γ h fs m∧∀ x,X9 x=false→m x=none
 | .dict es=>∃ kvs,h.DictOf (strKind mg.prog mg.w) a kvs∧FsRep mg γ h es (valueAt kvs)∧kvs.length≤es.length
noncomputable def az1 (o:Obj):Prop:=∀ es n,o.data≠.dict es n
noncomputable def FrsOk (D:Wd)(γ:List Addr)(h:Heap):Prop:=∀ e∈D.fr,e.scope.kind=.function∧∃ (L:Addr) (o:Obj),e.frame=some L∧D.hB.get? L=none∧L∉γ∧h.get? L=some o∧¬ az1 o
theorem FrsOk.but {D:Wd}{γ:List Addr}{h h':Heap}(f:FrsOk D γ h)(hk:∀ b o,b∉γ→h.get? b=some o→¬ az1 o→∃ o',h'.get? b=some o'∧¬ az1 o'):FrsOk D γ h':=fun e he=>by
 obtain ⟨k,L,o,a,b,n,c,d⟩:=f e he
 refine e1_2 (hk L o n c d) fun o' c' d'=>?_
 exact ⟨k,L,o',a,b,n,c',d'⟩
theorem FrsOk.grow {D:Wd}{γ:List Addr}{h h':Heap}(f:FrsOk D γ h)(hk:∀ b o,h.get? b=some o→h'.get? b=some o):FrsOk D γ h':=f.but fun b o _ e d=>⟨o,hk b o e,d⟩
theorem FrsOk.ne {D:Wd}{γ:List Addr}{h:Heap}{I:Addr}(f:FrsOk D γ h)(hn:h.get? I=none):∀ e∈D.fr,e.frame≠some I:=fun e he q=>by
 obtain ⟨k,L,o,a,b,n,c,d⟩:=f e he
 rw [q] at a;cases a
 rw [hn] at c;exact b9 c
theorem FrsOk.more {D:Wd}{γ:List Addr}{h:Heap}{I:Addr}(f:FrsOk D γ h)(hn:∀ e∈D.fr,e.frame≠some I):FrsOk D (γ++[I]) h:=fun e he=>by
 obtain ⟨k,L,o,a,b,n,c,d⟩:=f e he
 exact ⟨k,L,o,a,b,fun m=>(List.mem_append.mp m).elim n fun m=>hn e he (by rw [a,List.mem_singleton.mp m]),c,d⟩
structure HRel (D:Wd)(γ:List Addr)(H:Hp)(h:Heap):Prop where
 len:γ.length=H.length
 nodup:γ.Nodup
 objs:∀ (i:Nat) (a:Addr) (o:O),γ[i]? = some a→H[i]? = some o→ORep D γ h a o
 fresh:∀ a∈γ,D.hB.get? a=none
 base:∀ b o,D.hB.get? b=some o→h.get? b=some o
 frs:FrsOk D γ h
structure Stp (wr γ γ':List Addr)(s s':Shared):Prop where
 same:∃ h' tk,s' = { s with heap:=h',toks:=tk }
 keepS:∀ b o,b∉γ→b∉wr→s.heap.get? b=some o→∃ sl,s'.heap.get? b=some { o with slots:=sl }∧(az1 o→sl=o.slots)
 ext:∃ δ,γ'=γ++δ∧∀ a∈δ,s.heap.get? a=none
theorem Stp.keep {wr γ γ':List Addr}{s s':Shared}(t:Stp wr γ γ' s s')(b:Addr)(o:Obj)(h1:b∉γ)(h2:b∉wr)(nd:az1 o)(e:s.heap.get? b=some o):s'.heap.get? b=some o:=by
 refine e1_2 (t.keepS b o h1 h2 e) fun sl e' q=>?_
 rw [q nd] at e';exact e'
theorem Stp.of {wr γ γ':List Addr}{s s':Shared}(h1:∃ h' tk,s' = { s with heap:=h',toks:=tk })(h2:∀ b o,b∉γ→b∉wr→s.heap.get? b=some o→s'.heap.get? b=some o)(h3:∃ δ,γ'=γ++δ∧∀ a∈δ,s.heap.get? a=none):Stp wr γ γ' s s' :=
 ⟨h1,fun b o a c e=>⟨o.slots,h2 b o a c e,fun _=>rfl⟩,h3⟩
theorem Stp.ns {wr γ γ':List Addr}{s s':Shared}(t:Stp wr γ γ' s s'){b:Addr}{m:Str→Option Value}(h1:b∉γ)(h2:b∉wr)(n:s.heap.Ns b m):s'.heap.Ns b m:=by
 refine e3_2 n fun o es ep ho r=>?_
 refine e1_2 (t.keepS b o h1 h2 ho) fun sl e' _=>?_
 exact ⟨_,es,ep,e',r⟩
theorem Stp.live {wr γ γ':List Addr}{s s':Shared}(t:Stp wr γ γ' s s'){b:Addr}{o:Obj}(h1:b∉γ)(h2:b∉wr)(e:s.heap.get? b=some o):∃ o',s'.heap.get? b=some o':=by
 refine e1_2 (t.keepS b o h1 h2 e) fun sl e' _=>?_
 exact ⟨_,e'⟩
theorem O7 {o:Obj}{vs:Array Value}{n:Nat}(h:o.data=.seq vs n):az1 o:=fun es m q=>by rw [h] at q;cases q
theorem m5 {o:Obj}{vs:Array Value}(h:o.data=.fields vs):az1 o:=fun es m q=>by rw [h] at q;cases q
theorem bd8 {h:Heap}{b:Addr}{m:Str→Option Value}(n:h.Ns b m):∃ o,h.get? b=some o∧¬ az1 o:=by
 refine e3_3 n fun o es ep ho hd _=>?_
 exact ⟨o,ho,fun q=>q es ep hd⟩
theorem aI4 {h:Heap}{a:Addr}{o:Obj}(e:h.get? a=some o)(k:∀ ws n,o≠{ cls:=.type "tuple",data:=.seq ws n })(ws:List Value):¬ TupAt h a ws:=fun t=>by
 refine e1_2 t fun m e' _=>?_
 exact k _ _ (Option.some.inj (e.symm.trans e'))
theorem ORep.there {D:Wd}{γ:List Addr}{h:Heap}{a:Addr}{o:O}(r:ORep D γ h a o):(∃ ob,h.get? a=some ob)∧∀ ws,¬ TupAt h a ws:=by
 cases o with
 | list _=>obtain ⟨vs,n,e,_⟩:=r;exact ⟨⟨_,e⟩,aI4 e fun _ _ q=>absurd (congrArg Obj.cls q) (show ¬ Value.type "list" = Value.type "tuple" by decide)⟩
 | inst _=>obtain ⟨o,dx,e,_,c,_⟩:=r;exact ⟨⟨_,e⟩,aI4 e fun _ _ q=>by rw [q] at c;exact Value.noConfusion c⟩
 | ns _=>obtain ⟨m,⟨o,es,ep,e,d,_⟩,_⟩:=r;exact ⟨⟨_,e⟩,aI4 e fun _ _ q=>by rw [q] at d;exact Data.noConfusion d⟩
 | dict _=>obtain ⟨kvs,⟨o,es,ep,e,_,d,_⟩,_⟩:=r;exact ⟨⟨_,e⟩,aI4 e fun _ _ q=>by rw [q] at d;exact Data.noConfusion d⟩
theorem HRel.obj {D:Wd}{γ:List Addr}{H:Hp}{h:Heap}(R:HRel D γ H h){i:Nat}{a:Addr}(e:γ[i]? = some a):∃ o,H[i]? = some o∧ORep D γ h a o:=by
 have hi:i<H.length:=R.len▸(List.getElem?_eq_some_iff.mp e).1
 exact ⟨_,List.getElem?_eq_getElem hi,R.objs i a _ e (List.getElem?_eq_getElem hi)⟩
theorem HRel.alive {D:Wd}{γ:List Addr}{H:Hp}{h:Heap}(R:HRel D γ H h){a:Addr}(ha:a∈γ):(∃ o,h.get? a=some o)∧∀ ws,¬ TupAt h a ws:=by
 obtain ⟨i,hi,e⟩:=List.getElem_of_mem ha
 obtain ⟨o,_,r⟩:=R.obj (i:=i) (a:=a) (by rw [←e];exact List.getElem?_eq_getElem hi)
 exact r.there
theorem Stp.refl {wr γ:List Addr}{s:Shared}:Stp wr γ γ s s:=.of ⟨s.heap,s.toks,rfl⟩ (fun _ _ _ _ e=>e) ⟨[],by simp,by simp⟩
theorem Stp.trans {D:Wd}{wr γ γ1 γ2:List Addr}{s s1 s2:Shared}{H1:Hp}(R1:HRel D γ1 H1 s1.heap)(a:Stp wr γ γ1 s s1)(b:Stp wr γ1 γ2 s1 s2)
  (hw:∀ x∈wr,∀ o,s.heap.get? x=some o→∃ o',s1.heap.get? x=some o'):Stp wr γ γ2 s s2:=by
 refine e1_2 (a.ext) fun δ1 e1 f1=>?_
 refine e1_2 (b.ext) fun δ2 e2 f2=>?_
 refine ⟨?_,?_,⟨δ1++δ2,by rw [e2,e1,List.append_assoc],?_⟩⟩
 ·refine e2_1 (a.same) fun h1 t1 q1=>?_
  refine e2_1 (b.same) fun h2 t2 q2=>?_
  exact ⟨h2,t2,by rw [q2,q1]⟩
 ·intro x o hx hxw e
  refine e1_2 (a.keepS x o hx hxw e) fun sl1 k1 q1=>?_
  have hx2:x∉γ1:=fun hm=>by
   rw [e1] at hm
   rcases List.mem_append.mp hm with q|q
   ·exact hx q
   ·rw [f1 x q] at e;exact b9 e
  refine e1_2 (b.keepS x _ hx2 hxw k1) fun sl2 k2 q2=>?_
  exact ⟨sl2,k2,fun nd=>(q2 nd).trans (q1 nd)⟩
 ·intro x hx
  rcases List.mem_append.mp hx with q|q
  ·exact f1 x q
  ·cases e:s.heap.get? x with
   | none=>rfl
   | some o =>
    have hn:=f2 x q
    by_cases hg:x∈γ
    ·obtain ⟨⟨o',e'⟩,_⟩:=R1.alive (a:=x) (by rw [e1];exact List.mem_append_left _ hg)
     rw [hn] at e';exact b9 e'
    ·by_cases hxw:x∈wr
     ·refine e1_1 (hw x hxw o e) fun o' e'=>?_
      rw [hn] at e';exact b9 e'
     ·refine e1_1 (a.live hg hxw e) fun o' e'=>?_
      rw [hn] at e';exact b9 e'
theorem Stp.trans0 {D:Wd}{γ γ1 γ2:List Addr}{s s1 s2:Shared}{H1:Hp}(R1:HRel D γ1 H1 s1.heap)(a:Stp [] γ γ1 s s1)(b:Stp [] γ1 γ2 s1 s2):Stp [] γ γ2 s s2 :=
 a.trans R1 b (fun _ h=>nomatch h)
theorem Stp.weak {wr γ γ':List Addr}{s s':Shared}(a:Stp [] γ γ' s s'):Stp wr γ γ' s s':=⟨a.same,fun b o h1 _ e=>a.keepS b o h1 (fun h=>nomatch h) e,a.ext⟩
theorem getElem?_ext {γ γ':List Addr}{i:Nat}{a:Addr}(h:∃ δ,γ'=γ++δ)(e:γ[i]? = some a):γ'[i]? = some a:=by
 refine e1_1 h fun δ e_5=>?_
 obtain rfl:=e_5
 rw [List.getElem?_append_left]
 ·exact e
 ·obtain ⟨h1,_⟩:=List.getElem?_eq_some_iff.mp e;exact h1
theorem aQ5 {l:List Addr}(hn:l.Nodup){i j:Nat}(hi:i<l.length)(hj:j<l.length)(e:l[i]=l[j]):i=j:=by
 have p:=List.pairwise_iff_getElem.mp hn
 rcases Nat.lt_trichotomy i j with q|q|q
 ·exact absurd e (p i j hi hj q)
 ·exact q
 ·exact absurd e.symm (p j i hj hi q)
mutual
theorem Rep.mono {mg:Wd}{γ γ':List Addr}{h h':Heap}(hg:∃ δ,γ'=γ++δ)(hk:∀ a vs,TupAt h a vs→TupAt h' a vs){v:Value}:∀ {V:V},Rep mg γ h v V→Rep mg γ' h' v V
 | .none,x=>x
 | .bool _,x=>x
 | .int _,x=>x
 | .str _,x=>x
 | .tup l,x=>by
  refine e2_3 x fun a vs e t r=>?_
  exact Exists.intro a ⟨vs,e,hk _ _ t,Reps.mono hg hk r⟩
 | .ref _,x=>by
  refine e1_2 x fun a e r=>?_
  exact Exists.intro a ⟨getElem?_ext hg e,r⟩
 | .fn _,x=>x
 | .ty _,x=>x
 | .bi _,x=>x
 | .scr _,x=>x
 | .bk,x=>x
 | .cls _ _,x=>x
 | .opq _,x=>x
theorem Reps.mono {mg:Wd}{γ γ':List Addr}{h h':Heap}(hg:∃ δ,γ'=γ++δ)(hk:∀ a vs,TupAt h a vs→TupAt h' a vs){vs:List Value}:∀ {l:List V},Reps mg γ h vs l→Reps mg γ' h' vs l
 | [],x=>x
 | V::l,x=>by
  refine e2_3 x fun v r e a b=>?_
  exact Exists.intro v ⟨r,e,Rep.mono hg hk a,Reps.mono hg hk b⟩
end
theorem FsRep.mono {mg:Wd}{γ γ':List Addr}{h h':Heap}(hg:∃ δ,γ'=γ++δ)(hk:∀ a vs,TupAt h a vs→TupAt h' a vs){fs:List (Str × V)}{m:Str→Option Value}(x:FsRep mg γ h fs m):FsRep mg γ' h' fs m :=
 ⟨fun y V e=>let ⟨v,q,r⟩:=x.1 y V e; ⟨v,q,Rep.mono hg hk r⟩,x.2⟩
theorem ORep.mono {mg:Wd}{γ γ':List Addr}{h h':Heap}{a:Addr}(hg:∃ δ,γ'=γ++δ)(ht:∀ a vs,TupAt h a vs→TupAt h' a vs)(hk:∀ o,h.get? a=some o→h'.get? a=some o){o:O}(r:ORep mg γ h a o):ORep mg γ' h' a o:=by
 cases o with
 | list _=>obtain ⟨vs,n,e,r,z⟩:=r;exact ⟨vs,n,hk _ e,Reps.mono hg ht r,z⟩
 | inst _=>obtain ⟨o,dx,e,j,r⟩:=r;exact ⟨o,dx,hk _ e,getElem?_ext hg j,r⟩
 | ns _=>obtain ⟨m,n,r,q⟩:=r;exact ⟨m,n.at hk,r.mono hg ht,q⟩
 | dict _=>obtain ⟨kvs,n,r,z⟩:=r;exact ⟨kvs,n.at hk,r.mono hg ht,z⟩
theorem Reps.length {mg:Wd}{γ:List Addr}{h:Heap}:∀ {vs:List Value} {l:List V},Reps mg γ h vs l→vs.length=l.length
 | vs,[],x=>by obtain rfl:=x;rfl
 | vs,V::l,x=>by
  refine e2_3 x fun v r e_6 _ b=>?_
  obtain rfl:=e_6
  exact congrArg (· + 1) (Reps.length b)
theorem Reps.get {mg:Wd}{γ:List Addr}{h:Heap}:∀ {vs:List Value} {l:List V} {k:Nat} {V:V},Reps mg γ h vs l→l[k]? = some V→∃ v,vs[k]? = some v∧Rep mg γ h v V
 | vs,[],_,_,_,e=>b9 e
 | vs,V::l,0,W,x,e=>by
  refine e2_3 x fun v r e_7 a b=>?_
  obtain rfl:=e_7
  obtain rfl:=Option.some.inj e
  exact ⟨v,rfl,a⟩
 | vs,V::l,k+1,W,x,e=>by
  refine e2_3 x fun v r e_8 a b=>?_
  obtain rfl:=e_8
  exact Reps.get (k:=k) b e
theorem Reps.append {mg:Wd}{γ:List Addr}{h:Heap}:∀ {vs:List Value} {l:List V} {ws:List Value} {m:List V},Reps mg γ h vs l→Reps mg γ h ws m→Reps mg γ h (vs++ws) (l++m)
 | vs,[],ws,m,x,y=>by obtain rfl:=x;exact y
 | vs,V::l,ws,m,x,y=>by
  refine e2_3 x fun v r e_9 a b=>?_
  obtain rfl:=e_9
  exact Exists.intro v ⟨r++ws,rfl,a,Reps.append b y⟩
theorem Reps.drop {mg:Wd}{γ:List Addr}{h:Heap}:∀ {vs:List Value} {l:List V} (n:Nat),Reps mg γ h vs l→Reps mg γ h (vs.drop n) (l.drop n)
 | vs,l,0,x=>x
 | vs,[],n+1,x=>by obtain rfl:=x;exact rfl
 | vs,V::l,n+1,x=>by
  refine e2_3 x fun v r e_10 a b=>?_
  obtain rfl:=e_10
  exact Reps.drop n b
theorem Reps.take {mg:Wd}{γ:List Addr}{h:Heap}:∀ {vs:List Value} {l:List V} (n:Nat),Reps mg γ h vs l→Reps mg γ h (vs.take n) (l.take n)
 | vs,l,0,x=>rfl
 | vs,[],n+1,x=>by obtain rfl:=x;exact rfl
 | vs,V::l,n+1,x=>by
  refine e2_3 x fun v r e_11 a b=>?_
  obtain rfl:=e_11
  exact Exists.intro v ⟨_,rfl,a,Reps.take n b⟩
theorem Reps.one {mg:Wd}{γ:List Addr}{h:Heap}{v:Value}{V:V}(x:Rep mg γ h v V):Reps mg γ h [v] [V]:=Exists.intro v ⟨[],rfl,x,rfl⟩
theorem Reps.reverse {mg:Wd}{γ:List Addr}{h:Heap}:∀ {vs:List Value} {l:List V},Reps mg γ h vs l→Reps mg γ h vs.reverse l.reverse
 | vs,[],x=>by obtain rfl:=x;exact rfl
 | vs,V::l,x=>by
  refine e2_3 x fun v r e_12 a b=>?_
  obtain rfl:=e_12
  rw [List.reverse_cons,List.reverse_cons]
  exact (Reps.reverse b).append (Reps.one a)
theorem Reps.of_get {mg:Wd}{γ:List Addr}{h:Heap}:∀ {vs:List Value} {l:List V},vs.length=l.length→(∀ (k:Nat) (v:Value) (V:V),vs[k]? = some v→l[k]? = some V→Rep mg γ h v V)→Reps mg γ h vs l
 | [],[],_,_=>rfl
 | [],_::_,e,_=>Nat.noConfusion e
 | _::_,[],e,_=>Nat.noConfusion e
 | v::vs,V::l,e,f=>Exists.intro v ⟨vs,rfl,f 0 v V rfl rfl,Reps.of_get (Nat.succ.inj e) fun k u U h1 h2=>f (k+1) u U h1 h2⟩
section
variable {D:Wd} {wr γ γ':List Addr} {H:Hp} {s s':Shared}
theorem TupAt.stp (R:HRel D γ H s.heap)(t:Stp wr γ γ' s s')(hw:∀ x∈wr,∀ ws,¬ TupAt s.heap x ws){a:Addr}{vs:List Value}(x:TupAt s.heap a vs):TupAt s'.heap a vs:=by
 refine e1_2 (id x) fun n e f=>?_
 exact ⟨n,t.keep a _ (fun hm=>(R.alive hm).2 _ x) (fun hm=>hw a hm _ x) (O7 rfl) e,f⟩
theorem Rep.stp (R:HRel D γ H s.heap)(t:Stp wr γ γ' s s')(hw:∀ x∈wr,∀ ws,¬ TupAt s.heap x ws){v:Value}{V:V}(x:Rep D γ s.heap v V):Rep D γ' s'.heap v V :=
 Rep.mono (let ⟨δ,e,_⟩:=t.ext; ⟨δ,e⟩) (fun _ _ q=>q.stp R t hw) x
theorem Reps.stp (R:HRel D γ H s.heap)(t:Stp wr γ γ' s s')(hw:∀ x∈wr,∀ ws,¬ TupAt s.heap x ws){vs:List Value}{l:List V}(x:Reps D γ s.heap vs l):Reps D γ' s'.heap vs l :=
 Reps.mono (let ⟨δ,e,_⟩:=t.ext; ⟨δ,e⟩) (fun _ _ q=>q.stp R t hw) x
theorem Rep.stp0 (R:HRel D γ H s.heap)(t:Stp [] γ γ' s s'){v:Value}{V:V}(x:Rep D γ s.heap v V):Rep D γ' s'.heap v V:=x.stp R t (fun _ h=>nomatch h)
theorem Reps.stp0 (R:HRel D γ H s.heap)(t:Stp [] γ γ' s s'){vs:List Value}{l:List V}(x:Reps D γ s.heap vs l):Reps D γ' s'.heap vs l:=x.stp R t (fun _ h=>nomatch h)
theorem C7 {h':Heap}{tk:Nat}(hk:∀ b o,s.heap.get? b=some o→h'.get? b=some o):Stp wr γ γ s { s with heap:=h',toks:=tk } :=
 .of ⟨h',tk,rfl⟩ (fun b o _ _ e=>hk b o e) ⟨[],by simp,by simp⟩
theorem j9 {h h':Heap}(hk:∀ b o,h.get? b=some o→h'.get? b=some o){a:Addr}{vs:List Value}(x:TupAt h a vs):TupAt h' a vs:=by
 obtain ⟨n,e,r⟩:=x;exact ⟨n,hk _ _ e,r⟩
theorem HRel.grow {h h':Heap}(R:HRel D γ H h)(hk:∀ b o,h.get? b=some o→h'.get? b=some o):HRel D γ H h' :=
 ⟨R.len,R.nodup,fun i a o e1 e2=>(R.objs i a o e1 e2).mono ⟨[],by simp⟩ (fun _ _=>j9 hk) (hk a),R.fresh,fun b o e=>hk _ _ (R.base b o e),R.frs.grow hk⟩
theorem HRel.adopt {o:O}{h:Heap}{a:Addr}(R:HRel D γ H h)(hn:a∉γ)(hB:D.hB.get? a=none)(hf:∀ e∈D.fr,e.frame≠some a)(ho:ORep D (γ++[a]) h a o):HRel D (γ++[a]) (H++[o]) h where
 len:=by rw [List.length_append,List.length_append,R.len];rfl
 nodup:=by
  refine List.nodup_append.mpr ⟨R.nodup,by simp,fun b hb c hc=>?_⟩
  rw [List.mem_singleton.mp hc]
  intro e
  exact hn (e▸hb)
 objs:=fun i b ob e1 e2=>by
  by_cases hi:i<γ.length
  ·rw [List.getElem?_append_left hi] at e1
   rw [List.getElem?_append_left (R.len▸hi)] at e2
   exact (R.objs i b ob e1 e2).mono ⟨[a],rfl⟩ (fun _ _ x=>x) (fun _ x=>x)
  ·have hge:=Nat.le_of_not_lt hi
   rw [List.getElem?_append_right hge] at e1
   rw [List.getElem?_append_right (R.len▸hge),←R.len] at e2
   have h0:i-γ.length=0:=by
    have:=(List.getElem?_eq_some_iff.mp e1).1
    exact Nat.lt_one_iff.mp this
   rw [h0] at e1 e2
   obtain rfl:=Option.some.inj e1
   obtain rfl:=Option.some.inj e2
   exact ho
 fresh:=fun b hb=>by
  rcases List.mem_append.mp hb with q|q
  ·exact R.fresh b q
  ·rw [List.mem_singleton.mp q];exact hB
 base:=R.base
 frs:=R.frs.more hf
theorem HRel.nin {h:Heap}{a:Addr}(R:HRel D γ H h)(hn:h.get? a=none):a∉γ∧D.hB.get? a=none:=by
 refine ⟨fun hm=>?_,?_⟩
 ·refine j4 (R.alive hm) fun e_13 _=>?_
  refine e1_1 e_13 fun o e=>?_
  rw [hn] at e;exact b9 e
 ·cases e:D.hB.get? a with
  | none=>rfl
  | some o=>have:=R.base _ _ e;rw [hn] at this;exact b9 this
theorem HRel.add {o:O}{h h':Heap}{a:Addr}(R:HRel D γ H h)(hk:∀ b ob,h.get? b=some ob→h'.get? b=some ob)(hn:h.get? a=none)(ho:ORep D (γ++[a]) h' a o):HRel D (γ++[a]) (H++[o]) h' :=
 (R.grow hk).adopt (R.nin hn).1 (R.nin hn).2 (R.frs.ne hn) ho
theorem HRel.addList {vs:List Value}{l:List V}{h h':Heap}{a:Addr}{n:Nat}(R:HRel D γ H h)(r:Reps D γ h vs l)(hz:l.length≤2000000)
  (hk:∀ b o,h.get? b=some o→h'.get? b=some o) (hn:h.get? a=none) (ha:h'.get? a=some { cls:=.type "list",data:=.seq vs.toArray n }) :
  HRel D (γ++[a]) (H++[.list l]) h':=R.add hk hn ⟨vs,n,ha,Reps.mono ⟨_,rfl⟩ (fun _ _=>j9 hk) r,by rw [r.length];exact hz⟩
theorem y3 (h:Heap):h.get? h.objs.size=none:=by
 cases e:h.get? h.objs.size with
 | none=>rfl
 | some o=>exact absurd (Heap.lt_size e) (Nat.lt_irrefl _)
theorem Stp.add {h':Heap}{tk:Nat}{a:Addr}(hk:∀ b o,s.heap.get? b=some o→h'.get? b=some o)(hn:s.heap.get? a=none):Stp wr γ (γ++[a]) s { s with heap:=h',toks:=tk } :=
 .of ⟨_,_,rfl⟩ (fun b o _ _ e=>hk b o e) ⟨[a],rfl,fun b hb=>by rw [List.mem_singleton.mp hb];exact hn⟩
theorem HRel.setObj {i:Nat}{a:Addr}{o:O}{h h':Heap}(R:HRel D γ H h)(hi:γ[i]? = some a)(hk:∀ b o,b≠a→h.get? b=some o→h'.get? b=some o)
  (ho:(∀ b ws,TupAt h b ws→TupAt h' b ws)→ORep D γ h' a o):HRel D γ (H.set i o) h':=by
 have ha:a∈γ:=List.mem_of_getElem? hi
 have ht:∀ b ws,TupAt h b ws→TupAt h' b ws:=fun b ws x=>by
  refine e1_2 (id x) fun m q d=>?_
  exact ⟨m,hk _ _ (fun e=>(R.alive ha).2 ws (e▸x)) q,d⟩
 refine ⟨by rw [List.length_set];exact R.len,R.nodup,fun j b ob e1 e2=>?_,R.fresh,fun b ob q=>hk b ob (fun e=>?_) (R.base b ob q),R.frs.but fun b ob hb e d=>⟨ob,hk b ob (fun q=>hb (q▸ha)) e,d⟩⟩
 ·by_cases hj:i=j
  ·subst hj
   rw [hi] at e1
   obtain rfl:=Option.some.inj e1
   rw [List.getElem?_set_self (R.len▸(List.getElem?_eq_some_iff.mp hi).1)] at e2
   obtain rfl:=Option.some.inj e2
   exact ho ht
  ·rw [List.getElem?_set_ne hj] at e2
   refine (R.objs j b ob e1 e2).mono ⟨[],by simp⟩ ht fun o q=>hk b o (fun e=>?_) q
   subst e
   refine e1_1 (List.getElem?_eq_some_iff.mp hi) fun h1 q1=>?_
   refine e1_1 (List.getElem?_eq_some_iff.mp e1) fun h2 q2=>?_
   exact hj (aQ5 R.nodup h1 h2 (q1.trans q2.symm))
 ·rw [e,R.fresh _ ha] at q;exact b9 q
theorem HRel.setList {i:Nat}{a:Addr}{vs:List Value}{l:List V}{n:Nat}{h h':Heap}(R:HRel D γ H h)(hi:γ[i]? = some a)(r:Reps D γ h vs l)(hz:l.length≤2000000)
  (e:h'.get? a=some { cls:=.type "list",data:=.seq vs.toArray n }) (hk:∀ b o,b≠a→h.get? b=some o→h'.get? b=some o) :
  HRel D γ (H.set i (.list l)) h':=R.setObj hi hk fun ht=>⟨vs,n,e,Reps.mono ⟨[],by simp⟩ ht r,by rw [r.length];exact hz⟩
end
end Mine
namespace Mine
open PySem
inductive XNew (D:Wd)(γ:List Addr)(s:Shared)(h:Heap)(e:Value)(x:Exc):Prop where
 | mk:∀ a oe vs C a0,e=.ref a→s.heap.get? a=none→h.get? a=some oe→oe.cls=.ref C→D.mg x.cls=some (.ref C)→oe.data=.fields vs→vs[0]? = some a0→vs[1]? = some .none→a∉γ→XNew D γ s h e x
inductive XFly (D:Wd)(γ:List Addr)(s:Shared)(h:Heap)(e:Value)(x:Exc):Prop where
 | mk:∀ a oe vs C a0 T oT ts,e=.ref a→s.heap.get? a=none→h.get? a=some oe→oe.cls=.ref C→D.mg x.cls=some (.ref C)→oe.data=.fields vs→vs[0]? = some a0→vs[1]? = some (.ref T)→s.heap.get? T=none→T≠a→h.get? T=some oT→oT.data=.fields ts→a∉γ→T∉γ→(∃ fl,ts[3]? = some fl)→XFly D γ s h e x
inductive PostV (D:Wd)(γ:List Addr)(s:Shared)(Q:V→Hp→Prop)(v:Value)(s':Shared):Prop where
 | mk:∀ γ' V H',Stp [] γ γ' s s'→HRel D γ' H' s'.heap→Rep D γ' s'.heap v V→Q V H'→PostV D γ s Q v s'
inductive PostL (D:Wd)(γ:List Addr)(s:Shared)(Q:List V→Hp→Prop)(vs:List Value)(s':Shared):Prop where
 | mk:∀ γ' Vs H',Stp [] γ γ' s s'→HRel D γ' H' s'.heap→Reps D γ' s'.heap vs Vs→Q Vs H'→PostL D γ s Q vs s'
inductive PostB (D:Wd)(γ:List Addr)(s:Shared)(Q:Bool→Hp→Prop)(c:Bool)(s':Shared):Prop where
 | mk:∀ γ' H',Stp [] γ γ' s s'→HRel D γ' H' s'.heap→Q c H'→PostB D γ s Q c s'
inductive PostX (D:Wd)(γ:List Addr)(s:Shared)(X:XL)(e:Value)(s':Shared):Prop where
 | mk:∀ γ' H' x,Stp [] γ γ' s s'→HRel D γ' H' s'.heap→(XFly D γ' s s'.heap e x∧(x.cls,x.ups)∈D.ex)→X x H'→PostX D γ s X e s'
theorem PostX.no {D:Wd}{γ:List Addr}{s:Shared}{e:Value}{s':Shared}(h:PostX D γ s noX e s'):False:=by
 obtain ⟨_,_,_,_,_,_,x⟩:=h;exact x
noncomputable abbrev Wd.M (D:Wd):Model:=model D.prog D.w
structure AOkC (D:Wd)(k:Nat)(A:Around):Prop where
 frames:A.frames=some D.fr
 handled:A.handled=none
 depth:A.depth+3*k<900
 units:A.units+16*k<9000
 guards:A.guards=some []
structure AOk (D:Wd)(k:Nat)(A:Around):Prop where
 frames:A.frames=some D.fr
 handled:A.handled=none
 depth:A.depth+3*k+2<900
 units:A.units+16*k+8<9000
 guards:A.guards=some []
noncomputable abbrev Wd.push (D:Wd)(env:Env):Wd:={ D with fr:=env::D.fr }
theorem AOk.c {D:Wd}{k:Nat}{A:Around}(h:AOk D k A):AOkC D k A:=⟨h.frames,h.handled,by have:=h.depth;lia,by have:=h.units;lia,h.guards⟩
theorem AOkC.mono {D:Wd}{k k':Nat}{A:Around}(h:AOkC D k A)(hk:k'≤k):AOkC D k' A:=⟨h.frames,h.handled,by have:=h.depth;lia,by have:=h.units;lia,h.guards⟩
theorem AOkC.deeper {D:Wd}{k:Nat}{A:Around}(h:AOkC D (k+1) A)(env:Env):AOk (D.push env) k (A.deeper env) :=
 ⟨Around.frames_deeper h.frames,h.handled,by have:=h.depth;show A.depth+1+3*k+2<900;lia,by have:=h.units;show A.units+3+16*k+8<9000;lia,h.guards⟩
theorem az0 (A:Around)(c:Code):(A.under c).guards=pushGuards c.guards A.guards:=rfl
theorem AOk.under {D:Wd}{k:Nat}{A:Around}(h:AOk D k A)(C:Addr):AOkC D k (A.under (.builtin "type.__call__" ⟨[.ref C],[]⟩)):=by
 have e1:(Code.builtin "type.__call__" ⟨[.ref C],[]⟩).weight=1:=by with_unfolding_all rfl
 have e2:(Code.builtin "type.__call__" ⟨[.ref C],[]⟩).guards=[]:=by with_unfolding_all rfl
 exact ⟨by show pushEnvs (Code.builtin "type.__call__" ⟨[.ref C],[]⟩).envs A.frames=_;rw [h.frames];with_unfolding_all rfl,h.handled,by have:=h.depth;show A.depth+(Code.builtin "type.__call__" ⟨[.ref C],[]⟩).weight+3*k<900;lia,by have:=h.units;show A.units+1+16*k<9000;lia,by rw [az0,e2,h.guards];rfl⟩
theorem an3 {D:Wd}{γ γ1:List Addr}{H1:Hp}{s s1:Shared}(t:Stp [] γ γ1 s s1)(R:HRel D γ1 H1 s1.heap){a:Addr}(h:s1.heap.get? a=none):s.heap.get? a=none:=by
 cases e:s.heap.get? a with
 | none=>rfl
 | some o =>
  by_cases hg:a∈γ
  ·refine e1_2 (t.ext) fun δ e1 _=>?_
   obtain ⟨⟨o',e'⟩,_⟩:=R.alive (a:=a) (by rw [e1];exact List.mem_append_left _ hg)
   rw [h] at e';exact b9 e'
  ·refine e1_1 (t.live hg (fun h=>nomatch h) e) fun o' e'=>?_
   rw [h] at e';exact b9 e'
theorem XFly.from {D:Wd}{γ:List Addr}{s s1:Shared}{h:Heap}{e:Value}{x:Exc}(f:∀ a,s1.heap.get? a=none→s.heap.get? a=none)(q:XFly D γ s1 h e x):XFly D γ s h e x:=by
 obtain ⟨a,oe,vs,C,a0,T,oT,ts,h1,h2,h3,h4,h5,h6,h7,h8,h9,h10,h11,h12,h13,h14,h15⟩:=q
 exact ⟨a,oe,vs,C,a0,T,oT,ts,h1,f a h2,h3,h4,h5,h6,h7,h8,f T h9,h10,h11,h12,h13,h14,h15⟩
theorem XNew.from {D:Wd}{γ:List Addr}{s s1:Shared}{h:Heap}{e:Value}{x:Exc}(f:∀ a,s1.heap.get? a=none→s.heap.get? a=none)(q:XNew D γ s1 h e x):XNew D γ s h e x:=by
 obtain ⟨a,oe,vs,C,a0,h1,h2,h3,h4,h5,h6,h7,h8,h9⟩:=q
 exact ⟨a,oe,vs,C,a0,h1,f a h2,h3,h4,h5,h6,h7,h8,h9⟩
section
variable {D:Wd} {γ γ1:List Addr} {H H1:Hp} {s s1:Shared} {A:Around}
theorem PostV.back {Q:V→Hp→Prop}{v:Value}{s':Shared}(t:Stp [] γ γ1 s s1)(R:HRel D γ1 H1 s1.heap)(h:PostV D γ1 s1 Q v s'):PostV D γ s Q v s':=by
 obtain ⟨γ',V,H',a,b,c,d⟩:=h
 exact ⟨γ',V,H',t.trans0 R a,b,c,d⟩
theorem PostL.back {Q:List V→Hp→Prop}{v:List Value}{s':Shared}(t:Stp [] γ γ1 s s1)(R:HRel D γ1 H1 s1.heap)(h:PostL D γ1 s1 Q v s'):PostL D γ s Q v s':=by
 obtain ⟨γ',V,H',a,b,c,d⟩:=h
 exact ⟨γ',V,H',t.trans0 R a,b,c,d⟩
theorem PostB.back {Q:Bool→Hp→Prop}{v:Bool}{s':Shared}(t:Stp [] γ γ1 s s1)(R:HRel D γ1 H1 s1.heap)(h:PostB D γ1 s1 Q v s'):PostB D γ s Q v s':=by
 obtain ⟨γ',H',a,b,d⟩:=h
 exact ⟨γ',H',t.trans0 R a,b,d⟩
theorem PostX.back {X:XL}{v:Value}{s':Shared}(t:Stp [] γ γ1 s s1)(R:HRel D γ1 H1 s1.heap)(h:PostX D γ1 s1 X v s'):PostX D γ s X v s':=by
 obtain ⟨γ',H',x,a,b,⟨c,m⟩,d⟩:=h
 exact ⟨γ',H',x,t.trans0 R a,b,⟨c.from fun _=>an3 t R,m⟩,d⟩
theorem S8 {t:Sem Value}{Q:V→Hp→Prop}{X:XL}(st:Stp [] γ γ1 s s1)(R:HRel D γ1 H1 s1.heap)(h:wpAny D.M A t (PostV D γ1 s1 Q) (PostX D γ1 s1 X) s1) :
  wpAny D.M A t (PostV D γ s Q) (PostX D γ s X) s1:=wpAny_mono h (fun _ _ x=>x.back st R) (fun _ _ x=>x.back st R)
theorem aC6 {t:Sem Bool}{Q:Bool→Hp→Prop}{X:XL}(st:Stp [] γ γ1 s s1)(R:HRel D γ1 H1 s1.heap)(h:wpAny D.M A t (PostB D γ1 s1 Q) (PostX D γ1 s1 X) s1) :
  wpAny D.M A t (PostB D γ s Q) (PostX D γ s X) s1:=wpAny_mono h (fun _ _ x=>x.back st R) (fun _ _ x=>x.back st R)
theorem q7 {t:Sem Value}{Q:V→Hp→Prop}{P:Value→Shared→Prop}{X:XL}(h:wpAny D.M A t (PostV D γ s Q) (PostX D γ s X) s)
  (k:∀ v s1 γ1 V H1,Stp [] γ γ1 s s1→HRel D γ1 H1 s1.heap→Rep D γ1 s1.heap v V→Q V H1→P v s1):wpAny D.M A t P (PostX D γ s X) s :=
 wpAny_mono h (fun v s1 ⟨γ1,V,H1,a,b,c,d⟩=>k v s1 γ1 V H1 a b c d) (fun _ _ x=>x)
theorem ac7 {t:Sem Bool}{Q:Bool→Hp→Prop}{P:Bool→Shared→Prop}{X:XL}(h:wpAny D.M A t (PostB D γ s Q) (PostX D γ s X) s)
  (k:∀ v s1 γ1 H1,Stp [] γ γ1 s s1→HRel D γ1 H1 s1.heap→Q v H1→P v s1):wpAny D.M A t P (PostX D γ s X) s :=
 wpAny_mono h (fun v s1 ⟨γ1,H1,a,b,d⟩=>k v s1 γ1 H1 a b d) (fun _ _ x=>x)
theorem ae7 {t:Sem Value}{Q:V→Hp→Prop}{P:Value→Shared→Prop}{X:XL}(st:Stp [] γ γ1 s s1)(R:HRel D γ1 H1 s1.heap)(h:wpAny D.M A t (PostV D γ1 s1 Q) (PostX D γ1 s1 X) s1)
  (k:∀ v s2 γ2 V H2,Stp [] γ1 γ2 s1 s2→HRel D γ2 H2 s2.heap→Rep D γ2 s2.heap v V→Q V H2→P v s2):wpAny D.M A t P (PostX D γ s X) s1 :=
 wpAny_mono h (fun v s2 ⟨γ2,V,H2,a,b,c,d⟩=>k v s2 γ2 V H2 a b c d) (fun _ _ x=>x.back st R)
theorem PostV.now {Q:V→Hp→Prop}{v:Value}{V:V}(R:HRel D γ H s.heap)(r:Rep D γ s.heap v V)(h:Q V H){tk:Nat}:PostV D γ s Q v { s with toks:=tk } :=
 ⟨γ,V,H,C7 fun _ _ e=>e,R,r,h⟩
theorem PostV.here {Q:V→Hp→Prop}{v:Value}{V:V}(R:HRel D γ H s.heap)(r:Rep D γ s.heap v V)(h:Q V H):PostV D γ s Q v s :=
 ⟨γ,V,H,Stp.refl,R,r,h⟩
theorem PostB.now {Q:Bool→Hp→Prop}{c:Bool}(R:HRel D γ H s.heap)(h:Q c H){tk:Nat}:PostB D γ s Q c { s with toks:=tk } :=
 ⟨γ,H,C7 fun _ _ e=>e,R,h⟩
theorem PostB.here {Q:Bool→Hp→Prop}{c:Bool}(R:HRel D γ H s.heap)(h:Q c H):PostB D γ s Q c s:=⟨γ,H,Stp.refl,R,h⟩
theorem PostV.grown {Q:V→Hp→Prop}{v:Value}{V:V}{h':Heap}{tk:Nat}(R:HRel D γ H s.heap)(hk:∀ b o,s.heap.get? b=some o→h'.get? b=some o)(r:Rep D γ h' v V)(h:Q V H) :
  PostV D γ s Q v { s with heap:=h',toks:=tk }:=⟨γ,V,H,C7 hk,R.grow hk,r,h⟩
theorem aT0 {h:Heap}{a:Addr}(R:HRel D γ H s.heap):Rep D (γ++[a]) h (.ref a) (.ref H.length) :=
 Exists.intro a ⟨by rw [←R.len,List.getElem?_concat_length],rfl⟩
theorem PostV.addList {Q:V→Hp→Prop}{vs:List Value}{l:List V}{h':Heap}{a:Addr}{n tk:Nat}(R:HRel D γ H s.heap)(r:Reps D γ s.heap vs l)(hz:l.length≤2000000)
  (hk:∀ b o,s.heap.get? b=some o→h'.get? b=some o) (hn:s.heap.get? a=none) (ha:h'.get? a=some { cls:=.type "list",data:=.seq vs.toArray n }) (h:Q (.ref H.length) (H++[.list l])) :
  PostV D γ s Q (.ref a) { s with heap:=h',toks:=tk } :=
 ⟨γ++[a],.ref H.length,H++[.list l],Stp.add hk hn,R.addList r hz hk hn ha,aT0 R,h⟩
theorem PostV.newList {Q:V→Hp→Prop}{vs:List Value}{l:List V}(R:HRel D γ H s.heap)(r:Reps D γ s.heap vs l)(hz:l.length≤2000000)(h:Q (.ref H.length) (H++[.list l])) :
  PostV D γ s Q (.ref s.heap.objs.size) { s with heap:=s.heap.push { cls:=.type "list",data:=.seq vs.toArray } } :=
 PostV.addList (tk:=s.toks) R r hz (fun _ _ e=>Heap.get?_push_of_some _ e) (y3 _) (Heap.get?_push_size _ rfl) h
theorem ad2 {i:Nat}{a:Addr}{h':Heap}{tk:Nat}(hi:γ[i]? = some a)(hk:∀ b o,b≠a→s.heap.get? b=some o→h'.get? b=some o):Stp [] γ γ s { s with heap:=h',toks:=tk } :=
 .of ⟨_,_,rfl⟩ (fun b o hb _ e=>hk b o (fun q=>hb (q▸List.mem_of_getElem? hi)) e) ⟨[],by simp,by simp⟩
theorem PostV.setList {Q:V→Hp→Prop}{vs:List Value}{l:List V}{h':Heap}{i:Nat}{a:Addr}{n tk:Nat}{v:Value}{V:V}(R:HRel D γ H s.heap)(hi:γ[i]? = some a)(r:Reps D γ s.heap vs l)(hz:l.length≤2000000)
  (hk:∀ b o,b≠a→s.heap.get? b=some o→h'.get? b=some o) (ha:h'.get? a=some { cls:=.type "list",data:=.seq vs.toArray n }) (rv:Rep D γ h' v V) (h:Q V (H.set i (.list l))) :
  PostV D γ s Q v { s with heap:=h',toks:=tk } :=
 ⟨γ,V,H.set i (.list l),ad2 hi hk,R.setList hi r hz ha hk,rv,h⟩
theorem PostV.newTuple {Q:V→Hp→Prop}{vs:List Value}{l:List V}(R:HRel D γ H s.heap)(r:Reps D γ s.heap vs l)(hz:l.length≤2000000)(h:Q (.tup l) H) :
  PostV D γ s Q (.ref s.heap.objs.size) { s with heap:=s.heap.push { cls:=.type "tuple",data:=.seq vs.toArray } } :=
 have hk:∀ b o,s.heap.get? b=some o→(s.heap.push { cls:=.type "tuple",data:=.seq vs.toArray }).get? b=some o:=fun _ _ e=>Heap.get?_push_of_some _ e
 PostV.grown (V:=.tup l) (tk:=s.toks) R hk (Exists.intro _ ⟨vs,rfl,⟨0,Heap.get?_push_size _ rfl,by rw [r.length];exact hz⟩,Reps.mono ⟨[],by simp⟩ (fun _ _=>j9 hk) r⟩) h
end
noncomputable def cm2 (D:Wd)(env:Env):Prop:=∃ e0 outer,D.fr=e0::outer∧env.frame=e0.frame
structure LRel (D:Wd)(γ:List Addr)(env:Env)(slots:List (Str × Nat))(h:Heap)(L:Lc):Prop where
 ns:∃ m,h.Ns env.locals m∧∀ (x:Str) (i:Nat) (V:V),env.kindOf x=some .local→slots.lookup x=some i→L[i]? = some (some V)→∃ v,m x=some v∧Rep D γ h v V
 cel:∀ (x:Str),env.kindOf x=some .cell→∃ c u,env.cells.lookup x=some c∧h.IsCell c u∧c∉γ ∧
  ∀ (i:Nat) (V:V),slots.lookup x=some i→L[i]? = some (some V)→∃ v,u=some v∧Rep D γ h v V
 nin:env.locals∉γ
 tp:cm2 D env
structure s8 (c:CC)(env:Env):Prop where
 scope:env.scope=c.scope
 kind:c.scope.kind=.function
 globals:env.globals=mainGlobals
 builtins:env.builtins=builtinsNs
noncomputable abbrev bmV:List Value:=[.type "ValueError",.type "Exception",.type "BaseException",.type "object"]
inductive ClsAt (h:Heap)(C:Addr)(bm:List Value):Prop where
 | mk:∀ N nm q bs hdct sn sub ab col dd k0 k1 k2 k3 k5 mN,h.get? C=some (excClassObj nm q C N bs bm hdct sn sub ab col dd k0 k1 k2 k3 k5 "ValueError.__new__")→h.Ns N mN→mN "__init__" = none→OwnTail h bmV bm→ClsAt h C bm
theorem ClsAt.keeps {h h':Heap}{C:Addr}{bm:List Value}(x:ClsAt h C bm)(hk:∀ b o,h.get? b=some o→h'.get? b=some o):ClsAt h' C bm:=by
 obtain ⟨N,nm,q,bs,hdct,sn,sub,ab,col,dd,k0,k1,k2,k3,k5,mN,hC,hN,hq,T⟩:=x
 exact ⟨N,nm,q,bs,hdct,sn,sub,ab,col,dd,k0,k1,k2,k3,k5,mN,hk _ _ hC,hN.keeps hk,hq,T.keeps hk⟩
noncomputable def bK0 (D:Wd)(x:Str)(ups:List Str)(C:Addr):Prop :=
 ∃ bm,D.mg x=some (.ref C)∧ClsAt D.hB C bm ∧
  (∀ (y:Str) (ups':List Str) (Cy:Addr),(y,ups')∈D.ex→D.mg y=some (.ref Cy)→(Value.ref C::bm).contains (.ref Cy)=ups.contains y)
inductive BkC (D:Wd):Prop where
 | mk:∀ N nm q bs sn sub col dd k0 k1 k2 k3 k5,D.hB.get? D.bk=some (excClassObj nm q D.bk N bs [.type "object"] true sn sub false col dd k0 k1 k2 k3 k5 "object.__new__")→D.hB.Ns N D.mt→BkC D
inductive MtC (D:Wd)(m:Str):Prop where
 | mk:X9 m=false→(∃ y,typeLookup (.type "object") m=pure y)→∀ a o,D.mt m=some (.ref a)→D.hB.get? a=some o→o.cls=.type "function"→(∃ fd,o.data=.func fd)→D.fa (Str.ofString "Book."++m)=some a→MtC D m
structure cj0 (D:Wd)(mts:List Str):Prop where
 cls:BkC D
 noG:D.mt "__getattribute__" = none
 noH:D.mt "__getattr__" = none
 noS:D.mt "__setattr__" = none
 noF:∀ x,X9 x=true→D.mt x=none
 mts:∀ m,mts.contains m=true→MtC D m
 init:∃ a o,D.mt "__init__" = some (.ref a)∧D.hB.get? a=some o∧o.cls=.type "function"∧D.fa "Book.__init__" = some a
structure GOk (D:Wd)(G:List (Str × V))(mts:List Str):Prop where
 gns:D.hB.Ns mainGlobals D.mg
 bns:D.hB.Ns builtinsNs D.mb
 val:∀ (x:Str) (V:V),G.lookup x=some V→∃ v,(D.mg x=some v∨(D.mg x=none∧D.mb x=some v))∧∀ γ,Rep D γ D.hB v V
 lim:D.hB.NoLimit
 bk:cj0 D mts
 cls:∀ (x z:Str) (ups:List Str),G.lookup x=some (.cls z ups)→(z,ups)∈D.ex
 exs:∀ (x:Str) (ups:List Str),(x,ups)∈D.ex→∃ C,bK0 D x ups C
section
variable {D:Wd} {γ γ1:List Addr} {H H1:Hp} {s s1:Shared} {env:Env} {slots:List (Str × Nat)} {L:Lc}
theorem E1 (t:Stp [] γ γ1 s s1){a:Addr}{o:Obj}(h:a∉γ)(e:s.heap.get? a=some o):a∉γ1:=by
 refine e1_2 (t.ext) fun δ e_15 f=>?_
 obtain rfl:=e_15
 intro q
 rcases List.mem_append.mp q with q|q
 ·exact h q
 ·rw [f a q] at e;exact b9 e
theorem LRel.stp (l:LRel D γ env slots s.heap L)(R:HRel D γ H s.heap)(t:Stp [] γ γ1 s s1):LRel D γ1 env slots s1.heap L where
 ns:=by
  refine e1_2 (l.ns) fun m n f=>?_
  refine ⟨m,t.ns l.nin (fun h=>nomatch h) n,fun x i V a b c=>?_⟩
  refine e1_2 (f x i V a b c) fun v e q=>?_
  exact ⟨v,e,q.stp0 R t⟩
 cel:=fun x hx=>by
  refine e2_4 (l.cel x hx) fun c u a e_16 hc f=>?_
  refine e1_2 e_16 fun o ho hd=>?_
  refine ⟨c,u,a,⟨o,t.keep _ _ hc (fun h=>nomatch h) (fun es n q=>by rw [hd] at q;cases q) ho,hd⟩,E1 t hc ho,fun i V b d=>?_⟩
  refine e1_2 (f i V b d) fun v e q=>?_
  exact ⟨v,e,q.stp0 R t⟩
 nin:=by
  refine e1_2 (l.ns) fun m e_17 f=>?_
  refine e3_2 e_17 fun o es ep ho r=>?_
  exact E1 t l.nin ho
 tp:=l.tp
theorem LRel.grow {h h':Heap}(l:LRel D γ env slots h L)(hk:∀ b o,h.get? b=some o→h'.get? b=some o):LRel D γ env slots h' L where
 ns:=by
  refine e1_2 (l.ns) fun m n f=>?_
  refine ⟨m,n.keeps hk,fun x i V a b c=>?_⟩
  refine e1_2 (f x i V a b c) fun v e q=>?_
  exact ⟨v,e,Rep.mono ⟨[],by simp⟩ (fun _ _=>j9 hk) q⟩
 cel:=fun x hx=>by
  refine e2_4 (l.cel x hx) fun c u a q hc f=>?_
  refine ⟨c,u,a,q.keeps hk,hc,fun i V b d=>?_⟩
  refine e1_2 (f i V b d) fun v e q=>?_
  exact ⟨v,e,Rep.mono ⟨[],by simp⟩ (fun _ _=>j9 hk) q⟩
 nin:=l.nin
 tp:=l.tp
end
noncomputable def g7 (D:Wd)(k:Nat)(Φ:Orc):Prop:=∀ fr x vs H Q X,Φ x vs H Q X→∀ A γ s vals a,AOkC { D with fr:=fr } k A→HRel { D with fr:=fr } γ H s.heap→Reps { D with fr:=fr } γ s.heap vals vs→D.fa x=some a →
 (∃ o fd,D.hB.get? a=some o∧o.data=.func fd)∧wpAny D.M A (call (.ref a) vals) (PostV { D with fr:=fr } γ s Q) (PostX { D with fr:=fr } γ s X) s
noncomputable def SEP (P:Around→Prop)(D:Wd)(Φ:Orc)(c:CC)(e:Expr)(ie:IE):Prop:=∀ env A γ H s L Q X,s8 c env→P A→HRel D γ H s.heap→LRel D γ env c.slots s.heap L →
 (wp2 Φ ie).E L H Q X→wpAny D.M A (eval e env) (PostV D γ s Q) (PostX D γ s X) s
noncomputable def STP (P:Around→Prop)(D:Wd)(Φ:Orc)(c:CC)(e:Expr)(ie:IE):Prop:=∀ env A γ H s L Q X,s8 c env→P A→HRel D γ H s.heap→LRel D γ env c.slots s.heap L →
 (wp2 Φ ie).T L H Q X→wpAny D.M A (isTrue e env (eval e env)) (PostB D γ s Q) (PostX D γ s X) s
noncomputable abbrev SE (D:Wd)(Φ:Orc)(k:Nat)(c:CC)(e:Expr)(ie:IE):Prop:=SEP (AOk D k) D Φ c e ie
noncomputable abbrev ST (D:Wd)(Φ:Orc)(k:Nat)(c:CC)(e:Expr)(ie:IE):Prop:=STP (AOk D k) D Φ c e ie
end Mine
namespace Mine
open PySem PyProof.Rows
theorem af9 {x:Str}:PyData.strOk x=true↔∀ c∈x.cps.toList,c<0x110000:=by
 unfold PyData.strOk
 rw [←Array.all_toList,List.all_eq_true]
 simp
section
variable {D:Wd} {γ:List Addr} {H:Hp} {s:Shared} {A:Around} {E:Value→Shared→Prop} {Q:V→Hp→Prop} {x:Str} {t:Tok}
theorem k9 {h:Heap}{b:Bool}:Rep D γ h (.bool b) (.bool b):=rfl
theorem I7 {h:Heap}{i:Int}{t:Tok}:Rep D γ h (.int i t) (.int i):=Exists.intro t rfl
theorem av6 {h:Heap}{x:Str}{t:Tok}(f:N1 x):Rep D γ h (.str x t) (.str x):=Exists.intro t ⟨rfl,f⟩
theorem aU1 {o:O}{l:List V}(h:bV6 o=some l):o=.list l:=by
 cases o with
 | list _=>exact congrArg O.list (Option.some.inj h)
 | _=>exact b9 h
theorem aW5 {H:Hp}{i:Nat}{l:List V}(h:b6 H i=some l):H[i]? = some (.list l):=by
 refine e1_2 (Option.bind_eq_some_iff.mp h) fun o e h=>?_
 rw [e,aU1 h]
theorem HRel.list {i:Nat}{a:Addr}{l:List V}(R:HRel D γ H s.heap)(hi:γ[i]? = some a)(hl:b6 H i=some l):∃ vs n,s.heap.get? a=some { cls:=.type "list",data:=.seq vs.toArray n }∧Reps D γ s.heap vs l∧vs.length≤2000000:=R.objs i a _ hi (aW5 hl)
theorem aZ0 (R:HRel D γ H s.heap)(f:N1 x)(q:Q (.int x.length) H):wpAny D.M A (call (.builtin "len") [.str x t]) (PostV D γ s Q) E s :=
 PySem.P.len_str (by have:=f.1;lia) (PostV.now R I7 q)
end
end Mine
namespace Mine
open PySem PyProof.Rows
section
variable {D:Wd} {γ:List Addr} {H:Hp} {s:Shared} {A:Around} {E:Value→Shared→Prop}
theorem TupAt.isTup {h:Heap}{a:Addr}{vs:List Value}(x:TupAt h a vs):IsTup h a vs.toArray:=by
 obtain ⟨n,e,_⟩:=x;exact ⟨_,e,rfl,n,rfl⟩
theorem TupAt.isTuple {h:Heap}{a:Addr}{vs:List Value}(x:TupAt h a vs):h.IsTuple a vs.toArray:=by
 obtain ⟨n,e,_⟩:=x;exact ⟨_,e,rfl,n,rfl⟩
theorem TupAt.size {h:Heap}{a:Addr}{vs:List Value}(x:TupAt h a vs):vs.length≤2000000:=by
 obtain ⟨n,e,z⟩:=x;exact z
theorem ai7 {x y:Str}(f:N1 x)(g:N1 y)(h:x.length+y.length≤1000000):N1 (x++y):=by
 refine ⟨by rw [strLen_append];lia,?_⟩
 have a:=f.2;have b:=g.2
 unfold PyData.strOk at a b ⊢
 show (x.cps++y.cps).all _=true
 rw [Array.all_append,a,b];rfl
theorem ap7 {v:Value}{c:Bool}{Q:Bool→Hp→Prop}(R:HRel D γ H s.heap)(r:Rep D γ s.heap v (.bool c))(q:Q c H) :
  wpAny D.M A (truthy v) (PostB D γ s Q) E s:=by
 obtain rfl:=r
 exact wpAny_truthy_bool (PostB.here R q)
theorem bz0 {v:Value}{i:Int}{Q:V→Hp→Prop}(R:HRel D γ H s.heap)(r:Rep D γ s.heap v (.int i))(q:Q (.int (-i)) H) :
  wpAny D.M A (unaryOp .USub v) (PostV D γ s Q) E s:=by
 refine e1_1 r fun t e_18=>?_
 obtain rfl:=e_18
 exact neg_int (PostV.now R I7 q)
theorem aZ4 {l:Addr}{v:Value}{x:V}{n:Int}{m:Nat}{u:Tok}{Q:V→Hp→Prop}(R:HRel D γ H s.heap)(hl:s.heap.get? l=some { cls:=.type "list",data:=.seq [v].toArray m })(rx:Rep D γ s.heap v x)(hb:0≤n∧n≤1000000)
  (q:Q (.ref H.length) (H++[.list (List.replicate n.toNat x)])):wpAny D.M A (binaryOp .Mult (.ref l) (.int n u)) (PostV D γ s Q) E s:=by
 have hsz:[v].toArray.size*n.toNat≤2 ^ 24:=by show 1*n.toNat≤_;lia
 refine wpAny_binaryOp_repeat_ref (T:="list") (U:="int") (by decide) ⟨_,hl,rfl⟩ (fun s'=>typeIs_int s' n u) noFill_list_mul F.fills_int_mul F.slot_int_rmul repeat_list F.slot_int_index.lookup
  (call_meets F.slot_int_rmul (typeIs_int s n u) F.entry_int_rmul (F.args_int_rmul_2 _ _) (int___rmul___int_list n u l [v].toArray m)
   ⟨hl,rfl,⟨_,hl,rfl⟩,call_meets F.slot_list_mul ⟨_,hl,rfl⟩ F.entry_list_mul (F.args_list_mul_2 _ _)
    (AutoListH.list___mul___list_int_3 l [v].toArray m n u (by simp [Builtin.List.listFitsIndex];lia) (by lia) (by simp [Builtin.List.listTooLong,sizeLine];lia)) ⟨hl,?_⟩⟩)
 have e:List.foldl (fun x1 x2=>x1++x2) #[] (List.replicate (if [v].toArray.isEmpty=true then 0 else n.toNat) [v].toArray)=(List.replicate n.toNat v).toArray:=(listMul_foldl _ _ _).trans (congrArg List.toArray (lm_rep_flat_one v n.toNat))
 show PostV D γ s Q _ { s with heap:=s.heap.push { cls:=.type "list",data:=.seq (List.foldl (fun x1 x2=>x1++x2) #[] (List.replicate (if [v].toArray.isEmpty=true then 0 else n.toNat) [v].toArray)) } }
 rw [e]
 refine PostV.newList R (Reps.of_get (by rw [List.length_replicate,List.length_replicate]) fun k w W h1 h2=>?_) (by rw [List.length_replicate];lia) q
 rw [List.eq_of_mem_replicate (List.mem_of_getElem? h1),List.eq_of_mem_replicate (List.mem_of_getElem? h2)]
 exact rx
theorem M1 {D:Wd}{γ:List Addr}{h:Heap}{a b:Value}{Va Vb:V}{P:Int→Int→Prop}{R:Value→Value→Prop}(w:al5 Va Vb P)(ra:Rep D γ h a Va)(rb:Rep D γ h b Vb)(k:∀ i j t u,P i j→R (.int i t) (.int j u)):R a b:=by
 refine e1_2 (d8 w) fun i e1 w=>?_
 refine e1_2 (d8 w) fun j e2 w=>?_
 rw [r7 e1] at ra
 rw [r7 e2] at rb
 refine e1_1 ra fun t e_19=>?_
 obtain rfl:=e_19
 refine e1_1 rb fun u e_20=>?_
 obtain rfl:=e_20
 exact k i j t u w
theorem bC3 {op:Operator}{a b:Value}{Va Vb:V}{Q:V→Hp→Prop}(R:HRel D γ H s.heap)(ra:Rep D γ s.heap a Va)(rb:Rep D γ s.heap b Vb)(h:s9 op Va Vb H Q) :
  wpAny D.M A (binaryOp op a b) (PostV D γ s Q) E s:=by
 cases op with
 | Add =>
  replace h:ch5 Va Vb H Q:=h
  cases Va with
  | int i =>
   refine e1_2 (d8 (show oK (al4 Vb) _ from h)) fun j e h=>?_
   rw [r7 e] at rb
   obtain ⟨t,rfl⟩:=ra;obtain ⟨u,rfl⟩:=rb
   exact add_int (PostV.now R I7 h)
  | str x =>
   refine e1_2 (d8 (show oK (aN5 Vb) _ from h)) fun y e h=>?_
   rw [V7 e] at rb
   obtain ⟨t,rfl,f⟩:=ra;obtain ⟨u,rfl,g⟩:=rb
   refine PyProof.Rows.add_str (fun t' tk=>PostV.now R (av6 (ai7 f g h.1)) h.2) (by rw [sizeLine_eq];lia)
  | ref i =>
   refine e1_2 (d8 (show oK (ai5 Vb) _ from h)) fun j e h=>?_
   rw [q8 e] at rb
   obtain ⟨x,hx,rfl⟩:=ra;obtain ⟨y,hy,rfl⟩:=rb
   refine e1_2 (d8 h) fun xs h1 h=>?_
   refine e1_3 (d8 h) fun ys h2 h3 h4=>?_
   refine e2_3 (R.list hx h1) fun vs n e rs z=>?_
   refine e2_3 (R.list hy h2) fun ws m e' rs' z'=>?_
   have:=rs.length;have:=rs'.length
   refine P.add_list (items:=vs.toArray) (items2:=ws.toArray) (n:=n) (n2:=m) e e' ?_ (by simp [sizeLine_eq];lia)
   rw [List.append_toArray]
   exact PostV.newList R (rs.append rs') (by simp;lia) h4
  | _=>exact h.elim
 | Sub=>exact M1 (R:=fun a b=>wpAny D.M A (binaryOp .Sub a b) (PostV D γ s Q) E s) (show al5 Va Vb _ from h) ra rb fun i j t u h=>sub_int (PostV.now R I7 h)
 | Mult =>
  replace h:cj8 Va Vb H Q:=h
  cases Va with
  | int i =>
   refine e1_2 (d8 (show oK (al4 Vb) _ from h)) fun j e h=>?_
   rw [r7 e] at rb
   obtain ⟨t,rfl⟩:=ra;obtain ⟨u,rfl⟩:=rb
   replace h:=And.imp_left aG1.mp h
   refine mul_int (PostV.now R I7 h.2) ?_
   rcases h.1 with q|q
   ·exact IntMulOk.of_left (intBits_le_64 q.1 q.2)
   ·exact IntMulOk.of_right (intBits_le_64 q.1 q.2)
  | ref i =>
   refine e1_2 (d8 (show oK (b6 H i) _ from h)) fun xs h1 h=>?_
   refine e1_2 (z7 h) fun x e_21 h=>?_
   obtain rfl:=e_21
   refine e1_3 (d8 h) fun n e hb q=>?_
   rw [r7 e] at rb
   obtain ⟨l,hl,rfl⟩:=ra;obtain ⟨u,rfl⟩:=rb
   refine e2_3 (R.list hl h1) fun vs m e1 rs z=>?_
   refine e2_3 rs fun v r e_22 rx e_23=>?_
   obtain rfl:=e_22
   obtain rfl:=e_23
   exact aZ4 R e1 rx hb q
  | str x =>
   refine e1_3 (d8 (show oK (al4 Vb) _ from h)) fun n e hb q=>?_
   rw [r7 e] at rb
   obtain ⟨t,rfl,f⟩:=ra;obtain ⟨u,rfl⟩:=rb
   obtain ⟨h1,h2,h3,h4,h5,h6⟩:=hb
   have c3:x.length*n.toNat≤1000*1000:=Nat.mul_le_mul h4 (by lia)
   refine PySem.P.mul_str (by rw [decide_eq_false (by lia),decide_eq_false (by lia)];rfl) (fun _ _=>?_) (fun _ _=>?_) ?_
   ·have:(1000:Int)≤(2 ^ 63-1)/n:=Int.le_ediv_of_mul_le (by lia) (by lia)
    lia
   ·exact decide_eq_false (by rw [sizeLine_eq];lia)
   ·rw [if_neg (show ¬ n<1 by lia)]
    by_cases h0:n=1
    ·subst h0
     rw [if_pos (show ((1:Int)==1||x.length==0)=true from rfl)]
     have ex:aQ2 x (1:Int).toNat=x:=by show (⟨#[]++x.cps⟩:Str)=x;rw [Array.empty_append]
     rw [ex] at q
     exact PostV.here R (av6 f) q
    ·rw [show (n==1||x.length==0)=false by rw [Bool.or_eq_false_iff];exact ⟨beq_false_of_ne h0,beq_false_of_ne (by lia)⟩,if_neg Bool.false_ne_true]
     exact ⟨by show (aQ2 x n.toNat).length≤_;rw [sizeLine_eq];lia,PostV.now R (av6 ⟨h5,h6⟩) q⟩
  | _=>exact h.elim
 | FloorDiv =>
  refine M1 (R:=fun a b=>wpAny D.M A (binaryOp .FloorDiv a b) (PostV D γ s Q) E s) (show al5 Va Vb _ from h) ra rb fun i j t u h=>?_
  replace h:=And.imp_left aa0.mp h
  have hj:j≠0:=by have:=h.1.1;lia
  refine floordiv_int hj (PostV.now (V:=.int (i.fdiv j)) R I7 ?_) (.inl (PyProof.noPylong_of_log2 ?_))
  ·rw [Int.fdiv_eq_ediv_of_nonneg _ (by lia)];exact h.2
  ·have h1:=h.1
   have h2:j.natAbs<2 ^ 128:=by lia
   have h3:j.natAbs≠0:=by lia
   have:=(Nat.log2_lt h3).mpr h2
   lia
 | Mod =>
  refine M1 (R:=fun a b=>wpAny D.M A (binaryOp .Mod a b) (PostV D γ s Q) E s) (show al5 Va Vb _ from h) ra rb fun i j t u h=>?_
  replace h:=And.imp_left aa0.mp h
  have hj:j≠0:=by have:=h.1.1;lia
  refine mod_int' hj (PostV.now (V:=.int (i.fmod j)) R I7 ?_)
  rw [Int.fmod_eq_emod_of_nonneg _ (by lia)];exact h.2
 | Pow=>exact M1 (R:=fun a b=>wpAny D.M A (binaryOp .Pow a b) (PostV D γ s Q) E s) (show al5 Va Vb _ from h) ra rb fun i j t u h=>(fun h=>pow_int_small h.1.1 h.1.2.1 h.1.2.2 (PostV.now R I7 h.2)) (And.imp_left bR6.mp h)
 | _=>exact h.elim
theorem aT2 {k:Int}{n:Nat}(h0:0≤k)(h1:k<(n:Int)):seqIndex? k n=some k.toNat:=by
 have e:(if k<0 then k+(n:Int) else k)=k:=if_neg (by lia)
 show (if (0≤(if k<0 then k+(n:Int) else k)&&decide ((if k<0 then k+(n:Int) else k)<(n:Int)))=true then some (if k<0 then k+(n:Int) else k).toNat else none)=_
 rw [e,if_pos (by rw [Bool.and_eq_true,decide_eq_true_eq,decide_eq_true_eq];exact ⟨h0,h1⟩)]
theorem bf2 {k:Int}{n:Nat}(h0:k<0)(h1:0≤k+(n:Int)):seqIndex? k n=some (k+(n:Int)).toNat:=by
 have e:(if k<0 then k+(n:Int) else k)=k+(n:Int):=if_pos h0
 show (if (0≤(if k<0 then k+(n:Int) else k)&&decide ((if k<0 then k+(n:Int) else k)<(n:Int)))=true then some (if k<0 then k+(n:Int) else k).toNat else none)=_
 rw [e,if_pos (by rw [Bool.and_eq_true,decide_eq_true_eq,decide_eq_true_eq];lia)]
theorem bG1 {α:Type}{l:List α}{k:Int}{v:α}(h:idx l k=some v):∃ j,seqIndex? k l.length=some j∧l[j]? = some v∧-(l.length:Int)≤k∧k<(l.length:Int):=by
 unfold idx at h
 by_cases h0:0≤k
 ·rw [if_pos h0] at h
  have:=(List.getElem?_eq_some_iff.mp h).1
  exact ⟨_,aT2 h0 (by lia),h,by lia,by lia⟩
 ·rw [if_neg h0] at h
  by_cases h1:0≤k+(l.length:Int)
  ·rw [if_pos h1] at h
   exact ⟨_,bf2 (by lia) h1,h,by lia,by lia⟩
  ·rw [if_neg h1] at h;exact b9 h
theorem aO9 {o:O}{l:List (Str × V)}(h:cj3 o=some l):o=.dict l:=by
 cases o with
 | dict _=>exact congrArg O.dict (Option.some.inj h)
 | _=>exact b9 h
theorem HRel.dict {i:Nat}{a:Addr}{es:List (Str × V)}(R:HRel D γ H s.heap)(hi:γ[i]? = some a)(h:j6 H i=some es):∃ kvs,s.heap.DictOf (strKind D.prog D.w) a kvs∧FsRep D γ s.heap es (valueAt kvs)∧kvs.length≤es.length:=by
 refine j2 h fun o e h=>?_
 rw [aO9 h] at e
 exact R.objs i a _ hi e
theorem bJ7 {x:Str}{t:Tok}:Value.isStrOf x (.str x t)=true:=beq_self_eq_true x
theorem bu7 {value slice:Expr}{a b:Value}{Va:V}{k:Int}{Q:V→Hp→Prop}(R:HRel D γ H s.heap)(ra:Rep D γ s.heap a Va)(rb:Rep D γ s.heap b (.int k))(h:bx8 Va k H Q)
  (hs':subscripted slice false a b=operate [a,b] (getItem a b)):wpAny D.M A (subscriptTail value slice a b) (PostV D γ s Q) E s:=by
 refine e1_1 rb fun u e_24=>?_
 obtain rfl:=e_24
 cases Va with
 | tup l =>
  refine e2_3 ra fun t vs e_25 ta rs=>?_
  obtain rfl:=e_25
  refine e1_2 (d8 h) fun v hv q=>?_
  have hz:=ta.size
  have hn:=rs.length
  refine e1_4 (bG1 hv) fun j h0 hv l1 l2=>?_
  refine e1_2 (rs.get hv) fun w hw rw_=>?_
  exact item_tupleT (j:=j) ta.isTup (by lia) (by lia) (by rw [hn];exact h0) hw (PostV.here R rw_ q) hs'
 | ref i =>
  refine e1_2 ra fun x hx e_26=>?_
  obtain rfl:=e_26
  refine e1_2 (d8 h) fun l hl h=>?_
  refine e1_2 (d8 h) fun v hv q=>?_
  refine e2_3 (R.list hx hl) fun vs n e rs hz=>?_
  have hL:s.heap.IsList x vs.toArray:=⟨_,e,rfl,n,rfl⟩
  have hlen:=rs.length
  unfold idx at hv
  by_cases h0:0≤k
  ·rw [if_pos h0] at hv
   refine e1_2 (rs.get hv) fun w hw rw_=>?_
   have hlt:=(List.getElem?_eq_some_iff.mp hw).1
   exact tail_any hL.typeIs slot_list_getitem.lookup (wpAny_getItem_list hL h0 (by lia) (by rw [List.getElem?_toArray];exact hw) (PostV.here R rw_ q)) hs'
  ·rw [if_neg h0] at hv
   by_cases h1:0≤k+(l.length:Int)
   ·rw [if_pos h1,←hlen] at hv
    refine e1_2 (rs.get hv) fun w hw rw_=>?_
    have hsz:vs.toArray.size=vs.length:=List.size_toArray
    exact tail_any hL.typeIs slot_list_getitem.lookup (wpAny_getItem_list_neg hL (by lia) (by rw [hsz];lia) (by lia) (by rw [hsz,List.getElem?_toArray];exact hw) (PostV.here R rw_ q)) hs'
   ·rw [if_neg h1] at hv;exact b9 hv
 | scr ns =>
  obtain ⟨x,vs,rfl,e,hz,hlen,hI⟩:=ra
  refine e1_2 (d8 h) fun v hv q=>?_
  have hL:s.heap.IsList x vs.toArray:=let ⟨o,h1,h2,n,h3⟩:=e; ⟨o,R.base _ _ h1,h2,n,h3⟩
  refine j4 (aw7 hv) fun h0 hv=>?_
  refine e1_1 (hI _ _ hv) fun t hw=>?_
  have hlt:=(List.getElem?_eq_some_iff.mp hw).1
  exact tail_any hL.typeIs slot_list_getitem.lookup (wpAny_getItem_list hL h0 (by lia) (by rw [List.getElem?_toArray];exact hw) (PostV.here (v:=.int v t) (V:=.int v) R I7 q)) hs'
 | str x =>
  refine e1_2 ra fun t e_28 fx=>?_
  obtain rfl:=e_28
  refine e1_2 (d8 h) fun v hv q=>?_
  have hz:=fx.1
  have hl:x.cps.toList.length=x.length:=Array.length_toList
  refine j4 (aw7 hv) fun h0 hv=>?_
  have hlt:=(List.getElem?_eq_some_iff.mp hv).1
  refine tail_any (typeIs_str s x t) F.slot_str_getitem.lookup (P.getItem_str (c:=v) (by simp;lia) (by rw [aT2 h0 (by lia)];simpa using hv) (PostV.now R (V:=.str ⟨#[v]⟩) ?_ q)) hs'
  exact av6 ⟨by show 1≤_;lia,af9.mpr fun c hc=>by simp at hc;subst hc;exact af9.mp fx.2 _ (List.mem_of_getElem? hv)⟩
 | _=>exact h.elim
theorem by3 {value slice:Expr}{a b:Value}{Va Vb:V}{Q:V→Hp→Prop}(R:HRel D γ H s.heap)(ra:Rep D γ s.heap a Va)(rb:Rep D γ s.heap b Vb)(h:a27 Va Vb H Q)
  (hs:∀ lo hi st p,slice≠.Slice lo hi st p):wpAny D.M A (subscriptTail value slice a b) (PostV D γ s Q) E s:=by
 have hs':∀ o i,subscripted slice false o i=operate [o,i] (getItem o i):=fun o i=>by
  unfold subscripted
  split
  ·rename_i lo hi p _ _;exact absurd rfl (hs _ _ _ _)
  ·rename_i h1;cases h1
  ·rfl
 cases Vb with
 | str x =>
  refine e1_2 (d8 (show oK (ai5 Va) _ from h)) fun j hj h=>?_
  rw [q8 hj] at ra
  refine e1_2 (d8 h) fun es he h=>?_
  refine e1_2 (d8 h) fun v hv q=>?_
  refine e1_2 rb fun t e_29 _=>?_
  obtain rfl:=e_29
  refine e1_2 ra fun a ha e_30=>?_
  obtain rfl:=e_30
  refine e1_3 (R.dict ha he) fun kvs hd hf _=>?_
  refine e1_2 (hf.1 x v hv) fun w hw rw_=>?_
  exact tail_any hd.mapOf.typeIs slot_dict_getitem.lookup (wpAny_getItem_of (knd:=strKind D.prog D.w) (k:=x) (bJ7 (t:=t)) hd.mapOf hw (PostV.now R rw_ q)) (hs' _ _)
 | int k=>exact bu7 R ra rb h (hs' _ _)
 | _=>exact h.elim
end
end Mine
namespace Mine
open PySem PyProof.Rows PySem.SeqAt
mutual
theorem w7 {mg:Wd}{γ:List Addr}{h:Heap}{v:Value}:∀ {V:V} {d:PyData},Rep mg γ h v V→a02 V=some d→∃ as,Reads h v d as∧d.canLay0=true:=by
 intro V d r e
 cases V with
 | none=>obtain rfl:=r;obtain rfl:=Option.some.inj e;exact ⟨_,.none,rfl⟩
 | bool b=>obtain rfl:=r;obtain rfl:=Option.some.inj e;exact ⟨_,.bool b,rfl⟩
 | int i=>obtain ⟨t,rfl⟩:=r;obtain rfl:=Option.some.inj e;exact ⟨_,.int i t,rfl⟩
 | str x=>obtain ⟨t,rfl,f⟩:=r;obtain rfl:=Option.some.inj e;exact ⟨_,.str x t,f.2⟩
 | tup l =>
  refine e2_3 r fun a vs e_31 e_32 rs=>?_
  obtain rfl:=e_31
  refine e1_2 e_32 fun n q z=>?_
  refine k8 ((show (A6 l).map _=some d from e)) fun ds hd=>?_
  refine e1_2 (T0 rs hd) fun as ra c=>?_
  exact ⟨as,.tuple q rfl rfl ra,c⟩
 | _=>exact b9 e
theorem T0 {mg:Wd}{γ:List Addr}{h:Heap}{vs:List Value}:∀ {l:List V} {ds:List PyData},Reps mg γ h vs l→A6 l=some ds→∃ as,ReadsAll h vs ds as∧PyData.canLayAll0 ds=true
 | [],ds,r,e=>by obtain rfl:=r;obtain rfl:=Option.some.inj e;exact ⟨_,.nil,rfl⟩
 | V::l,ds,r,e=>by
  refine e2_3 r fun v r' e_33 a b=>?_
  obtain rfl:=e_33
  refine j2 ((show (a02 V).bind _=some ds from e)) fun d h1 e=>?_
  refine k8 e fun ds' h2=>?_
  refine e1_2 (w7 a h1) fun as q1 c1=>?_
  refine e1_2 (T0 b h2) fun bs q2 c2=>?_
  exact ⟨_,.cons q1 q2,by show (d.canLay0&&PyData.canLayAll0 ds')=true;rw [c1,c2];rfl⟩
end
section
variable {D:Wd} {γ:List Addr} {H:Hp} {s:Shared} {A:Around} {E:Value→Shared→Prop} {k:Nat}
theorem ah1 {v:Value}{V:V}{d:PyData}(R:HRel D γ H s.heap)(r:Rep D γ s.heap v V)(e:b64 H V=some d):∃ as,Reads s.heap v d as∧d.canLay0=true:=by
 cases V with
 | ref i =>
  refine k8 ((show ((b6 H i).bind A6).map _=some d from e)) fun ds hb=>?_
  refine j2 hb fun l hl hd=>?_
  refine e1_2 r fun a hi e_34=>?_
  obtain rfl:=e_34
  refine e2_3 (R.list hi hl) fun vs n q rs z=>?_
  refine e1_2 (T0 rs hd) fun as ra c=>?_
  exact ⟨_,.list q rfl rfl ra,c⟩
 | _=>exact w7 r e
mutual
theorem z9 {v:Value}(R:HRel D γ H s.heap):∀ {V:V} {d:PyData},Rep D γ s.heap v V→ae2 H V=some d→∃ as,Reads s.heap v d as∧d.canLay0=true:=by
 intro V d r e
 cases V with
 | none=>exact w7 r e
 | bool b=>exact w7 r e
 | int i=>exact w7 r e
 | str x=>exact w7 r e
 | ref i=>exact ah1 R r e
 | tup l =>
  refine e2_3 r fun a vs e_35 e_36 rs=>?_
  obtain rfl:=e_35
  refine e1_2 e_36 fun n q z=>?_
  refine k8 ((show (aH6 H l).map _=some d from e)) fun ds hd=>?_
  refine e1_2 (Z6 R rs hd) fun as ra c=>?_
  exact ⟨as,.tuple q rfl rfl ra,c⟩
 | _=>exact b9 e
theorem Z6 {vs:List Value}(R:HRel D γ H s.heap):∀ {l:List V} {ds:List PyData},Reps D γ s.heap vs l→aH6 H l=some ds→∃ as,ReadsAll s.heap vs ds as∧PyData.canLayAll0 ds=true
 | [],ds,r,e=>by obtain rfl:=r;obtain rfl:=Option.some.inj e;exact ⟨_,.nil,rfl⟩
 | V::l,ds,r,e=>by
  refine e2_3 r fun v r' e_37 a b=>?_
  obtain rfl:=e_37
  refine j2 ((show (ae2 H V).bind _=some ds from e)) fun d h1 e=>?_
  refine k8 e fun ds' h2=>?_
  refine e1_2 (z9 R a h1) fun as q1 c1=>?_
  refine e1_2 (Z6 R b h2) fun bs q2 c2=>?_
  exact ⟨_,.cons q1 q2,by show (d.canLay0&&PyData.canLayAll0 ds')=true;rw [c1,c2];rfl⟩
end
theorem ch4 (hA:AOk D k A){n m:Nat}(h:n≤60):A.units+min n m<cLine:=by
 have:=hA.units
 have:min n m≤n:=Nat.min_le_left _ _
 show _<9900
 lia
theorem a91 (hA:AOk D k A){n m:Nat}(h:n≤60):A.units+1+min m n<cLine:=by
 have:=hA.units
 have:min m n≤n:=Nat.min_le_right _ _
 show _<9900
 lia
theorem aH5 {a b:V}{c:Bool}(h:eqH H a b=some c):∃ d e,ae2 H a=some d∧ae2 H b=some e∧d.depth≤60∧c=PyData.eqv d e:=by
 refine j2 h fun d h1 h=>?_
 refine j2 h fun e h2 h=>?_
 by_cases hd:d.depth≤60
 ·rw [if_pos hd] at h;exact ⟨d,e,h1,h2,hd,(Option.some.inj h).symm⟩
 ·rw [if_neg hd] at h;exact b9 h
theorem az3 {a:V}{l:List V}{c:Bool}(h:Q3 a l=some c):∃ d ds,a02 a=some d∧A6 l=some ds∧d.depth≤60∧c=ds.any fun e=>PyData.eqv e d:=by
 refine j2 h fun d h1 h=>?_
 refine j2 h fun e h2 h=>?_
 by_cases hd:d.depth≤60
 ·rw [if_pos hd] at h;exact ⟨d,e,h1,h2,hd,(Option.some.inj h).symm⟩
 ·rw [if_neg hd] at h;exact b9 h
theorem bM7 {n:Bool}{a b:Value}{Va Vb:V}{P:Bool→Prop}{Q:Value→Shared→Prop}(hA:AOk D k A)(R:HRel D γ H s.heap)(ra:Rep D γ s.heap a Va)(rb:Rep D γ s.heap b Vb)(h:pIn Va Vb H P)(hq:∀ c,P c→Q (.bool (if n then !c else c)) s) :
  wpAny D.M A (compareOp (if n then .NotIn else .In) a b) Q E s:=by
 cases Vb with
 | str x =>
  refine e1_2 (d8 h) fun y hy q=>?_
  rw [V7 hy] at ra
  refine e1_2 ra fun u e_38 _=>?_
  obtain rfl:=e_38
  refine e1_2 rb fun t e_39 _=>?_
  obtain rfl:=e_39
  cases n with
  | true=>exact PySem.P.notIn_str (hq _ q)
  | false=>exact PySem.P.in_str (hq _ q)
 | tup l =>
  refine e1_2 (d8 h) fun c hc q=>?_
  refine e2_4 (az3 hc) fun d ds h1 h2 hd e_40=>?_
  obtain rfl:=e_40
  refine e1_2 (w7 ra h1) fun as r1 c1=>?_
  obtain ⟨bs,r2,c2⟩:=w7 (d:=.tuple ds) rb (show (A6 l).map PyData.tuple=_ by rw [h2];rfl)
  cases n with
  | true=>exact notIn_tuple_reads r2 r1 c2 c1 (a91 hA hd) (hq _ q)
  | false=>exact in_tuple_reads r2 r1 c2 c1 (a91 hA hd) (hq _ q)
 | ref i =>
  refine e1_2 (d8 h) fun l hl h=>?_
  refine e1_2 (d8 h) fun c hc q=>?_
  refine e2_4 (az3 hc) fun d ds h1 h2 hd e_41=>?_
  obtain rfl:=e_41
  refine e1_2 (w7 ra h1) fun as r1 c1=>?_
  obtain ⟨bs,r2,c2⟩:=ah1 (d:=.list ds) R rb (show ((b6 H i).bind A6).map PyData.list=_ by rw [hl];show (A6 l).map _=_;rw [h2];rfl)
  cases n with
  | true=>exact notIn_list_reads r2 r1 c2 c1 (a91 hA hd) (hq _ q)
  | false=>exact in_list_reads r2 r1 c2 c1 (a91 hA hd) (hq _ q)
 | _=>exact h.elim
theorem aM9 {v:V}(h:w8 v=true):v=.none:=by
 cases v with
 | none=>rfl
 | _=>exact Bool.noConfusion h
theorem aI5 {v:Value}:∀ {V:V},Rep D γ s.heap v V→(v==Value.none)=w8 V
 | .none,r=>by obtain rfl:=r;rfl
 | .bool _,r=>by obtain rfl:=r;rfl
 | .int _,⟨t,e⟩=>by rw [e];rfl
 | .str _,⟨t,e,_⟩=>by rw [e];rfl
 | .tup _,⟨a,vs,e,_⟩=>by rw [e];rfl
 | .ref _,⟨a,_,e⟩=>by rw [e];rfl
 | .fn _,⟨a,e,_⟩=>by rw [e];rfl
 | .ty _,r=>by obtain rfl:=r;rfl
 | .bi _,r=>by obtain rfl:=r;rfl
 | .scr _,⟨a,vs,e,_⟩=>by rw [e];rfl
 | .bk,r=>by obtain rfl:=r;rfl
 | .cls _ _,⟨a,e,_⟩=>by rw [e];rfl
 | .opq _,⟨t,e⟩=>by rw [e];rfl
theorem aJ6 {M:Model}{v:Value}{Q:Value→Shared→Prop}(h:Q (.bool (!(v==.none))) s):wpAny M A (compareOp .IsNot v .none) Q E s:=by
 show wpAny M A (do return .bool (!(← isSame v .none))) Q E s
 rw [isSame_none];exact wpAny_bind (wpAny_pure (wpAny_pure h))
theorem aG4 {op:CmpOp}{a b:Value}{Va Vb:V}{Q:V→Hp→Prop}(hA:AOk D k A)(R:HRel D γ H s.heap)(ra:Rep D γ s.heap a Va)(rb:Rep D γ s.heap b Vb)(h:U0 op Va Vb H Q) :
  wpAny D.M A (compareOp op a b) (PostV D γ s Q) E s:=by
 cases op with
 | Eq =>
  refine e1_2 (d8 (show oK (eqK H Va Vb) _ from h)) fun c hc q=>?_
  rcases aF4 hc with ⟨x,y,rfl,rfl,rfl⟩|hc
  ·obtain ⟨t,rfl⟩:=ra;obtain ⟨u,rfl⟩:=rb
   exact eq_str (PostV.here R k9 q)
  refine e2_4 (aH5 hc) fun d e h1 h2 hd e_42=>?_
  obtain rfl:=e_42
  refine e1_2 (z9 R ra h1) fun as r1 c1=>?_
  refine e1_2 (z9 R rb h2) fun bs r2 c2=>?_
  exact compareEq_reads r1 r2 c1 c2 (ch4 hA hd) (PostV.here R k9 q)
 | NotEq =>
  refine e1_2 (d8 (show oK (eqK H Va Vb) _ from h)) fun c hc q=>?_
  rcases aF4 hc with ⟨x,y,rfl,rfl,rfl⟩|hc
  ·obtain ⟨t,rfl⟩:=ra;obtain ⟨u,rfl⟩:=rb
   exact ne_str (PostV.here R k9 q)
  refine e2_4 (aH5 hc) fun d e h1 h2 hd e_43=>?_
  obtain rfl:=e_43
  refine e1_2 (z9 R ra h1) fun as r1 c1=>?_
  refine e1_2 (z9 R rb h2) fun bs r2 c2=>?_
  exact compareNe_reads r1 r2 c1 c2 (ch4 hA hd) (PostV.here R k9 q)
 | Lt=>exact M1 (R:=fun a b=>wpAny D.M A (compareOp .Lt a b) (PostV D γ s Q) E s) (show al5 Va Vb _ from h) ra rb fun i j t u h=>lt_int (PostV.here R k9 h)
 | LtE=>exact M1 (R:=fun a b=>wpAny D.M A (compareOp .LtE a b) (PostV D γ s Q) E s) (show al5 Va Vb _ from h) ra rb fun i j t u h=>le_int (PostV.here R k9 h)
 | Gt=>exact M1 (R:=fun a b=>wpAny D.M A (compareOp .Gt a b) (PostV D γ s Q) E s) (show al5 Va Vb _ from h) ra rb fun i j t u h=>gt_int (PostV.here R k9 h)
 | GtE=>exact M1 (R:=fun a b=>wpAny D.M A (compareOp .GtE a b) (PostV D γ s Q) E s) (show al5 Va Vb _ from h) ra rb fun i j t u h=>ge_int (PostV.here R k9 h)
 | In=>exact bM7 (n:=false) (P:=fun c=>Q (.bool c) H) hA R ra rb h fun c q=>PostV.here R k9 q
 | NotIn=>exact bM7 (n:=true) (P:=fun c=>Q (.bool (!c)) H) hA R ra rb h fun c q=>PostV.here R k9 q
 | Is =>
  refine j4 (an8 (show aP6 Vb _ from h)) fun e_44 q=>?_
  obtain rfl:=e_44
  obtain rfl:=rb
  exact is_none (PostV.here R k9 (by rw [aI5 ra];exact q))
 | IsNot =>
  refine j4 (an8 (show aP6 Vb _ from h)) fun e_45 q=>?_
  obtain rfl:=e_45
  obtain rfl:=rb
  exact aJ6 (PostV.here R k9 (by rw [aI5 ra];exact q))
theorem bc2 {v:Value}{n:Int}{Q:V→Hp→Prop}{V:V}(R:HRel D γ H s.heap)(r:Rep D γ s.heap v V)
  (h:(∃ l,V=.tup l∧n=(l.length:Int))∨(∃ i l,V=.ref i∧b6 H i=some l∧n=(l.length:Int))) (q:Q (.int n) H) :
  wpAny D.M A (call (.builtin "len") [v]) (PostV D γ s Q) E s:=by
 rcases h with ⟨l,rfl,rfl⟩|⟨i,l,rfl,hl,rfl⟩
 ·refine e2_3 r fun a vs e_46 t rs=>?_
  obtain rfl:=e_46
  have:=t.size;have hlen:=rs.length
  refine len_tuple t.isTup (by simp;lia) (PostV.now R ?_ q)
  exact Exists.intro (s.toks+1) (by simp [hlen])
 ·refine e1_2 r fun a hi e_47=>?_
  obtain rfl:=e_47
  refine e2_3 (R.list hi hl) fun vs n e rs z=>?_
  have hlen:=rs.length
  refine len_list (items:=vs.toArray) ⟨_,e,rfl,n,rfl⟩ (by simp;lia) (PostV.now R ?_ q)
  exact Exists.intro (s.toks+1) (by simp [hlen])
end
end Mine
namespace Mine
open PySem PyProof.Rows PySem.SeqAt
section
variable {D:Wd} {γ:List Addr} {H:Hp} {s:Shared} {A:Around} {E:Value→Shared→Prop} {k:Nat}
theorem bK5 {v:Value}{t:Ty}{c:Bool}{Q:V→Hp→Prop}{W:V}(R:HRel D γ H s.heap)(r:Rep D γ s.heap v W)(h:C2 H W t=some c)(q:Q (.bool c) H) :
  wpAny D.M A (call (.builtin "isinstance") [v,.type t.name]) (PostV D γ s Q) E s:=by
 cases W with
 | none =>
  obtain rfl:=r
  cases t with
  | int=>obtain rfl:=Option.some.inj h;exact IsiPair.NoneType_int (PostV.now R k9 q)
  | bool=>obtain rfl:=Option.some.inj h;exact IsiPair.NoneType_bool (PostV.now R k9 q)
  | str=>obtain rfl:=Option.some.inj h;exact IsiPair.NoneType_str (PostV.now R k9 q)
  | tuple=>obtain rfl:=Option.some.inj h;exact IsiPair.NoneType_tuple (PostV.now R k9 q)
  | list=>obtain rfl:=Option.some.inj h;exact IsiPair.NoneType_list (PostV.now R k9 q)
  | _=>exact b9 h
 | bool b =>
  obtain rfl:=r
  cases t with
  | int=>obtain rfl:=Option.some.inj h;exact IsiPair.bool_int (PostV.here R k9 q)
  | bool=>obtain rfl:=Option.some.inj h;exact IsiPair.bool_bool (PostV.here R k9 q)
  | str=>obtain rfl:=Option.some.inj h;exact IsiPair.bool_str (PostV.now R k9 q)
  | tuple=>obtain rfl:=Option.some.inj h;exact IsiPair.bool_tuple (PostV.now R k9 q)
  | list=>obtain rfl:=Option.some.inj h;exact IsiPair.bool_list (PostV.now R k9 q)
  | _=>exact b9 h
 | int i =>
  refine e1_1 r fun u e_48=>?_
  obtain rfl:=e_48
  cases t with
  | int=>obtain rfl:=Option.some.inj h;exact IsiPair.int_int (PostV.here R k9 q)
  | bool=>obtain rfl:=Option.some.inj h;exact IsiPair.int_bool (PostV.now R k9 q)
  | str=>obtain rfl:=Option.some.inj h;exact IsiPair.int_str (PostV.now R k9 q)
  | tuple=>obtain rfl:=Option.some.inj h;exact IsiPair.int_tuple (PostV.now R k9 q)
  | list=>obtain rfl:=Option.some.inj h;exact IsiPair.int_list (PostV.now R k9 q)
  | _=>exact b9 h
 | str x =>
  refine e1_2 r fun u e_49 _=>?_
  obtain rfl:=e_49
  cases t with
  | int=>obtain rfl:=Option.some.inj h;exact IsiPair.str_int (PostV.now R k9 q)
  | bool=>obtain rfl:=Option.some.inj h;exact IsiPair.str_bool (PostV.now R k9 q)
  | str=>obtain rfl:=Option.some.inj h;exact IsiPair.str_str (PostV.here R k9 q)
  | tuple=>obtain rfl:=Option.some.inj h;exact IsiPair.str_tuple (PostV.now R k9 q)
  | list=>obtain rfl:=Option.some.inj h;exact IsiPair.str_list (PostV.now R k9 q)
  | _=>exact b9 h
 | tup l =>
  refine e2_3 r fun a vs e_50 e_51 _=>?_
  obtain rfl:=e_50
  refine e1_2 e_51 fun n e _=>?_
  cases t with
  | int=>obtain rfl:=Option.some.inj h;exact IsiPair.tuple_int e rfl (PostV.now R k9 q)
  | bool=>obtain rfl:=Option.some.inj h;exact IsiPair.tuple_bool e rfl (PostV.now R k9 q)
  | str=>obtain rfl:=Option.some.inj h;exact IsiPair.tuple_str e rfl (PostV.now R k9 q)
  | tuple=>obtain rfl:=Option.some.inj h;exact IsiPair.tuple_tuple e rfl (PostV.here R k9 q)
  | list=>obtain rfl:=Option.some.inj h;exact IsiPair.tuple_list e rfl (PostV.now R k9 q)
  | _=>exact b9 h
 | ref i =>
  refine e1_2 r fun a hi e_52=>?_
  obtain rfl:=e_52
  have hl0:∃ l,b6 H i=some l∧c=bP8 .list t∧bj7 t=true:=by
   cases ht:bj7 t with
   | false=>unfold C2 at h;rw [ht] at h;exact b9 h
   | true =>
    unfold C2 at h;rw [ht] at h
    refine e1_2 (Option.map_eq_some_iff.mp h) fun y h1 h2=>?_
    refine e1_2 (Option.map_eq_some_iff.mp h1) fun l h3 h4=>?_
    exact ⟨l,h3,by rw [←h2,←h4],rfl⟩
  refine e1_3 hl0 fun l hl e_53 ht=>?_
  obtain rfl:=e_53
  refine e2_3 (R.list hi hl) fun vs n e rs z=>?_
  cases t with
  | int=>exact IsiPair.list_int e rfl (PostV.now R k9 q)
  | bool=>exact IsiPair.list_bool e rfl (PostV.now R k9 q)
  | str=>exact IsiPair.list_str e rfl (PostV.now R k9 q)
  | tuple=>exact IsiPair.list_tuple e rfl (PostV.now R k9 q)
  | list=>exact IsiPair.list_list e rfl (PostV.here R k9 q)
  | _=>exact Bool.noConfusion ht
 | _=>cases t<;>exact b9 h
theorem an0 {v:V}{b:Bool}(h:aY7 v=some b):v=.bool b:=by
 cases v with
 | bool _=>exact congrArg V.bool (Option.some.inj h)
 | _=>exact b9 h
theorem J9 {mg:Wd}{h:Heap}:∀ {l:List V} {bs:List Bool} {vs:List Value},B9 l=some bs→Reps mg γ h vs l→vs=bs.map Value.bool
 | [],bs,vs,e,r=>by obtain rfl:=Option.some.inj e;exact r
 | u::l,bs,vs,e,r=>by
  refine j2 ((show (aY7 u).bind _=some bs from e)) fun b hb e=>?_
  refine k8 e fun cs hc=>?_
  refine e2_3 r fun v w e_54 a b'=>?_
  obtain rfl:=e_54
  rw [an0 hb] at a
  obtain rfl:=a
  rw [J9 hc b'];rfl
theorem bM9 {i:Nat}{v:Value}{l:List V}{bs:List Bool}{Q:V→Hp→Prop}(hA:AOk D k A)(R:HRel D γ H s.heap)(r:Rep D γ s.heap v (.ref i))(hl:b6 H i=some l)(hb:B9 l=some bs)
  (q:Q (.bool (bs.any id)) H):wpAny D.M A (call (.builtin "any") [v]) (PostV D γ s Q) E s:=by
 refine e1_2 r fun a hi e_55=>?_
 obtain rfl:=e_55
 refine e2_3 (R.list hi hl) fun vs n e rs z=>?_
 have hvs:=J9 hb rs
 subst hvs
 have hL:s.heap.IsList a (bs.map Value.bool).toArray:=⟨_,e,rfl,n,rfl⟩
 refine call_any_walk (wpAny_pyIter_list hL ?_)
 have ha:a≠s.heap.objs.size:=Nat.ne_of_lt (Heap.lt_size e)
 refine ⟨_,_,_,_,_,_,fun j=>bs.getD j false,rfl,Walks.list (by exact hA.handled) s.heap.objs.size a ha (bs.map Value.bool).toArray,?_,?_,?_⟩
 ·refine ⟨⟨_,Heap.get?_push_size _ rfl,rfl,rfl⟩,⟨_,Heap.get?_push_of_some _ e,rfl,n,rfl⟩⟩
 ·intro j v s' Q' E' hv hq
  have:v=.bool (bs.getD j false):=by
   rw [List.getElem?_toArray,List.getElem?_map,Option.map_eq_some_iff] at hv
   refine e1_2 hv fun b hb1 e_56=>?_
   obtain rfl:=e_56
   simp [List.getD,hb1]
  subst this
  exact wpAny_truthy_bool hq
 ·intro h' tk hk
  have e1:(List.range (bs.map Value.bool).toArray.size).any (fun j=>bs.getD j false)=bs.any id:=by
   simp only [List.size_toArray,List.length_map]
   rw [Bool.eq_iff_iff]
   simp only [List.any_eq_true,List.mem_range,id]
   constructor
   ·rintro ⟨j,hj,hx⟩
    exact ⟨bs[j],List.getElem_mem hj,by simpa [List.getD,hj] using hx⟩
   ·rintro ⟨b,hb',hx⟩
    obtain ⟨j,hj,rfl⟩:=List.getElem_of_mem hb'
    exact ⟨j,hj,by simpa [List.getD,hj] using hx⟩
  have hkk:∀ b o,s.heap.get? b=some o→h'.get? b=some o:=fun b o eb=>hk b o (by
   intro hm;simp at hm;subst hm;exact absurd (Heap.lt_size eb) (Nat.lt_irrefl _)) (Heap.get?_push_of_some _ eb)
  rw [e1]
  exact PostV.grown R hkk k9 q
theorem ak3 {v:Value}{b:Bool}{Q:V→Hp→Prop}(R:HRel D γ H s.heap)(r:Rep D γ s.heap v (.bool b))(q:Q (.int (if b then 1 else 0)) H) :
  wpAny D.M A (call (.type "int") [v]) (PostV D γ s Q) E s:=by
 obtain rfl:=r
 exact call_int_bool (PostV.now R I7 q)
theorem aa7 {v:Value}{i:Nat}{l:List V}{Q:V→Hp→Prop}(R:HRel D γ H s.heap)(r:Rep D γ s.heap v (.ref i))(hl:b6 H i=some l)(q:Q (.tup l) H) :
  wpAny D.M A (call (.type "tuple") [v]) (PostV D γ s Q) E s:=by
 refine e1_2 r fun a hi e_58=>?_
 obtain rfl:=e_58
 refine e2_3 (R.list hi hl) fun vs n e rs z=>?_
 refine call_tuple_list (items:=vs.toArray) ⟨_,e,rfl,n,rfl⟩ (fun h' hk=>?_) (by simp [sizeLine_eq];lia)
 have hk':∀ b o,s.heap.get? b=some o→(h'.push { cls:=.type "tuple",data:=.seq vs.toArray }).get? b=some o:=fun b o eb=>Heap.get?_push_of_some _ (hk b o eb)
 refine PostV.grown (V:=.tup l) (tk:=s.toks) R hk' ?_ q
 exact Exists.intro _ ⟨vs,rfl,⟨0,Heap.get?_push_size _ rfl,z⟩,Reps.mono ⟨[],by simp⟩ (fun _ _=>j9 hk') rs⟩
theorem aL2 {v:Value}{i:Nat}{l:List V}{Q:V→Hp→Prop}(R:HRel D γ H s.heap)(r:Rep D γ s.heap v (.ref i))(hl:b6 H i=some l)(q:Q (.ref H.length) (H++[.list l])) :
  wpAny D.M A (call (.type "list") [v]) (PostV D γ s Q) E s:=by
 refine e1_2 r fun a hi e_59=>?_
 obtain rfl:=e_59
 refine e2_3 (R.list hi hl) fun vs n e rs z=>?_
 refine call_list_seq a (T:="list") (items:=vs.toArray) (.inl rfl) e rfl rfl (fun h' c' hk hn=>?_) (by rw [sizeLine_eq];show vs.length≤_;lia)
 exact PostV.addList (tk:=s.toks) R rs (by rw [←rs.length];exact z) hk (y3 _) hn q
theorem bG3 {i:Nat}{v:Value}{l:List V}{bs:List Bool}{Q:V→Hp→Prop}(hA:AOk D k A)(R:HRel D γ H s.heap)(r:Rep D γ s.heap v (.ref i))(hl:b6 H i=some l)(hb:B9 l=some bs)
  (q:Q (.bool (bs.all id)) H):wpAny D.M A (call (.builtin "all") [v]) (PostV D γ s Q) E s:=by
 refine e1_2 r fun a hi e_60=>?_
 obtain rfl:=e_60
 refine e2_3 (R.list hi hl) fun vs n e rs z=>?_
 have hvs:=J9 hb rs
 subst hvs
 have hL:s.heap.IsList a (bs.map Value.bool).toArray:=⟨_,e,rfl,n,rfl⟩
 refine call_all_walk (wpAny_pyIter_list hL ?_)
 have ha:a≠s.heap.objs.size:=Nat.ne_of_lt (Heap.lt_size e)
 refine ⟨_,_,_,_,_,_,fun j=>bs.getD j true,rfl,Walks.list (by exact hA.handled) s.heap.objs.size a ha (bs.map Value.bool).toArray,?_,?_,?_⟩
 ·refine ⟨⟨_,Heap.get?_push_size _ rfl,rfl,rfl⟩,⟨_,Heap.get?_push_of_some _ e,rfl,n,rfl⟩⟩
 ·intro j v s' Q' E' hv hq
  have:v=.bool (bs.getD j true):=by
   rw [List.getElem?_toArray,List.getElem?_map,Option.map_eq_some_iff] at hv
   refine e1_2 hv fun b hb1 e_61=>?_
   obtain rfl:=e_61
   simp [List.getD,hb1]
  subst this
  exact wpAny_truthy_bool hq
 ·intro h' tk hk
  have e1:(List.range (bs.map Value.bool).toArray.size).all (fun j=>bs.getD j true)=bs.all id:=by
   simp only [List.size_toArray,List.length_map]
   rw [Bool.eq_iff_iff]
   simp only [List.all_eq_true,List.mem_range,id]
   constructor
   ·intro hx b hb'
    obtain ⟨j,hj,rfl⟩:=List.getElem_of_mem hb'
    have:=hx j hj
    simpa [List.getD,hj] using this
   ·intro hx j hj
    have:=hx bs[j] (List.getElem_mem hj)
    simpa [List.getD,hj] using this
  have hkk:∀ b o,s.heap.get? b=some o→h'.get? b=some o:=fun b o eb=>hk b o (by
   intro hm;simp at hm;subst hm;exact absurd (Heap.lt_size eb) (Nat.lt_irrefl _)) (Heap.get?_push_of_some _ eb)
  rw [e1]
  exact PostV.grown R hkk k9 q
theorem bh6 {v:Value}{W:V}{d:PyData}{Q:V→Hp→Prop}(hA:AOk D k A)(R:HRel D γ H s.heap)(r:Rep D γ s.heap v W)(hd:ae2 H W=some d)(h1:d.showable=true)(h2:d.depth≤60)(h3:d.shown.length≤16000000)(q:Q (.opq d.shown) H) :
  wpAny D.M A (call (.builtin "repr") [v]) (PostV D γ s Q) E s:=by
 have ho:∀ (h:Heap) (x:Str) (t:Tok),Rep D γ h (.str x t) (.opq x):=fun _ x t=>Exists.intro t rfl
 have big:∀ a,v=.ref a→wpAny D.M A (call (.builtin "repr") [v]) (PostV D γ s Q) E s:=by
  rintro a rfl
  refine e1_2 (z9 R r hd) fun as rd c=>?_
  refine repr_of_reads' rd h1 (fun h=>by rw [PyData.hasDict_of_canLay d c] at h;cases h) hA.guards (by have:=hA.units;show _<9900;lia) (fun _ _ e=>e) (fun h' u tk hk=>?_) (by rw [sizeLine_eq];lia)
  exact PostV.grown R hk (ho _ _ u) q
 cases W with
 | none=>obtain rfl:=r;obtain rfl:=Option.some.inj hd;exact P.repr_of_none (PostV.now R (ho _ _ _) q)
 | bool b=>obtain rfl:=r;obtain rfl:=Option.some.inj hd;exact P.repr_of_bool (PostV.now R (ho _ _ _) q)
 | int i=>obtain ⟨t,rfl⟩:=r;obtain rfl:=Option.some.inj hd;exact P.repr_of_int (of_decide_eq_true h1) (PostV.now R (ho _ _ _) q)
 | str x=>obtain ⟨t,rfl,f⟩:=r;obtain rfl:=Option.some.inj hd;exact P.repr_of_str (PostV.now R (ho _ _ _) q) (by rw [sizeLine_eq];show (PyData.shown (.str x)).length≤_;lia)
 | tup l=>obtain ⟨a,vs,rfl,_⟩:=r;exact big a rfl
 | ref i=>obtain ⟨a,_,rfl⟩:=r;exact big a rfl
 | _=>exact b9 hd
theorem bz1 {a b:Int}{v u:Value}{Q:V→Hp→Prop}(hA:AOk D k A)(R:HRel D γ H s.heap)(r:Rep D γ s.heap v (.int a))(r':Rep D γ s.heap u (.int b))(q:Q (.int (max a b)) H) :
  wpAny D.M A (call (.builtin "max") [v,u]) (PostV D γ s Q) E s:=by
 obtain ⟨t,rfl⟩:=r;obtain ⟨t',rfl⟩:=r'
 refine max_two_ints hA.handled fun h' tk hk=>?_
 by_cases c:b>a
 ·rw [if_pos c]
  have e:max a b=b:=by lia
  rw [e] at q
  exact PostV.grown R hk I7 q
 ·rw [if_neg c]
  have e:max a b=a:=by lia
  rw [e] at q
  exact PostV.grown R hk I7 q
theorem bI7 {a b:Int}{v u:Value}{Q:V→Hp→Prop}(hA:AOk D k A)(R:HRel D γ H s.heap)(r:Rep D γ s.heap v (.int a))(r':Rep D γ s.heap u (.int b))(q:Q (.int (min a b)) H) :
  wpAny D.M A (call (.builtin "min") [v,u]) (PostV D γ s Q) E s:=by
 obtain ⟨t,rfl⟩:=r;obtain ⟨t',rfl⟩:=r'
 refine min_two_ints hA.handled fun h' tk hk=>?_
 by_cases c:b<a
 ·rw [if_pos c]
  have e:min a b=b:=by lia
  rw [e] at q
  exact PostV.grown R hk I7 q
 ·rw [if_neg c]
  have e:min a b=a:=by lia
  rw [e] at q
  exact PostV.grown R hk I7 q
theorem bo3 {v:Value}{W:V}{Q:V→Hp→Prop}(R:HRel D γ H s.heap)(a:Rep D γ s.heap v W)(h:cj1 W H Q):wpAny D.M A (call (.builtin "len") [v]) (PostV D γ s Q) E s:=by
 cases W with
 | tup l=>exact bc2 R a (.inl ⟨_,rfl,rfl⟩) h
 | ref i =>
  refine e1_2 (d8 h) fun l hl q=>?_
  exact bc2 R a (.inr ⟨_,l,rfl,hl,rfl⟩) q
 | scr ns =>
  obtain ⟨x,ws,rfl,e,hz,hlen,hI⟩:=a
  refine len_list (items:=ws.toArray) (let ⟨o,h1,h2,n,h3⟩:=e; ⟨o,R.base _ _ h1,h2,n,h3⟩) (by show (ws.length:Int)<_;lia) (PostV.now R ?_ h)
  exact Exists.intro (s.toks+1) (by simp [hlen])
 | str x=>obtain ⟨t,rfl,f⟩:=a;exact aZ0 R f h
 | _=>exact h.elim
theorem cd2 {b:Ty}{v:Value}{W:V}{Q:V→Hp→Prop}(R:HRel D γ H s.heap)(a:Rep D γ s.heap v W)(h:ch3 b W H Q):wpAny D.M A (call (.type b.name) [v]) (PostV D γ s Q) E s:=by
 cases b with
 | int =>
  refine e1_2 (d8 (show oK (aY7 W) _ from h)) fun b hb q=>?_
  rw [an0 hb] at a
  exact ak3 R a q
 | tuple =>
  refine e1_2 (d8 (show oK (ai5 W) _ from h)) fun i hi h=>?_
  rw [q8 hi] at a
  refine e1_2 (d8 h) fun l hl q=>?_
  exact aa7 R a hl q
 | list =>
  refine e1_2 (d8 (show oK (ai5 W) _ from h)) fun i hi h=>?_
  rw [q8 hi] at a
  refine e1_2 (d8 h) fun l hl q=>?_
  exact aL2 R a hl q
 | _=>exact h.elim
theorem br6 {Φ:Orc}{f:Value}{vals:List Value}{vs:List V}{Q:V→Hp→Prop}{X:XL}{W:V}(hA:AOk D k A)(R:HRel D γ H s.heap)(rf:Rep D γ s.heap f W)(rv:Reps D γ s.heap vals vs)
  (h:E7 Φ W vs H Q X) (hn:∀ x,W≠.fn x):wpAny D.M A (call f vals) (PostV D γ s Q) (PostX D γ s X) s:=by
 cases W with
 | fn x=>exact absurd rfl (hn _)
 | bi b =>
  obtain rfl:=rf
  cases b with
  | len =>
   refine e1_2 (z7 (show ak2 vs _ from h)) fun W e_64 h=>?_
   obtain rfl:=e_64
   refine e2_3 rv fun v r e_65 a e_66=>?_
   obtain rfl:=e_65
   obtain rfl:=e_66
   exact bo3 R a h
  | isinstance =>
   refine e2_2 (N0 (show aZ7 vs _ from h)) fun W W' e_67 h=>?_
   obtain rfl:=e_67
   obtain ⟨v,r,rfl,a,u,r',rfl,b,rfl⟩:=rv
   refine e1_2 (d8 h) fun t ht h=>?_
   rw [a13 ht] at b
   obtain rfl:=b
   refine e1_2 (d8 h) fun c hc q=>?_
   exact bK5 R a hc q
  | any =>
   refine e1_2 (z7 (show ak2 vs _ from h)) fun W e_71 h=>?_
   obtain rfl:=e_71
   refine e2_3 rv fun v r e_72 a e_73=>?_
   obtain rfl:=e_72
   obtain rfl:=e_73
   refine e1_2 (d8 h) fun i hi h=>?_
   rw [q8 hi] at a
   refine e1_2 (d8 h) fun l hl h=>?_
   refine e1_2 (d8 h) fun bs hb q=>?_
   exact bM9 hA R a hl hb q
  | all =>
   refine e1_2 (z7 (show ak2 vs _ from h)) fun W e_74 h=>?_
   obtain rfl:=e_74
   refine e2_3 rv fun v r e_75 a e_76=>?_
   obtain rfl:=e_75
   obtain rfl:=e_76
   refine e1_2 (d8 h) fun i hi h=>?_
   rw [q8 hi] at a
   refine e1_2 (d8 h) fun l hl h=>?_
   refine e1_2 (d8 h) fun bs hb q=>?_
   exact bG3 hA R a hl hb q
  | repr =>
   refine e1_2 (z7 (show ak2 vs _ from h)) fun W e_77 h=>?_
   obtain rfl:=e_77
   refine e2_3 rv fun v r e_78 a e_79=>?_
   obtain rfl:=e_78
   obtain rfl:=e_79
   refine e1_3 (d8 h) fun d hd h1 q=>?_
   exact bh6 hA R a hd h1.1 h1.2.1 h1.2.2 q
  | max =>
   refine e2_2 (N0 (show aZ7 vs _ from h)) fun W W' e_80 h=>?_
   obtain rfl:=e_80
   obtain ⟨v,r,rfl,a,u,r',rfl,b,rfl⟩:=rv
   refine e2_3 (ai2 h) fun i j e_84 e_85 h=>?_
   obtain rfl:=e_84
   obtain rfl:=e_85
   exact bz1 hA R a b h
  | min =>
   refine e2_2 (N0 (show aZ7 vs _ from h)) fun W W' e_86 h=>?_
   obtain rfl:=e_86
   obtain ⟨v,r,rfl,a,u,r',rfl,b,rfl⟩:=rv
   refine e2_3 (ai2 h) fun i j e_90 e_91 h=>?_
   obtain rfl:=e_90
   obtain rfl:=e_91
   exact bI7 hA R a b h
 | ty b =>
  obtain rfl:=rf
  refine e1_2 (z7 (show ak2 vs _ from h)) fun W e_92 h=>?_
  obtain rfl:=e_92
  refine e2_3 rv fun v r e_93 a e_94=>?_
  obtain rfl:=e_93
  obtain rfl:=e_94
  exact cd2 R a h
 | _=>exact h.elim
theorem aX4 {i:Nat}{o v:Value}{l:List V}{Q:V→Hp→Prop}{W:V}(R:HRel D γ H s.heap)(ro:Rep D γ s.heap o (.ref i))(r:Rep D γ s.heap v W)(hl:b6 H i=some l)(hz:l.length≤1000000)
  (q:Q .none (H.set i (.list (l++[W])))):wpAny D.M A (call (.builtin "list.append") [o,v]) (PostV D γ s Q) E s:=by
 refine e1_2 ro fun a hi e_95=>?_
 obtain rfl:=e_95
 refine e2_3 (R.list hi hl) fun vs n e rs z=>?_
 have hlen:=rs.length
 refine wpAny_list_append_plain (items:=vs.toArray) ⟨n,e⟩ (fun h' hp hs=>?_) (by simp [sizeLine_eq];lia)
 refine e1_1 hp fun m hm=>?_
 have em:vs.toArray.push v=(vs++[v]).toArray:=by simp
 rw [em] at hm
 exact PostV.setList (tk:=s.toks) R hi (rs.append (Reps.one r)) (by simp;lia) (fun b o' hb e'=>hs.extBut b o' hb e') hm (show Rep _ _ _ _ .none from rfl) q
theorem aF6:∀ {l:List V} {ys:List Str} {vs:List Value},Z5 l=some ys→Reps D γ s.heap vs l→StrsAre vs ys
 | [],ys,vs,h,r=>by obtain rfl:=Option.some.inj h;obtain rfl:=r;exact .nil
 | v::l,ys,vs,h,r=>by
  refine e2_3 r fun w ws e_96 a b=>?_
  obtain rfl:=e_96
  refine j2 ((show (aN5 v).bind _=some ys from h)) fun y hy h=>?_
  refine k8 h fun zs hz=>?_
  rw [V7 hy] at a
  refine e1_2 a fun u e_97 _=>?_
  obtain rfl:=e_97
  exact .cons y u (aF6 hz b)
theorem Z8 {y:Str}:∀ {ys:List Str},Spec.countIn (.str y) (ys.map PyData.str)=((ys.count y:Nat):Int)
 | []=>rfl
 | z::r=>by
  show (if Spec.same (.str z) (.str y) then 1 else 0)+Spec.countIn (.str y) (r.map PyData.str)=_
  rw [Z8,List.count_cons]
  show (if (z==y)=true then (1:Int) else 0)+_=_
  cases z==y<;>simp<;>lia
theorem a51 {pos:Pos}{i:Nat}{o:Value}{l:List V}{Q:V→Hp→Prop}(R:HRel D γ H s.heap)(ro:Rep D γ s.heap o (.ref i))(hl:b6 H i=some l)(q:Q .none (H.set i (.list []))):wpAny D.M A (callWith pos (.builtin "list.clear") [o] [] []) (PostV D γ s Q) E s:=by
 refine e1_2 ro fun a hi e_98=>?_
 obtain rfl:=e_98
 refine e2_3 (R.list hi hl) fun vs n e rs z=>?_
 refine P.clear_list (items:=vs.toArray) (n:=n) e ?_ (by rw [sizeLine_eq];show vs.length≤_;lia)
 exact PostV.setList (vs:=[]) (tk:=s.toks) R hi (show Reps D γ s.heap [] [] from rfl) (Nat.zero_le _) (fun b o' hb e'=>(Heap.SameBut.update ..).extBut b o' hb e') (IsL.update e fun _=>#[]) (show Rep _ _ _ _ .none from rfl) q
theorem bG4 {y:Int}:∀ {l:List V} {ns:List Int} {vs:List Value},aa2 l=some ns→Reps D γ s.heap vs l→PySem.W.kf_ints vs=true∧PySem.W.kf_at y vs=a00 y ns
 | [],ns,vs,h,r=>by obtain rfl:=Option.some.inj h;obtain rfl:=r;exact ⟨rfl,rfl⟩
 | v::l,ns,vs,h,r=>by
  refine e2_3 r fun w ws e_99 a b=>?_
  obtain rfl:=e_99
  refine j2 ((show (al4 v).bind _=some ns from h)) fun i hi h=>?_
  refine k8 h fun js hj=>?_
  rw [r7 hi] at a
  refine e1_1 a fun t e_100=>?_
  obtain rfl:=e_100
  refine j4 (bG4 (y:=y) hj b) fun h1 h2=>?_
  refine ⟨h1,?_⟩
  show cond (isInt y (.int i t)) (some 0) (match PySem.W.kf_at y ws with|some j=>some (j+1)|none=>none)=if i=y then some 0 else (a00 y js).map (· + 1)
  rw [h2]
  by_cases e:i=y
  ·rw [if_pos e,show isInt y (.int i t)=true from decide_eq_true e];rfl
  ·rw [if_neg e,show isInt y (.int i t)=false from decide_eq_false e]
   cases a00 y js<;>rfl
theorem a31 {i j:Nat}{o v:Value}{l:List V}{ns:List Int}{y:Int}{Q:V→Hp→Prop}(R:HRel D γ H s.heap)(ro:Rep D γ s.heap o (.ref i))(r:Rep D γ s.heap v (.int y))(hl:b6 H i=some l)(hn:aa2 l=some ns)(hj:a00 y ns=some j)
  (q:Q (.int (j:Int)) H):wpAny D.M A (call (.builtin "list.index") [o,v]) (PostV D γ s Q) E s:=by
 refine e1_2 ro fun a hi e_101=>?_
 obtain rfl:=e_101
 refine e1_1 r fun t e_102=>?_
 obtain rfl:=e_102
 refine e2_3 (R.list hi hl) fun vs n e rs z=>?_
 refine j4 (bG4 (y:=y) hn rs) fun h1 h2=>?_
 refine e1_2 (PySem.W.kf_at_spec (h2.trans hj)) fun b1 b2 b3=>?_
 have hz:=rs.length
 exact call_meets F.slot_list_index ⟨_,e,rfl⟩ F.entry_list_index (F.args_list_index_2 _ _) (MeetsSeq.list_index a vs.toArray n (.int y t) (isInt y) (fun w hw=>PySem.W.kf_eq h1 w (by simpa using hw)) j b1 (by lia) b2 (fun i hi hlt=>b3 i hi hlt)) ⟨e,PostV.now R I7 q⟩
theorem a66 {i:Nat}{o v:Value}{l:List V}{ys:List Str}{y:Str}{Q:V→Hp→Prop}(R:HRel D γ H s.heap)(ro:Rep D γ s.heap o (.ref i))(r:Rep D γ s.heap v (.str y))(hl:b6 H i=some l)(hy:Z5 l=some ys)
  (q:Q (.int ((ys.count y:Nat):Int)) H):wpAny D.M A (call (.builtin "list.count") [o,v]) (PostV D γ s Q) E s:=by
 refine e1_2 ro fun a hi e_103=>?_
 obtain rfl:=e_103
 refine e1_2 r fun t e_104 _=>?_
 obtain rfl:=e_104
 refine e2_3 (R.list hi hl) fun vs n e rs z=>?_
 exact count_list_strs ⟨_,e,rfl,n,rfl⟩ (aF6 hy rs) (PostV.now R I7 (by rw [Z8];exact q))
end
end Mine
namespace Mine
open PySem PyProof.Rows
section
variable {D:Wd} {Φ:Orc} {k:Nat}
theorem r8 {α β:Type}{f:α→Option β}{a:α}{r:List α}{l:List β}(h:K6 f (a::r)=some l):∃ b bs,l=b::bs∧f a=some b∧K6 f r=some bs:=by
 refine j2 ((show (f a).bind _=some l from h)) fun b h1 h=>?_
 refine e1_2 (Option.map_eq_some_iff.mp h) fun bs h2 h=>?_
 exact ⟨b,bs,h.symm,h1,h2⟩
theorem C6 {α β:Type}{f:α→Option β}{l:List β}(h:K6 f ([]:List α)=some l):l=[]:=(Option.some.inj h).symm
theorem r4 {env:Env}{pos:Pos}:∀ {args:List Expr},args.any E5=false→backTo pos (starEach args env)=args.map fun e=>(false,eval e env)
 | [],_=>rfl
 | e::r,h=>by
  rw [List.any_cons,Bool.or_eq_false_iff] at h
  have ih:=r4 (env:=env) (pos:=pos) h.2
  have e1:starEach (e::r) env=(false,eval e env)::starEach r env:=by
   cases e<;>first|rfl|exact Bool.noConfusion h.1
  rw [e1]
  show ((false,eval e env)::backTo pos (starEach r env))=_
  rw [ih];rfl
theorem N3 {c:CC}{n:Nat}(ih:∀ e ie,g8 n c e=some ie→SE D Φ k c e ie){env:Env}{A:Around}{X:XL}(he:s8 c env)(hA:AOk D k A){L:Lc}:∀ (args:List Expr) (ies:List IE) (γ:List Addr) (H:Hp) (s:Shared) (Q:List V→Hp→Prop),
  K6 (g8 n c) args=some ies→HRel D γ H s.heap→LRel D γ env c.slots s.heap L→O9 Φ ies L H Q X →
  wpAny D.M A (spliced (args.map fun e=>(false,eval e env))) (fun vs s'=>vs.length=ies.length∧PostL D γ s Q vs s') (PostX D γ s X) s
 | [],ies,γ,H,s,Q,hm,R,_,h=>by
  obtain rfl:=C6 hm
  exact Calls.spliced_nil ⟨rfl,γ,[],H,Stp.refl,R,(show Reps _ _ _ [] [] from rfl),h⟩
 | e::r,ies,γ,H,s,Q,hm,R,l,h=>by
  refine e2_3 (r8 hm) fun b bs e_105 h1 h2=>?_
  obtain rfl:=e_105
  refine Calls.spliced_cons (q7 (ih e b h1 env A γ H s L _ X he hA R l h) ?_)
  intro v s1 γ1 V H1 st R1 rv q
  refine wpAny_mono (N3 ih he hA r bs γ1 H1 s1 _ h2 R1 (l.stp R st) q) (fun vs s2 p=>?_) (fun _ _ x=>x.back st R1)
  obtain ⟨hl,γ2,Vs,H2,st2,R2,rvs,q2⟩:=p
  exact ⟨congrArg Nat.succ hl,γ2,V::Vs,H2,st.trans0 R1 st2,R2,Exists.intro v ⟨vs,rfl,rv.stp0 R1 st2,rvs⟩,q2⟩
theorem T4 {c:CC}{n:Nat}(ih:∀ e ie,g8 n c e=some ie→SE D Φ k c e ie){env:Env}{A:Around}{X:XL}(he:s8 c env)(hA:AOk D k A){L:Lc}{args:List Expr}{ies:List IE}{γ:List Addr}{H:Hp}{s:Shared}{Q:List V→Hp→Prop}{f:Value}
  (hm:K6 (g8 n c) args=some ies) (R:HRel D γ H s.heap) (l:LRel D γ env c.slots s.heap L) (h:O9 Φ ies L H Q X) :
  wpAny D.M A (evalArgs f true (args.map fun e=>(false,eval e env)) []) (fun a s'=>a.kw=[]∧PostL D γ s Q a.pos s') (PostX D γ s X) s:=by
 have hs:=N3 ih he hA args ies γ H s Q hm R l h
 cases args with
 | nil =>
  rw [C6 hm] at h
  exact evalArgs_nil3 ⟨rfl,γ,[],H,Stp.refl,R,(show Reps _ _ _ [] [] from rfl),h⟩
 | cons e r=>exact Calls.evalArgs_plain (wpAny_mono hs (fun vs s' p=>⟨rfl,p.2⟩) fun _ _ x=>x)
theorem as5 {c:CC}{env:Env}{A:Around}{γ:List Addr}{H:Hp}{s:Shared}{L:Lc}{Q:V→Hp→Prop}{X:XL}{x:Str}{pos:Pos}{ie:IE}(g:GOk D c.G c.mts)(he:s8 c env)(R:HRel D γ H s.heap)(l:LRel D γ env c.slots s.heap L)
  (hc:aK7 c x=some ie) (h:(wp2 Φ ie).E L H Q X):wpAny D.M A (eval (.Name x pos) env) (PostV D γ s Q) (PostX D γ s X) s:=by
 refine j2 hc fun kk hk hc=>?_
 refine f0 hk fun hd hk=>?_
 have hd':(x==("__debug__":Str))=false:=aF7 hd
 have hkf:env.scope.kind=.function:=by rw [he.scope];exact he.kind
 have hk':env.kindOf x=some kk:=by unfold Env.kindOf;rw [he.scope];exact hk
 cases kk with
 | globalImplicit =>
  revert h;refine k8 hc fun V hV h=>?_
  refine e1_2 (g.val x V hV) fun v hv rv=>?_
  refine Calls.Name_function_global hkf hk' ?_ hd'
  have rr:Rep D γ s.heap v V:=Rep.mono ⟨[],by simp⟩ (fun _ _=>j9 R.base) (rv γ)
  rcases hv with hv|⟨hv1,hv2⟩
  ·exact Calls.loadGlobal_global (by rw [he.globals];exact g.gns.keeps R.base) hv (PostV.here R rr h)
  ·exact Calls.loadGlobal_builtin (by rw [he.globals];exact g.gns.keeps R.base) hv1 (by rw [he.builtins];exact g.bns.keeps R.base) hv2 (PostV.here R rr h)
 | «local» =>
  revert h;refine k8 hc fun i hi h=>?_
  refine e1_2 (aG5 h) fun V hL q=>?_
  refine e1_2 (l.ns) fun m hn f=>?_
  refine e1_2 (f x i V hk' hi hL) fun v hv rv=>?_
  exact wpAny_Name (wpAny_loadName_local hkf hk' hn hv (PostV.here R rv q)) hd'
 | cell =>
  revert h;refine k8 hc fun i hi h=>?_
  refine e1_2 (aG5 h) fun V hL q=>?_
  refine e2_4 (l.cel x hk') fun ca u hca hcell _ f=>?_
  refine e1_2 (f i V hi hL) fun v e_106 rv=>?_
  obtain rfl:=e_106
  exact wpAny_Name (wpAny_loadName_cell hkf hk' hca hcell (PostV.here R rv q)) hd'
 | _=>exact b9 hc
theorem bt6 {c:CC}{x:Str}{ie:IE}(hc:aK7 c x=some ie):(wp2 Φ ie).T=fun L H Q X=>(wp2 Φ ie).E L H (fun v H1=>tX v fun c=>Q c H1) X:=by
 refine j2 hc fun kk _ hc=>?_
 cases kk with
 | globalImplicit=>refine k8 hc fun _ _=>?_;rfl
 | «local»=>refine k8 hc fun _ _=>?_;rfl
 | cell=>refine k8 hc fun _ _=>?_;rfl
 | _=>exact b9 hc
theorem ad1 {c:CC}{x:Str}{V:V}(h:U8 c x=some V):aK7 c x=some (.lit V):=by
 refine j2 h fun kk hk h=>?_
 unfold aK7
 rw [hk]
 cases kk with
 | globalImplicit=>exact Option.map_eq_some_iff.mpr ⟨V,h,rfl⟩
 | _=>exact b9 h
theorem as3 {env:Env}{A:Around}{γ:List Addr}{H:Hp}{s:Shared}{Q:V→Hp→Prop}{X:XL}{kk:Const}{n:Nat}{pos:Pos}{W:V}(R:HRel D γ H s.heap)(hc:an2 kk=some W)(q:Q W H) :
  wpAny D.M A (eval (.Constant kk n pos) env) (PostV D γ s Q) (PostX D γ s X) s:=by
 cases kk with
 | none=>obtain rfl:=Option.some.inj hc;exact Constant_none (PostV.here R (show Rep _ _ _ _ .none from rfl) q)
 | bool b=>obtain rfl:=Option.some.inj hc;exact Constant_bool (PostV.here R k9 q)
 | int i=>obtain rfl:=Option.some.inj hc;exact wpAny_Constant_int (PostV.now R I7 q)
 | str x =>
  have hc:(if x.length≤2000000∧PyData.strOk x=true then some (V.str x) else none)=some W:=hc
  by_cases hf:x.length≤2000000∧PyData.strOk x=true
  ·rw [if_pos hf] at hc
   obtain rfl:=Option.some.inj hc;exact Calls.Constant_str (PostV.now R (av6 hf) q)
  ·rw [if_neg hf] at hc;exact b9 hc
 | _=>exact b9 hc
theorem a19 {D:Wd}{A:Around}{γ:List Addr}{H:Hp}{s:Shared}{Q:V→Hp→Prop}{X:XL}{pos:Pos}{f:Value}{W:V}{trees:List (Bool × Sem Value)}{QL:List V→Hp→Prop}(hO:g7 D k Φ)(hA:AOk D k A)
  (R:HRel D γ H s.heap) (rf:Rep D γ s.heap f W) (hp:trees.any (·.1)=false)
  (ha:wpAny D.M A (evalArgs f true trees []) (fun a s'=>a.kw=[]∧PostL D γ s QL a.pos s') (PostX D γ s X) s)
  (hq:∀ vs H1,QL vs H1→E7 Φ W vs H1 Q X):wpAny D.M A (callWith pos f [] trees []) (PostV D γ s Q) (PostX D γ s X) s:=by
 have nonfn:(∀ x,W≠.fn x)→∀ (a:Args) (s1:Shared),(a.kw=[]∧PostL D γ s QL a.pos s1)→wpAny D.M A (call f ([]++a.pos) a.kw) (PostV D γ s Q) (PostX D γ s X) s1:=by
  rintro hn ⟨ps,kw⟩ s1 ⟨hk,γ1,Vs,H1,st,R1,rv,q⟩
  simp only at hk;subst hk
  exact S8 st R1 (br6 hA R1 (rf.stp0 R st) rv (hq _ _ q) hn)
 have noway:(∀ vs H1,E7 Φ W vs H1 Q X→False)→wpAny D.M A (callWith pos f [] trees []) (PostV D γ s Q) (PostX D γ s X) s:=fun hn=>by
  unfold callWith
  refine wpAny_bind (wpAny_holding (wpAny_mono ha (fun b s1 hb=>?_) fun _ _ x=>x))
  obtain ⟨_,γ1,Vs,H1,_,_,_,q⟩:=hb
  exact (hn _ _ (hq _ _ q)).elim
 cases W with
 | fn x =>
  refine e1_2 rf fun a e_107 hx=>?_
  obtain rfl:=e_107
  have hfun:∀ (b:Args) (s1:Shared),(b.kw=[]∧PostL D γ s QL b.pos s1)→(∃ o fd,s1.heap.get? a=some o∧o.data=.func fd)∧wpAny D.M A (call (.ref a) ([]++b.pos) b.kw) (PostV D γ s Q) (PostX D γ s X) s1:=by
   rintro ⟨ps,kw⟩ s1 ⟨hk,γ1,Vs,H1,st,R1,rv,q⟩
   simp only at hk;subst hk
   refine j4 (hO D.fr x Vs H1 Q X (hq _ _ q) A γ1 s1 ps a hA.c R1 rv hx) fun e_108 hc=>?_
   refine e2_2 e_108 fun o fd e1 e2=>?_
   exact ⟨⟨o,fd,R1.base _ _ e1,e2⟩,S8 st R1 hc⟩
  unfold callWith
  refine wpAny_bind (wpAny_holding (wpAny_mono ha (fun b s1 hb=>wpAny_bind (wpAny_standAt ?_)) fun _ _ x=>x))
  refine j4 (hfun b s1 hb) fun e_109 hc=>?_
  refine e2_2 e_109 fun o fd e1 e2=>?_
  have tail:∀ {t:Sem Value},wpAny D.M A t (PostV D γ s Q) (PostX D γ s X) s1→wpAny D.M A (t >>= fun r=>holding [r] point >>= fun _=>pure r) (PostV D γ s Q) (PostX D γ s X) s1 :=
   fun ht=>wpAny_bind (wpAny_mono ht (fun r s₂ hr=>wpAny_bind (wpAny_holding (wpAny_point (wpAny_pure hr)))) fun _ _ x=>x)
  simp only [hp,List.any_nil,Bool.or_false]
  refine wpAny_bind (m:=keeperOf (.ref a)) ?_
  unfold keeperOf
  refine wpAny_bind (wpAny_load e1 ?_)
  rw [e2]
  refine wpAny_pure ?_
  refine wpAny_ite ?_
  split
  ·exact tail hc
  ·exact tail (by unfold callMarked;exact Calls.wpAny_keep hc)
 | ty n =>
  obtain rfl:=rf
  exact PyProof.Rows.callWith_type hp (wpAny_mono ha (nonfn (by intro x h;cases h)) fun _ _ x=>x)
 | bi n =>
  obtain rfl:=rf
  exact Calls.callWith_builtin hp (wpAny_mono ha (nonfn (by intro x h;cases h)) fun _ _ x=>x)
 | _=>exact noway fun _ _ q=>q
theorem be3 {i:Expr}{n:Nat}{c:CC}{ie:IE}(h:g8 n c i=some ie):∀ lo hi st p,i≠.Slice lo hi st p:=by
 rintro lo hi st p rfl
 cases n<;>exact b9 h
theorem aR6 {r:Expr}{n:Nat}{c:CC}{ie:IE}{op:CmpOp}(h:g8 n c r=some ie):behindInMarks op r=false:=by
 cases r<;>first|rfl|(cases n<;>exact b9 h)
theorem a47 {P:Around→Prop}{c:CC}{e:Expr}{ie:IE}(h:SEP P D Φ c e ie)(hT:(wp2 Φ ie).T=fun L H Q X=>(wp2 Φ ie).E L H (fun v H1=>tX v fun c=>Q c H1) X)
  (he:∀ env whole,isTrue e env whole=(do let v ← whole;standAt e.pos;holding [v] (truthy v))):STP P D Φ c e ie:=by
 intro env A γ H s L Q X hE hA R l w
 rw [hT] at w
 refine isTrue_plain (q7 (h env A γ H s L _ X hE hA R l w) ?_) (he _ _)
 intro v s1 γ1 V H1 st R1 rv q
 refine e1_2 (R7 q) fun b e_110 q=>?_
 obtain rfl:=e_110
 exact aC6 st R1 (ap7 R1 rv q)
end
end Mine
namespace Mine
open PySem PyProof.Rows
noncomputable def al3 (P:Around→Prop)(D:Wd)(Φ:Orc)(c:CC)(e:Expr)(ie:IE):Prop:=SEP P D Φ c e ie∧STP P D Φ c e ie
noncomputable abbrev Q0 (D:Wd)(Φ:Orc)(k:Nat)(c:CC)(e:Expr)(ie:IE):Prop:=al3 (AOk D k) D Φ c e ie
section
variable {D:Wd} {Φ:Orc} {k:Nat} {c:CC} {P:Around→Prop}
theorem i8 {e:Expr}{ie:IE}(h:SEP P D Φ c e ie)(hT:(wp2 Φ ie).T=fun L H Q X=>(wp2 Φ ie).E L H (fun v H1=>tX v fun c=>Q c H1) X)
  (he:∀ env whole,isTrue e env whole=(do let v ← whole;standAt e.pos;holding [v] (truthy v))):al3 P D Φ c e ie:=⟨h,a47 h hT he⟩
theorem bC9 (g:GOk D c.G c.mts){x:Str}{pos:Pos}{ie:IE}(hc:aK7 c x=some ie):al3 P D Φ c (.Name x pos) ie:=by
 exact i8 (fun env A γ H s L Q X hE hA R l w=>as5 g hE R l hc w) (bt6 hc) (fun _ _=>rfl)
theorem bl5 {kk:Const}{n:Nat}{pos:Pos}{W:V}(hc:an2 kk=some W):al3 P D Φ c (.Constant kk n pos) (.lit W) :=
 i8 (fun _ _ _ _ _ _ _ _ _ _ R _ w=>as3 R hc w) rfl (fun _ _=>rfl)
theorem b82 {l r:Expr}{op:Operator}{pos:Pos}{a b:IE}(ha:SE D Φ k c l a)(hb:SE D Φ k c r b):Q0 D Φ k c (.BinOp l op r pos) (.bin op a b):=by
 refine i8 (fun env A γ H s L Q X hE hA R lr w=>?_) rfl (fun _ _=>rfl)
 refine wpAny_BinOp (q7 (ha env A γ H s L _ X hE hA R lr w) ?_)
 intro va s1 γ1 Va H1 st R1 ra q
 refine ae7 st R1 (hb env A γ1 H1 s1 L _ X hE hA R1 (lr.stp R st) q) ?_
 intro vb s2 γ2 Vb H2 st2 R2 rb q2
 exact S8 (st.trans0 R1 st2) R2 (bC3 R2 (ra.stp0 R1 st2) rb q2)
theorem bY2 {x:Expr}{pos:Pos}{a:IE}(ha:SE D Φ k c x a):Q0 D Φ k c (.UnaryOp .USub x pos) (.neg a):=by
 refine i8 (fun env A γ H s L Q X hE hA R lr w=>?_) rfl (fun _ _=>rfl)
 refine UnaryOp_ (q7 (ha env A γ H s L _ X hE hA R lr w) ?_)
 intro va s1 γ1 Va H1 st R1 ra q
 refine e1_2 (d8 q) fun i hi q=>?_
 rw [r7 hi] at ra
 exact S8 st R1 (bz0 R1 ra q)
theorem ce3 {x:Expr}{pos:Pos}{a:IE}(ha:al3 P D Φ c x a):al3 P D Φ c (.UnaryOp .Not x pos) (.not a):=by
 refine ⟨fun env A γ H s L Q X hE hA R lr w=>?_,fun env A γ H s L Q X hE hA R lr w=>?_⟩
 ·refine UnaryOp_ (q7 (ha.1 env A γ H s L _ X hE hA R lr w) ?_)
  intro va s1 γ1 Va H1 st R1 ra q
  refine e1_2 (R7 q) fun b e_111 q=>?_
  obtain rfl:=e_111
  obtain rfl:=ra
  exact not_of (wpAny_truthy_bool ⟨γ1,_,H1,st,R1,k9,q⟩)
 ·refine isTrue_not (wpAny_mono (ha.2 env A γ H s L _ X hE hA R lr w) (fun d s2 p=>?_) fun _ _ x=>x)
  obtain ⟨γ2,H2,st2,R2,q2⟩:=p
  exact ⟨γ2,H2,st2,R2,q2⟩
theorem ce8 {l r:Expr}{op:CmpOp}{pos:Pos}{a b:IE}(ha:SE D Φ k c l a)(hb:SE D Φ k c r b)(hm:behindInMarks op r=false):Q0 D Φ k c (.Compare l [op] [r] pos) (.cmp a op b):=by
 have key:∀ env A γ H s L Q X,s8 c env→AOk D k A→HRel D γ H s.heap→LRel D γ env c.slots s.heap L→(wp2 Φ (.cmp a op b)).E L H Q X →
   wpAny D.M A (eval l env) (fun va s₁=>wpAny D.M A (eval r env) (fun vb s₂=>wpAny D.M A (compareOp op va vb) (PostV D γ s Q) (PostX D γ s X) s₂) (PostX D γ s X) s₁) (PostX D γ s X) s:=by
  intro env A γ H s L Q X hE hA R lr w
  refine q7 (ha env A γ H s L _ X hE hA R lr w) ?_
  intro va s1 γ1 Va H1 st R1 ra q
  refine ae7 st R1 (hb env A γ1 H1 s1 L _ X hE hA R1 (lr.stp R st) q) ?_
  intro vb s2 γ2 Vb H2 st2 R2 rb q2
  exact S8 (st.trans0 R1 st2) R2 (aG4 hA R2 (ra.stp0 R1 st2) rb q2)
 refine ⟨fun env A γ H s L Q X hE hA R lr w=>wpAny_Compare1 (key env A γ H s L Q X hE hA R lr w) hm,fun env A γ H s L Q X hE hA R lr w=>wpAny_isTrue_Compare1 ?_ hm⟩
 refine wpAny_mono (key env A γ H s L _ X hE hA R lr w) (fun va s1 p=>wpAny_mono p (fun vb s2 p2=>wpAny_mono p2 (fun v s3 p3=>?_) fun _ _ x=>x) fun _ _ x=>x) fun _ _ x=>x
 obtain ⟨γ3,V,H3,st3,R3,rv,q⟩:=p3
 refine e1_2 (R7 q) fun d e_112 q=>?_
 obtain rfl:=e_112
 exact aC6 st3 R3 (ap7 R3 rv q)
theorem aw3 {l r:Expr}{op op':CmpOp}{a b d:IE}(ha:SE D Φ k c l a)(hb:SE D Φ k c r b){env:Env}{A:Around}{γ:List Addr}{H:Hp}{s:Shared}{L:Lc}{Q:V→Hp→Prop}{X:XL}
  (hE:s8 c env) (hA:AOk D k A) (R:HRel D γ H s.heap) (lr:LRel D γ env c.slots s.heap L) (w:(wp2 Φ (.cmp2 a op b op' d)).E L H Q X) :
  wpAny D.M A (eval l env) (fun va s₁=>wpAny D.M A (eval r env) (fun vb s₂=>wpAny D.M A (compareOp op va vb) (fun cv s₃=>wpAny D.M A (truthy cv) (fun t s₄ =>
   ∃ γ4 Vb H4,Stp [] γ γ4 s s₄∧HRel D γ4 H4 s₄.heap∧LRel D γ4 env c.slots s₄.heap L∧Rep D γ4 s₄.heap vb Vb∧cv=.bool t∧ifP t ((wp2 Φ d).E L H4 (fun vc H4=>U0 op' Vb vc H4 Q) X) (Q (.bool t) H4))
    (PostX D γ s X) s₃) (PostX D γ s X) s₂) (PostX D γ s X) s₁) (PostX D γ s X) s:=by
 refine q7 (ha env A γ H s L _ X hE hA R lr w) ?_
 intro va s1 γ1 Va H1 st R1 ra q
 refine ae7 st R1 (hb env A γ1 H1 s1 L _ X hE hA R1 (lr.stp R st) q) ?_
 intro vb s2 γ2 Vb H2 st2 R2 rb q2
 have st02:=st.trans0 R1 st2
 refine ae7 st02 R2 (aG4 (Q:=_) (E:=PostX D γ2 s2 X) hA R2 (ra.stp0 R1 st2) rb q2) ?_
 intro cv s3 γ3 Vc H3 st3 R3 rc q3
 refine e1_2 (R7 q3) fun t e_113 q3=>?_
 obtain rfl:=e_113
 obtain rfl:=rc
 have st03:=st02.trans0 R2 st3
 exact wpAny_truthy_bool ⟨γ3,Vb,H3,st03,R3,lr.stp R st03,rb.stp0 R2 st3,rfl,q3⟩
theorem bL0 {l r r':Expr}{op op':CmpOp}{pos:Pos}{a b d:IE}(ha:SE D Φ k c l a)(hb:SE D Φ k c r b)(hd:SE D Φ k c r' d)(hm:behindInMarks op' r'=false) :
  Q0 D Φ k c (.Compare l [op,op'] [r,r'] pos) (.cmp2 a op b op' d):=by
 have hm':lastMarks [op,op'] [r,r']=false:=hm
 refine ⟨fun env A γ H s L Q X hE hA R lr w=>?_,fun env A γ H s L Q X hE hA R lr w=>?_⟩
 ·refine Compare_chain (wpAny_mono (aw3 ha hb hE hA R lr w) (fun va s1 h1=>?_) fun _ _ x=>x) hm'
  refine chain_link (wpAny_mono h1 (fun vb s2 h2=>wpAny_mono h2 (fun cv s3 h3=>wpAny_mono h3 (fun t s4 h4=>?_) fun _ _ x=>x) fun _ _ x=>x) fun _ _ x=>x)
  obtain ⟨γ4,Vb,H4,st,R4,l4,rb,rfl,q⟩:=h4
  cases t with
  | true =>
   refine chain_last (ae7 st R4 (hd env A γ4 _ s4 L _ X hE hA R4 l4 q) ?_)
   intro vd s5 γ5 Vd H5 st5 R5 rd q5
   exact S8 (st.trans0 R4 st5) R5 (aG4 hA R5 (rb.stp0 R4 st5) rd q5)
  | false=>exact ⟨γ4,_,H4,st,R4,k9,q⟩
 ·refine isTrue_chain (wpAny_mono (aw3 ha hb hE hA R lr w) (fun va s1 h1=>?_) fun _ _ x=>x) hm'
  refine test_link (wpAny_mono h1 (fun vb s2 h2=>wpAny_mono h2 (fun cv s3 h3=>wpAny_mono h3 (fun t s4 h4=>?_) fun _ _ x=>x) fun _ _ x=>x) fun _ _ x=>x)
  obtain ⟨γ4,Vb,H4,st,R4,l4,rb,rfl,q⟩:=h4
  cases t with
  | true =>
   refine test_last (ae7 st R4 (hd env A γ4 _ s4 L _ X hE hA R4 l4 q) ?_)
   intro vd s5 γ5 Vd H5 st5 R5 rd q5
   refine ae7 (st.trans0 R4 st5) R5 (aG4 (Q:=_) (E:=PostX D γ5 s5 X) hA R5 (rb.stp0 R4 st5) rd q5) ?_
   intro v s6 γ6 V6 H6 st6 R6 r6 q6
   refine e1_2 (R7 q6) fun t6 e_116 q6=>?_
   obtain rfl:=e_116
   exact aC6 ((st.trans0 R4 st5).trans0 R5 st6) R6 (ap7 R6 r6 q6)
  | false=>exact ⟨γ4,H4,st,R4,q⟩
theorem bY1 {t a b:Expr}{pos:Pos}{it ia ib:IE}(ht:Q0 D Φ k c t it)(ha:Q0 D Φ k c a ia)(hb:Q0 D Φ k c b ib):Q0 D Φ k c (.IfExp t a b pos) (.ite it ia ib):=by
 refine ⟨fun env A γ H s L Q X hE hA R lr w=>?_,fun env A γ H s L Q X hE hA R lr w=>?_⟩
 ·refine IfExp_ (ac7 (ht.2 env A γ H s L _ X hE hA R lr w) ?_)
  intro v s1 γ1 H1 st R1 q
  cases v with
  | true=>exact S8 st R1 (ha.1 env A γ1 H1 s1 L Q X hE hA R1 (lr.stp R st) q)
  | false=>exact S8 st R1 (hb.1 env A γ1 H1 s1 L Q X hE hA R1 (lr.stp R st) q)
 ·refine isTrue_IfExp (ac7 (ht.2 env A γ H s L _ X hE hA R lr w) ?_)
  intro v s1 γ1 H1 st R1 q
  cases v with
  | true=>exact aC6 st R1 (ha.2 env A γ1 H1 s1 L Q X hE hA R1 (lr.stp R st) q)
  | false=>exact aC6 st R1 (hb.2 env A γ1 H1 s1 L Q X hE hA R1 (lr.stp R st) q)
theorem bO6 {f:Expr→Option IE}:∀ {vs:List Expr} {ies:List IE} {pos:Pos} {ie:IE},(∀ e ie,f e=some ie→al3 P D Φ c e ie)→K6 f vs=some ies→ax6 .and ies=some ie→al3 P D Φ c (.BoolOp .And vs pos) ie
 | [],ies,pos,ie,ih,hm,hb=>by rw [C6 hm] at hb;exact b9 hb
 | [e],ies,pos,ie,ih,hm,hb=>by
  refine e2_3 (r8 hm) fun b bs e_117 h1 h2=>?_
  obtain rfl:=e_117
  rw [C6 h2] at hb
  obtain rfl:=Option.some.inj hb
  have:=ih e _ h1
  refine ⟨fun env A γ H s L Q X hE hA R lr w=>BoolOp_one (this.1 env A γ H s L Q X hE hA R lr w),fun env A γ H s L Q X hE hA R lr w=>?_⟩
  refine isTrue_and (wpAny_mono (this.2 env A γ H s L Q X hE hA R lr w) (fun t s1 p=>?_) fun _ _ x=>x)
  cases t with
  | true=>exact isTrue_and_nil p
  | false=>exact p
 | e::e2::r,ies,pos,ie,ih,hm,hb=>by
  refine e2_3 (r8 hm) fun b bs e_118 h1 h2=>?_
  obtain rfl:=e_118
  refine e2_3 (r8 h2) fun b2 bs2 e_119 h3 h4=>?_
  obtain rfl:=e_119
  refine k8 hb fun i2 hi2=>?_
  have rest:=bO6 (vs:=e2::r) (pos:=pos) ih h2 hi2
  have one:=ih e b h1
  refine ⟨fun env A γ H s L Q X hE hA R lr w=>?_,fun env A γ H s L Q X hE hA R lr w=>?_⟩
  ·refine BoolOp_and (q7 (one.1 env A γ H s L _ X hE hA R lr w) ?_)
   intro va s1 γ1 Va H1 st R1 ra q
   refine e1_2 (R7 q) fun t e_120 q=>?_
   obtain rfl:=e_120
   obtain rfl:=ra
   refine wpAny_truthy_bool ?_
   cases t with
   | true=>exact S8 st R1 (rest.1 env A γ1 H1 s1 L Q X hE hA R1 (lr.stp R st) q)
   | false=>exact ⟨γ1,_,H1,st,R1,k9,q⟩
  ·refine isTrue_and (ac7 (one.2 env A γ H s L _ X hE hA R lr w) ?_)
   intro v s1 γ1 H1 st R1 q
   cases v with
   | true=>exact aC6 st R1 (rest.2 env A γ1 H1 s1 L Q X hE hA R1 (lr.stp R st) q)
   | false=>exact ⟨γ1,H1,st,R1,q⟩
theorem cj7 {f:Expr→Option IE}:∀ {vs:List Expr} {ies:List IE} {pos:Pos} {ie:IE},(∀ e ie,f e=some ie→al3 P D Φ c e ie)→K6 f vs=some ies→ax6 .or ies=some ie→al3 P D Φ c (.BoolOp .Or vs pos) ie
 | [],ies,pos,ie,ih,hm,hb=>by rw [C6 hm] at hb;exact b9 hb
 | [e],ies,pos,ie,ih,hm,hb=>by
  refine e2_3 (r8 hm) fun b bs e_121 h1 h2=>?_
  obtain rfl:=e_121
  rw [C6 h2] at hb
  obtain rfl:=Option.some.inj hb
  have:=ih e _ h1
  refine ⟨fun env A γ H s L Q X hE hA R lr w=>BoolOp_one (this.1 env A γ H s L Q X hE hA R lr w),fun env A γ H s L Q X hE hA R lr w=>?_⟩
  refine isTrue_or (wpAny_mono (this.2 env A γ H s L Q X hE hA R lr w) (fun t s1 p=>?_) fun _ _ x=>x)
  cases t with
  | true=>exact p
  | false=>exact isTrue_or_nil p
 | e::e2::r,ies,pos,ie,ih,hm,hb=>by
  refine e2_3 (r8 hm) fun b bs e_122 h1 h2=>?_
  obtain rfl:=e_122
  refine e2_3 (r8 h2) fun b2 bs2 e_123 h3 h4=>?_
  obtain rfl:=e_123
  refine k8 hb fun i2 hi2=>?_
  have rest:=cj7 (vs:=e2::r) (pos:=pos) ih h2 hi2
  have one:=ih e b h1
  refine ⟨fun env A γ H s L Q X hE hA R lr w=>?_,fun env A γ H s L Q X hE hA R lr w=>?_⟩
  ·refine BoolOp_or (q7 (one.1 env A γ H s L _ X hE hA R lr w) ?_)
   intro va s1 γ1 Va H1 st R1 ra q
   refine e1_2 (R7 q) fun t e_124 q=>?_
   obtain rfl:=e_124
   obtain rfl:=ra
   refine wpAny_truthy_bool ?_
   cases t with
   | false=>exact S8 st R1 (rest.1 env A γ1 H1 s1 L Q X hE hA R1 (lr.stp R st) q)
   | true=>exact ⟨γ1,_,H1,st,R1,k9,q⟩
  ·refine isTrue_or (ac7 (one.2 env A γ H s L _ X hE hA R lr w) ?_)
   intro v s1 γ1 H1 st R1 q
   cases v with
   | false=>exact aC6 st R1 (rest.2 env A γ1 H1 s1 L Q X hE hA R1 (lr.stp R st) q)
   | true=>exact ⟨γ1,H1,st,R1,q⟩
theorem bV0 {es:List Expr}{kk:Nat}{pos:Pos}{ies:List IE}{n:Nat}(ih:∀ e ie,g8 n c e=some ie→SE D Φ k c e ie)(hs:es.any E5=false)(hm:K6 (g8 n c) es=some ies) :
  Q0 D Φ k c (.Tuple es kk pos) (.tup ies):=by
 refine i8 (fun env A γ H s L Q X hE hA R lr w=>?_) rfl (fun _ _=>rfl)
 refine wpAny_Tuple (wpAny_mono (by rw [r4 hs];exact N3 ih hE hA es ies γ H s _ hm R lr w.2) (fun vs s1 p=>?_) fun _ _ x=>x)
 obtain ⟨hl,γ1,Vs,H1,st,R1,rv,q⟩:=p
 have hz:=Nat.le_of_ble_eq_true w.1
 have hv:=rv.length
 exact ⟨by rw [sizeLine_eq];lia,(PostV.newTuple R1 rv (by lia) q).back st R1⟩
theorem cc4 {es:List Expr}{pos:Pos}{ies:List IE}{n:Nat}(ih:∀ e ie,g8 n c e=some ie→SE D Φ k c e ie)(hs:es.any E5=false)(hm:K6 (g8 n c) es=some ies) :
  Q0 D Φ k c (.List es pos) (.lst ies):=by
 refine i8 (fun env A γ H s L Q X hE hA R lr w=>?_) rfl (fun _ _=>rfl)
 refine wpAny_List (wpAny_mono (by rw [r4 hs];exact N3 ih hE hA es ies γ H s _ hm R lr w.2) (fun vs s1 p=>?_) fun _ _ x=>x)
 obtain ⟨hl,γ1,Vs,H1,st,R1,rv,q⟩:=p
 have hz:=Nat.le_of_ble_eq_true w.1
 have hv:=rv.length
 exact ⟨by rw [sizeLine_eq];lia,(PostV.newList R1 rv (by lia) q).back st R1⟩
theorem b67 {o i:Expr}{pos:Pos}{a b:IE}(ha:SE D Φ k c o a)(hb:SE D Φ k c i b)(hs:∀ lo hi st p,i≠.Slice lo hi st p):Q0 D Φ k c (.Subscript o i pos) (.sub a b):=by
 refine i8 (fun env A γ H s L Q X hE hA R lr w=>?_) rfl (fun _ _=>rfl)
 refine Subscript_ (q7 (ha env A γ H s L _ X hE hA R lr w) ?_)
 intro va s1 γ1 Va H1 st R1 ra q
 refine ae7 st R1 (hb env A γ1 H1 s1 L _ X hE hA R1 (lr.stp R st) q) ?_
 intro vb s2 γ2 Vb H2 st2 R2 rb q2
 exact S8 (st.trans0 R1 st2) R2 (by3 R2 (ra.stp0 R1 st2) rb q2 hs)
theorem bQ5 {f:Str}{fp pos:Pos}{args:List Expr}{W:V}{ies:List IE}{n:Nat}(g:GOk D c.G c.mts)(hO:g7 D k Φ)(ih:∀ e ie,g8 n c e=some ie→SE D Φ k c e ie)(hs:args.any E5=false)(hf:U8 c f=some W)
  (hm:K6 (g8 n c) args=some ies):Q0 D Φ k c (.Call (.Name f fp) args [] pos) (.call W ies):=by
 refine i8 (fun env A γ H s L Q X hE hA R lr w=>?_) rfl (fun _ _=>rfl)
 refine wpAny_Call_ofName (q7 (as5 (Φ:=Φ) (Q:=fun V H'=>V=W∧H'=H) g hE R lr (ad1 hf) ⟨rfl,rfl⟩) ?_)
 intro vf s1 γ1 Vf H1 st R1 rf q
 refine j4 q fun e_125 e_126=>?_
 obtain rfl:=e_125
 obtain rfl:=e_126
 refine S8 st R1 ?_
 rw [r4 hs]
 refine a19 (QL:=fun vs H'=>E7 Φ Vf vs H' Q X) hO hA R1 rf (by simp) (T4 ih hE hA hm R1 (lr.stp R st) w) (fun _ _ q=>q)
theorem O3 {o:Expr}{name:Str}{env:Env}(hb:D8 o=true):attributeBase o name env (eval o env)=eval o env:=by cases o<;>first|rfl|exact Bool.noConfusion hb
theorem bI1 {o a:Expr}{m:Mt}{apos pos:Pos}{io ia:IE}(ho:SE D Φ k c o io)(ha:SE D Φ k c a ia)(hb:D8 o=true)(hl:apos.endLine=pos.line)(hs:E5 a=false)(h1:m.one=true) :
  Q0 D Φ k c (.Call (.Attribute o m.name apos) [a] [] pos) (.meth io m [ia]):=by
 refine i8 (fun env A γ H s L Q X hE hA R lr w=>?_) rfl (fun _ _=>rfl)
 have e1:backTo pos (starEach [a] env)=[(false,eval a env)]:=by
  rw [r4 (by rw [List.any_cons,hs];rfl)];rfl
 have run:∀ (id:String),(∀ {va:Value} {s2:Shared} {γ2:List Addr} {H2:Hp} {Va:V} {x:Value} {i:Nat},HRel D γ2 H2 s2.heap→Rep D γ2 s2.heap x (.ref i)→Rep D γ2 s2.heap va Va→al6 (.ref i) m [Va] H2 Q→wpAny D.M A (call (.builtin id) [x,va]) (PostV D γ2 s2 Q) (PostX D γ2 s2 X) s2) →
   wpAny D.M A (eval o env) (fun v s₁=>s₁.TypeIs v "list"∧(∀ b,v=.ref b→∃ ob,s₁.heap.get? b=some ob∧ob.dict=none)∧wpAny D.M A (callWith pos (.builtin id) [v] [(false,eval a env)] []) (PostV D γ s Q) (PostX D γ s X) s₁) (PostX D γ s X) s:=by
  intro id hm
  refine q7 (ho env A γ H s L _ X hE hA R lr w) ?_
  intro vo s1 γ1 Vo H1 st R1 ro q
  refine j4 q fun hm1 q=>?_
  have hi:∃ i,Vo=.ref i:=by
   cases Vo with
   | ref i=>exact ⟨i,rfl⟩
   | _=>exact hm1.elim
  refine e1_1 hi fun i e_127=>?_
  obtain rfl:=e_127
  refine e1_1 hm1 fun l0 hl0=>?_
  have ro2:=ro
  refine e1_2 ro2 fun x hx e_128=>?_
  obtain rfl:=e_128
  refine e2_3 (R1.list hx hl0) fun vs n e rs z=>?_
  refine ⟨⟨_,e,rfl⟩,⟨fun b eb=>?_,?_⟩⟩
  ·cases eb;exact ⟨_,e,rfl⟩
  refine Calls.callWith_builtin rfl (Calls.evalArgs_plain (Calls.spliced_cons (ae7 st R1 (ha env A γ1 H1 s1 L _ X hE hA R1 (lr.stp R st) q) ?_)))
  intro va s2 γ2 Va H2 st2 R2 ra q2
  exact Calls.spliced_nil (S8 (st.trans0 R1 st2) R2 (hm R2 (ro.stp0 R1 st2) ra q2))
 cases m with
 | append =>
  refine wpAny_Call_method (O3 hb) (by rw [e1];rfl) (beq_iff_eq.mpr hl) F.plainAttrs_list F.slot_list_append F.type_list_append ?_
  rw [e1]
  refine run _ fun {va s2 γ2 H2 Va x i} R2 rx ra q2=>?_
  refine e1_2 (d8 (show oK (b6 H2 i) _ from q2)) fun l hl' q2=>?_
  have q2:_∧_:=q2
  exact aX4 R2 rx ra hl' q2.1 q2.2
 | count =>
  refine wpAny_Call_method (O3 hb) (by rw [e1];rfl) (beq_iff_eq.mpr hl) F.plainAttrs_list F.slot_list_count F.type_list_count ?_
  rw [e1]
  refine run _ fun {va s2 γ2 H2 Va x i} R2 rx ra q2=>?_
  refine e1_2 (d8 (show oK (b6 H2 i) _ from q2)) fun l hl' q2=>?_
  refine e1_2 (d8 (show oK (Z5 l) _ from q2)) fun ys hy q2=>?_
  refine e1_2 (d8 q2) fun y hv q2=>?_
  rw [V7 hv] at ra
  exact a66 R2 rx ra hl' hy q2
 | index =>
  refine wpAny_Call_method (O3 hb) (by rw [e1];rfl) (beq_iff_eq.mpr hl) F.plainAttrs_list F.slot_list_index F.type_list_index ?_
  rw [e1]
  refine run _ fun {va s2 γ2 H2 Va x i} R2 rx ra q2=>?_
  refine e1_2 (d8 (show oK (b6 H2 i) _ from q2)) fun l hl' q2=>?_
  refine e1_2 (d8 (show oK (aa2 l) _ from q2)) fun ns hn q2=>?_
  refine e1_2 (d8 q2) fun y hv q2=>?_
  refine e1_2 (d8 q2) fun j hj q2=>?_
  rw [r7 hv] at ra
  exact a31 R2 rx ra hl' hn hj q2
 | clear=>exact Bool.noConfusion h1
theorem bq0 {o:Expr}{m:Mt}{apos pos:Pos}{io:IE}(ho:SE D Φ k c o io)(hb:D8 o=true)(hl:apos.endLine=pos.line)(h1:m.one=false) :
  Q0 D Φ k c (.Call (.Attribute o m.name apos) [] [] pos) (.meth io m []):=by
 refine i8 (fun env A γ H s L Q X hE hA R lr w=>?_) rfl (fun _ _=>rfl)
 have run:∀ (id:String),(∀ {s2:Shared} {γ2:List Addr} {H2:Hp} {x:Value} {i:Nat},HRel D γ2 H2 s2.heap→Rep D γ2 s2.heap x (.ref i)→al6 (.ref i) m [] H2 Q→wpAny D.M A (callWith pos (.builtin id) [x] [] []) (PostV D γ2 s2 Q) (PostX D γ2 s2 X) s2) →
   wpAny D.M A (eval o env) (fun v s₁=>s₁.TypeIs v "list"∧(∀ b,v=.ref b→∃ ob,s₁.heap.get? b=some ob∧ob.dict=none)∧wpAny D.M A (callWith pos (.builtin id) [v] [] []) (PostV D γ s Q) (PostX D γ s X) s₁) (PostX D γ s X) s:=by
  intro id hm
  refine q7 (ho env A γ H s L _ X hE hA R lr w) ?_
  intro vo s1 γ1 Vo H1 st R1 ro q
  refine j4 q fun hm1 q=>?_
  have hi:∃ i,Vo=.ref i:=by
   cases Vo with
   | ref i=>exact ⟨i,rfl⟩
   | _=>exact hm1.elim
  refine e1_1 hi fun i e_129=>?_
  obtain rfl:=e_129
  refine e1_1 hm1 fun l0 hl0=>?_
  have ro2:=ro
  refine e1_2 ro2 fun x hx e_130=>?_
  obtain rfl:=e_130
  refine e2_3 (R1.list hx hl0) fun vs n e rs z=>?_
  refine ⟨⟨_,e,rfl⟩,⟨fun b eb=>?_,?_⟩⟩
  ·cases eb;exact ⟨_,e,rfl⟩
  exact S8 st R1 (hm R1 ro q)
 cases m with
 | clear =>
  refine wpAny_Call_method (O3 hb) rfl (beq_iff_eq.mpr hl) F.plainAttrs_list F.slot_list_clear F.type_list_clear ?_
  refine run _ fun {s2 γ2 H2 x i} R2 rx q2=>?_
  refine e1_2 (d8 (show oK (b6 H2 i) _ from q2)) fun l hl' q2=>?_
  exact a51 R2 rx hl' q2
 | _=>exact Bool.noConfusion h1
inductive ba1 (D:Wd)(γ:List Addr)(h:Heap)(a:Addr)(p:Nat × List (Str × V)):Prop where
 | mk:∀ o dx m,h.get? a=some o→o.cls=.ref D.bk→o.dict=some dx→γ[p.1]? = some dx→h.Inst a D.bk m→FsRep D γ h p.2 m→(∀ x,X9 x=false→m x=none)→ba1 D γ h a p
theorem y5 {γ:List Addr}{H:Hp}{h:Heap}{i:Nat}{a:Addr}{p:Nat × List (Str × V)}(R:HRel D γ H h)(hi:γ[i]? = some a)(hp:au4 H i=some p) :
  ba1 D γ h a p:=by
 refine j4 (ae8 hp) fun h1 h2=>?_
 refine e2_6 (R.objs i a _ hi h1) fun o dx e hj hc hnc hd hne=>?_
 refine e1_3 (R.objs p.1 dx _ hj h2) fun m hn hf hx=>?_
 exact ⟨o,dx,m,e,hc,hd,hj,⟨o,e,hc,hnc,.inr ⟨dx,hd,hne,hn⟩⟩,hf,hx⟩
theorem bQ1 {γ:List Addr}{h:Heap}{v:Value}{V:V}(r:Rep D γ h v V):handedOut v=pure v:=by
 cases V with
 | int _=>obtain ⟨t,rfl⟩:=r;rfl
 | str _=>obtain ⟨t,rfl,_⟩:=r;rfl
 | tup _=>obtain ⟨a,vs,rfl,_⟩:=r;rfl
 | ref _=>obtain ⟨a,_,rfl⟩:=r;rfl
 | fn _=>obtain ⟨a,rfl,_⟩:=r;rfl
 | bi b =>
  obtain rfl:=r
  have e:(withoutEnding? b.name "#data").isSome=false:=by cases b<;>decide +kernel
  show (if (withoutEnding? b.name "#data").isSome=true then _ else _)=_
  rw [e];rfl
 | scr _=>obtain ⟨a,vs,rfl,_⟩:=r;rfl
 | cls _ _=>obtain ⟨a,rfl,_⟩:=r;rfl
 | opq _=>obtain ⟨t,rfl⟩:=r;rfl
 | _=>obtain rfl:=r;rfl
theorem ay7 {x:Str}(h:X9 x=true):x = "names"∨x = "free_rules"∨x = "busy_rules"∨x = "held"∨x = "given":=by
 unfold X9 at h
 rw [Bool.or_eq_true,Bool.or_eq_true,Bool.or_eq_true,Bool.or_eq_true,beq_iff_eq,beq_iff_eq,beq_iff_eq,beq_iff_eq,beq_iff_eq] at h
 rcases h with (((h|h)|h)|h)|h
 ·exact .inl h
 ·exact .inr (.inl h)
 ·exact .inr (.inr (.inl h))
 ·exact .inr (.inr (.inr (.inl h)))
 ·exact .inr (.inr (.inr (.inr h)))
theorem aO6 {x:Str}(h:X9 x=true):typeLookup (.type "object") x=pure none:=by
 rw [typeLookup_type,builtinLookup_eq_fast]
 rcases ay7 h with rfl|rfl|rfl|rfl|rfl<;>kernel_rfl
theorem bA3 {o:Expr}{x:Str}{pos:Pos}{io:IE}(g:GOk D c.G c.mts)(ho:SE D Φ k c o io)(hx:X9 x=true)(hb:D8 o=true):Q0 D Φ k c (.Attribute o x pos) (.attr io x):=by
 refine i8 (fun env A γ H s L Q X hE hA R lr w=>?_) rfl (fun _ _=>rfl)
 refine Attribute_any_ (q7 (ho env A γ H s L _ X hE hA R lr w) ?_) (by rw [arm_eval_Attribute,O3 hb])
 intro vo s1 γ1 Vo H1 st R1 ro q
 refine e1_2 (d8 q) fun i hi q=>?_
 rw [q8 hi] at ro
 refine e1_2 (d8 q) fun p hp q=>?_
 refine e1_2 (d8 q) fun V hV q=>?_
 refine e1_2 ro fun a ha e_131=>?_
 obtain rfl:=e_131
 first|refine e6_4 (y5 R1 ha hp) fun o dx m e hc hd hj I hf _=>?_|refine e5_5 (y5 R1 ha hp) fun o dx m e hc hd hj I hf _=>?_|refine e4_6 (y5 R1 ha hp) fun o dx m e hc hd hj I hf _=>?_|refine e3_7 (y5 R1 ha hp) fun o dx m e hc hd hj I hf _=>?_|obtain ⟨o,dx,m,e,hc,hd,hj,I,hf,_⟩:=y5 R1 ha hp
 refine e1_2 (hf.1 x V hV) fun v hv rv=>?_
 obtain ⟨N,nm,qn,bs,sn,sub,col,dd,k0,k1,k2,k3,k5,hC,hN⟩:=g.bk.cls
 obtain ⟨hh,gg,d,t,os⟩:=s1
 exact load_attr (R1.base _ _ hC) (hN.keeps R1.base) g.bk.noG (g.bk.noF x hx) (aO6 hx) I hv (bQ1 rv) ((PostV.now (s:=⟨hh,gg,d,t,os⟩) R1 rv q).back st R1)
theorem bu6 {o:Expr}{m:Str}{apos pos:Pos}{args:List Expr}{io:IE}{ies:List IE}{n:Nat}(g:GOk D c.G c.mts)(hO:g7 D k Φ)(ih:∀ e ie,g8 n c e=some ie→SE D Φ k c e ie)(ho:SE D Φ k c o io)(hm:c.mts.contains m=true)(hb:D8 o=true)
  (hl:apos.endLine=pos.line) (hs:args.any E5=false) (hf:args.length≤20) (ha:K6 (g8 n c) args=some ies):Q0 D Φ k c (.Call (.Attribute o m apos) args [] pos) (.mcall io m ies):=by
 refine i8 (fun env A γ H s L Q X hE hA R lr w=>?_) rfl (fun _ _=>rfl)
 first|refine e4_5 (g.bk.mts m hm) fun hfl e_132 fa of hmt hof hfc e_133 hfa=>?_|obtain ⟨hfl,e_132,fa,of,hmt,hof,hfc,e_133,hfa⟩:=g.bk.mts m hm
 refine e1_1 e_132 fun y hy=>?_
 refine e1_1 e_133 fun fd hfd=>?_
 obtain ⟨N,nm,qn,bs,sn,sub,col,dd,k0,k1,k2,k3,k5,hC,hN⟩:=g.bk.cls
 rw [arm_eval_Call,O3 hb]
 refine wpAny_bind (q7 (ho env A γ H s L _ X hE hA R lr w) ?_)
 intro vo s1 γ1 Vo H1 st R1 ro q
 refine e1_2 (d8 q) fun i hi q=>?_
 rw [q8 hi] at ro
 refine e1_2 (d8 q) fun p hp q=>?_
 refine e1_2 (id ro) fun a hai e_134=>?_
 obtain rfl:=e_134
 first|refine e6_4 (y5 R1 hai hp) fun o' dx mm e hc hd hj I hfs hno=>?_|refine e5_5 (y5 R1 hai hp) fun o' dx mm e hc hd hj I hfs hno=>?_|refine e4_6 (y5 R1 hai hp) fun o' dx mm e hc hd hj I hfs hno=>?_|refine e3_7 (y5 R1 hai hp) fun o' dx mm e hc hd hj I hfs hno=>?_|obtain ⟨o',dx,mm,e,hc,hd,hj,I,hfs,hno⟩:=y5 R1 hai hp
 refine wpAny_bind (wpAny_standAt ?_)
 have hform:methodCallForm (args.length+([]:List Keyword).length) (backTo pos (starEach args env)) (backToKw pos (keywordEach [] env))=true:=by
  rw [r4 hs]
  unfold methodCallForm
  rw [Bool.and_eq_true,Bool.and_eq_true]
  exact ⟨⟨by rw [List.all_map];exact List.all_eq_true.mpr fun _ _=>rfl,rfl⟩,decide_eq_true (show args.length+0+0<30 by lia)⟩
 have hpos:methodCallPos true o env apos pos=pure pos:=by unfold methodCallPos;rw [hl,beq_self_eq_true];rfl
 unfold methodCall
 rw [hform,r4 hs]
 have hgm:wpAny D.M A (getMethod (.ref a) m (do return (← importBound o env).getD true)) (fun r s'=>r=(.ref fa,[.ref a])∧s'=s1) (PostX D γ s X) s1:=by
  obtain ⟨hh,gg,d,t,os⟩:=s1
  exact method_of (R1.base _ _ hC) (hN.keeps R1.base) g.bk.noG g.bk.noH hmt (R1.base _ _ hof) hfc hy I (hno m hfl) ⟨rfl,rfl⟩
 refine wpAny_bind (wpAny_holding (wpAny_mono hgm (fun r s' hr=>?_) fun _ _ x=>x))
 refine j4 hr fun e_135 e_136=>?_
 obtain rfl:=e_135
 obtain rfl:=e_136
 refine wpAny_bind (wpAny_of_eq hpos ?_)
 refine Calls.callWith_function (o:=of) (fd:=fd) (wpAny_mono (T4 ih hE hA ha R1 (lr.stp R st) q) (fun b s2 hb=>?_) fun _ _ x=>x.back st R1)
 obtain ⟨ps,kw⟩:=b
 obtain ⟨hkw,γ2,Vs,H2,st2,R2,rv,q⟩:=hb
 obtain rfl:kw=[]:=hkw
 exact ⟨⟨R2.base _ _ hof,hfd⟩,S8 (st.trans0 R1 st2) R2 (hO D.fr _ _ H2 Q X q A γ2 s2 (.ref a::ps) fa hA.c R2 (Exists.intro _ ⟨ps,rfl,ro.stp0 R1 st2,rv⟩) hfa).2⟩
theorem HRel.made {γ:List Addr}{H:Hp}{h h':Heap}{x dx:Addr}(R:HRel D γ H h)(M:Heap.MadeObj h h' x dx D.bk):HRel D (γ++[dx]++[x]) (H++[.ns []]++[.inst H.length]) h':=by
 refine e1_4 (M.inst) fun o e hc hnc hd=>?_
 have hdx:=M.dict o e
 rcases hd with ⟨q,_⟩|⟨d',q,hne,hn⟩
 ·rw [hdx] at q;exact b9 q.symm
 rw [hdx] at q
 obtain rfl:=Option.some.inj q
 refine (R.add (o:=.ns []) M.keeps M.newD ⟨_,hn,⟨fun _ _ h=>b9 h,fun _ _=>rfl⟩,fun _ _=>rfl⟩).adopt (fun hm=>?_) (R.nin M.newX).2 (R.frs.ne M.newX) ⟨o,dx,e,?_,hc,hnc,hdx,hne⟩
 ·rcases List.mem_append.mp hm with q|q
  ·exact (R.nin M.newX).1 q
  ·exact hne (List.mem_singleton.mp q).symm
 ·rw [List.getElem?_append_left (by rw [List.length_append,←R.len];exact Nat.lt_succ_self _),←R.len,List.getElem?_concat_length]
theorem bW2 {x:Str}{np pos:Pos}(g:GOk D c.G c.mts)(hO:g7 D k Φ)(hf:U8 c x=some .bk):Q0 D Φ k c (.Call (.Name x np) [] [] pos) .new:=by
 refine i8 (fun env A γ H s L Q X hE hA R lr w=>?_) rfl (fun _ _=>rfl)
 obtain ⟨N,nm,qn,bs,sn,sub,col,dd,k0,k1,k2,k3,k5,hC,hN⟩:=g.bk.cls
 refine e2_4 (g.bk.init) fun fi oi hmi hoi hfc hfa=>?_
 refine wpAny_Call_ofName (q7 (as5 (Φ:=Φ) (Q:=fun V H'=>V=.bk∧H'=H) g hE R lr (ad1 hf) ⟨rfl,rfl⟩) ?_)
 intro vf s1 γ1 Vf H1 st R1 rf q
 refine j4 q fun e_137 e_138=>?_
 obtain rfl:=e_137
 obtain rfl:=e_138
 obtain rfl:=rf
 show wpAny D.M A (callWith pos (.ref D.bk) [] [] []) _ _ _
 unfold callWith
 refine wpAny_bind (wpAny_holding (evalArgs_nil3 (wpAny_bind (wpAny_standAt ?_))))
 refine wpAny_bind (m:=keeperOf (.ref D.bk)) ?_
 unfold keeperOf
 refine wpAny_bind (wpAny_load (R1.base _ _ hC) ?_)
 refine wpAny_bind (wpAny_specialOf (T:="type") ⟨_,R1.base _ _ hC,rfl⟩ tc_lookup (wpAny_pure ?_))
 refine wpAny_bind (wpAny_mono (Q:=PostV D γ s Q) ?_ (fun r s₂ hr=>wpAny_bind (wpAny_holding (wpAny_point (wpAny_pure hr)))) fun _ _ x=>x)
 show wpAny D.M A (call (.ref D.bk) []) _ _ _
 obtain ⟨hh,gg,d,t,os⟩:=s1
 refine wpAny_call_obj_init F.objNew (R1.base _ _ hC) (hN.keeps R1.base) hmi (R1.base _ _ hoi) hfc fun h' a dx M=>?_
 have R2:=R1.made M
 have st2:Stp [] γ1 (γ1++[dx]++[a]) ⟨hh,gg,d,t,os⟩ ⟨h',gg,d,t,os⟩:=.of ⟨_,_,rfl⟩ (fun b o _ _ e=>M.keeps b o e) ⟨[dx]++[a],List.append_assoc _ _ _,fun b hb=>by
  rcases List.mem_append.mp hb with q|q
  ·rw [List.mem_singleton.mp q];exact M.newD
  ·rw [List.mem_singleton.mp q];exact M.newX⟩
 have ra:Rep D (γ1++[dx]++[a]) h' (.ref a) (.ref (H1.length+1)):=Exists.intro a ⟨by
  have:H1.length+1=(γ1++[dx]).length:=by rw [List.length_append,R1.len];rfl
  rw [this,List.getElem?_concat_length],rfl⟩
 have st02:=st.trans0 R1 st2
 refine wpAny_mono (hO D.fr _ _ _ _ X w _ _ ⟨h',gg,d,t,os⟩ [.ref a] fi (hA.under D.bk) R2 (Reps.one ra) hfa).2 (fun r s3 p=>?_) fun _ _ x=>x.back st02 R2
 obtain ⟨γ3,V3,H3,st3,R3,r3,hnv,q3⟩:=p
 rw [aM9 hnv] at r3
 exact ⟨r3,γ3,_,H3,st02.trans0 R2 st3,R3,ra.stp0 R2 st3,q3⟩
theorem cf6 {pos:Pos}:Q0 D Φ k c (.Dict [] [] pos) .dct:=by
 refine i8 (fun env A γ H s L Q X hE hA R lr w=>?_) rfl (fun _ _=>rfl)
 refine wpAny_Dict_empty ?_
 have hk:∀ b o,s.heap.get? b=some o→(s.heap.push { cls:=.type "dict",data:=.dict #[] }).get? b=some o:=fun _ _ e=>Heap.get?_push_of_some _ e
 exact ⟨γ++[s.heap.objs.size],.ref H.length,H++[.dict []],Stp.add (tk:=s.toks) hk (y3 _),R.add (o:=.dict []) (H:=H) hk (y3 _) ⟨[],Heap.DictOf.new _,⟨fun _ _ h=>b9 h,fun _ _=>rfl⟩,Nat.le_refl _⟩,aT0 R,(show Q (.ref H.length) (H++[.dict []]) from w)⟩
end
end Mine
namespace Mine
open PySem PyProof.Rows
section
variable {D:Wd} {γ:List Addr} {H:Hp} {s:Shared} {A:Around} {E:Value→Shared→Prop}
theorem aR4 {h:Heap}{v:Value}{W:V}{u:Option Int}(r:Rep D γ h v W)(hc:cd9 W=some u):IsPart v u:=by
 cases W with
 | none=>obtain rfl:=r;obtain rfl:=Option.some.inj hc;exact .none
 | int k=>obtain ⟨t,rfl⟩:=r;obtain rfl:=Option.some.inj hc;exact .int k t
 | _=>exact b9 hc
theorem af7 {vl vu vt:Value}{zs:List Value}{l:List V}{Q:V→Hp→Prop}(R:HRel D γ H s.heap)(rs:Reps D γ s.heap zs l)(hz:l.length≤2000000)(q:Q (.ref H.length) (H++[.list l])) :
  PostV D γ s Q (.ref (s.heap.objs.size+1)) { s with heap:=(s.heap.push { cls:=.type "slice",data:=.fields #[vl,vu,vt] }).push { cls:=.type "list",data:=.seq zs.toArray } }:=by
 have e1:=Heap.get?_push_size (s.heap.push { cls:=.type "slice",data:=.fields #[vl,vu,vt] }) (o:={ cls:=.type "list",data:=.seq zs.toArray }) rfl
 rw [Heap.size_push] at e1
 have hn1:s.heap.get? (s.heap.objs.size+1)=none:=by
  cases q:s.heap.get? (s.heap.objs.size+1) with
  | none=>rfl
  | some o=>exact absurd (Heap.lt_size q) (Nat.not_lt.mpr (Nat.le_succ _))
 exact PostV.addList (tk:=s.toks) R rs hz (fun b o e=>Heap.get?_push_of_some _ (Heap.get?_push_of_some _ e)) hn1 e1 q
theorem a61 {value:Expr}{lo hi:Option Expr}{p:Pos}{o vl vh:Value}{Vo Vl Vh:V}{Q:V→Hp→Prop}(R:HRel D γ H s.heap)(ro:Rep D γ s.heap o Vo)(rl:Rep D γ s.heap vl Vl)(rh:Rep D γ s.heap vh Vh)(h:aH4 Vo Vl Vh H Q) :
  wpAny D.M A (subscriptTail value (.Slice lo hi none p) o (.ref s.heap.objs.size)) (PostV D γ s Q) E { s with heap:=s.heap.push { cls:=.type "slice",data:=.fields #[vl,vh,.none] } }:=by
 refine e1_2 (d8 h) fun i hi' h=>?_
 rw [q8 hi'] at ro
 refine e1_2 (d8 h) fun xs h1 h=>?_
 refine e1_2 (d8 h) fun ys h2 q=>?_
 refine e1_2 (Option.bind_eq_some_iff.mp h2) fun x hx h2=>?_
 refine e1_2 (Option.map_eq_some_iff.mp h2) fun y hy e_139=>?_
 obtain rfl:=e_139
 refine e1_2 ro fun a hi3 e_140=>?_
 obtain rfl:=e_140
 refine e2_3 (R.list hi3 h1) fun vs m e rs z=>?_
 have hL:s.heap.IsList a vs.toArray:=⟨_,e,rfl,m,rfl⟩
 have hl:=rs.length
 refine tail_any (ops:=[.ref s.heap.objs.size,.ref a]) (s:={ s with heap:=s.heap.push { cls:=.type "slice",data:=.fields #[vl,vh,.none] } }) (hL.push _).typeIs slot_list_getitem.lookup (wpAny_getItem_list_slice (hL.push _) (Heap.IsSliceOf.new ..) (aR4 rl hx) (aR4 rh hy) .none (fun h=>nomatch h) ?_ (by rw [sizeLine_eq];show vs.length≤_;lia)) rfl
 rw [Heap.size_push,PySem.W.kms_pick_eq]
 unfold PySem.W.kms_pick
 rw [show vs.toArray.toList=vs from rfl,hl,show PySem.W.kms_lo x xs.length=aM6 x 0 xs.length by cases x<;>rfl,show PySem.W.kms_hi y xs.length=aM6 y xs.length xs.length by cases y<;>rfl]
 exact af7 R ((rs.drop _).take _) (by rw [List.length_take,List.length_drop];lia) q
noncomputable def bH0 (two:Bool):Int:=match two with|true=>-2|false=>-1
theorem a46 {a b c:Value}:slicePick #[a,b,c] none none (some (-2)) = #[c,a]:=by first|with_unfolding_all rfl|(unfold slicePick;simp [sliceBounds,sliceRange,List.range,List.range.loop])
theorem a21 {a b c:Value}:slicePick #[a,b,c] none none (some (-1)) = #[c,b,a]:=by first|with_unfolding_all rfl|(unfold slicePick;simp [sliceBounds,sliceRange,List.range,List.range.loop])
theorem bP1 {value:Expr}{st:Option Expr}{p:Pos}{o vk:Value}{Vo:V}{two:Bool}{Q:V→Hp→Prop}(R:HRel D γ H s.heap)(ro:Rep D γ s.heap o Vo)(pk:IsPart vk (some (bH0 two)))(h:bG9 Vo two H Q) :
  wpAny D.M A (subscriptTail value (.Slice none none st p) o (.ref s.heap.objs.size)) (PostV D γ s Q) E { s with heap:=s.heap.push { cls:=.type "slice",data:=.fields #[.none,.none,vk] } }:=by
 refine e1_2 (d8 h) fun i hi' h=>?_
 rw [q8 hi'] at ro
 refine e1_2 (d8 h) fun xs h1 h=>?_
 refine e3_2 (aS3 h) fun x y w e_141 q=>?_
 obtain rfl:=e_141
 refine e1_2 ro fun a hi3 e_142=>?_
 obtain rfl:=e_142
 refine e2_3 (R.list hi3 h1) fun vs m e rs z=>?_
 obtain ⟨va,r,rfl,ra,vb,r',rfl,rb,vc,r'',rfl,rc,rfl⟩:=rs
 have hL:s.heap.IsList a [va,vb,vc].toArray:=⟨_,e,rfl,m,rfl⟩
 have hs:∃ ops,subscripted (.Slice none none st p) false (.ref a) (.ref s.heap.objs.size)=operate ops (getItem (.ref a) (.ref s.heap.objs.size)):=by cases st<;>exact ⟨_,rfl⟩
 refine e1_1 hs fun ops hs=>?_
 refine tail_any (ops:=ops) (s:={ s with heap:=s.heap.push { cls:=.type "slice",data:=.fields #[.none,.none,vk] } }) (hL.push _).typeIs slot_list_getitem.lookup (wpAny_getItem_list_slice (hL.push _) (Heap.IsSliceOf.new ..) .none .none pk (by cases two<;>decide) ?_ (by rw [sizeLine_eq];show 3≤_;lia)) hs
 rw [Heap.size_push]
 cases two with
 | true =>
  show PostV D γ s Q _ { s with heap:=Heap.push _ { cls:=.type "list",data:=.seq (slicePick #[va,vb,vc] none none (some (-2))) } }
  rw [a46]
  exact af7 (zs:=[vc,va]) (l:=[w,x]) R ⟨_,_,rfl,rc,_,_,rfl,ra,rfl⟩ (by show 2≤_;lia) q
 | false =>
  show PostV D γ s Q _ { s with heap:=Heap.push _ { cls:=.type "list",data:=.seq (slicePick #[va,vb,vc] none none (some (-1))) } }
  rw [a21]
  exact af7 (zs:=[vc,vb,va]) (l:=[w,y,x]) R ⟨_,_,rfl,rc,_,_,rfl,rb,_,_,rfl,ra,rfl⟩ (by show 3≤_;lia) q
end
end Mine
namespace Mine
open PySem PyProof.Rows
structure Itr (D:Wd)(A:Around)(I:Addr)(fp:List Addr)(l:List V)(st:Hp→Prop)(Inv:List Addr→Nat→Heap→Prop):Prop where
 mem:I∈fp
 frame:∀ γ γ' i h h',Inv γ i h→(∃ δ,γ'=γ++δ)→(∀ b∈fp,∀ o,h.get? b=some o→h'.get? b=some o)→(∀ a ws,TupAt h a ws→TupAt h' a ws)→Inv γ' i h'
 notTup:∀ γ i h ws,Inv γ i h→¬ TupAt h I ws
 nd:∀ γ i h,Inv γ i h→∀ b∈fp,∀ o,h.get? b=some o→az1 o
 next:∀ γ H (s:Shared) (i:Nat) (W:V) (Q:Option Value→Shared→Prop) (E:Value→Shared→Prop),l[i]? = some W→HRel D γ H s.heap→I∉γ→st H→Inv γ i s.heap →
  (∀ v h' tk,(∃ o,h'.get? I=some o)→(∀ b o,b≠I→s.heap.get? b=some o→h'.get? b=some o)→Inv γ (i+1) h'→Rep D γ h' v W→Q (some v) { s with heap:=h',toks:=tk })→wpAny D.M A (pyNext (.ref I)) Q E s
 done:∀ γ H (s:Shared) (Q:Option Value→Shared→Prop) (E:Value→Shared→Prop),HRel D γ H s.heap→st H→Inv γ l.length s.heap →
  (∀ h' tk,(∀ b o,b≠I→s.heap.get? b=some o→h'.get? b=some o)→Q none { s with heap:=h',toks:=tk })→wpAny D.M A (pyNext (.ref I)) Q E s
 self:∀ γ i (s:Shared) (Q:Value→Shared→Prop) (E:Value→Shared→Prop),Inv γ i s.heap→Q (.ref I) s→wpAny D.M A (pyIter (.ref I)) Q E s
 own:∀ γ i (s:Shared) (T:Addr) (elts:List Expr) (x1:Nat) (pos:Pos) (Q:Unit→Shared→Prop) (E:Value→Shared→Prop),Inv γ i s.heap→Q () s→wpAny D.M A (letOwnedTupleGo (.Tuple elts x1 pos) (.ref I) (.ref T)) Q E s
theorem au8 {D:Wd}{A:Around}{s:Shared}{I T:Addr}{o:Obj}{n:String}{elts:List Expr}{x1:Nat}{pos:Pos}{Q:Unit→Shared→Prop}{E:Value→Shared→Prop}(ho:s.heap.get? I=some o)(hc:o.cls=.type n)
  (hn:["enumerate","zip","dict_itemiterator","dict_reverseitemiterator","odict_iterator","itertools.zip_longest","itertools.pairwise"].contains n=false) (hQ:Q () s):wpAny D.M A (letOwnedTupleGo (.Tuple elts x1 pos) (.ref I) (.ref T)) Q E s:=by
 unfold letOwnedTupleGo
 refine wpAny_bind (wpAny_load ho ?_)
 rw [hc]
 cases o.data with
 | fields vs =>
  show wpAny _ A (if (["enumerate","zip","dict_itemiterator","dict_reverseitemiterator","odict_iterator","itertools.zip_longest","itertools.pairwise"].contains n&&vs[0]?==some (rawInt T))=true then _ else _) Q E s
  rw [hn,Bool.false_and,if_neg Bool.false_ne_true]
  exact wpAny_pure hQ
 | _=>exact wpAny_pure hQ
section
variable {D:Wd} {A:Around} {k:Nat}
theorem k7 {h h':Heap}{I:Addr}(hk:∀ b o,b≠I→h.get? b=some o→h'.get? b=some o)(hn:∀ ws,¬ TupAt h I ws){a:Addr}{ws:List Value}(x:TupAt h a ws):TupAt h' a ws:=by
 refine e1_2 (id x) fun n e z=>?_
 exact ⟨n,hk _ _ (by rintro rfl;exact hn _ x) e,z⟩
theorem HRel.but {γ:List Addr}{H:Hp}{h h':Heap}{I:Addr}(R:HRel D γ H h)(hk:∀ b o,b≠I→h.get? b=some o→h'.get? b=some o)(hI:I∉γ)(hB:D.hB.get? I=none)(hn:∀ ws,¬ TupAt h I ws)(hF:(∃ o,h.get? I=some o∧az1 o)∨(∃ o,h'.get? I=some o∧¬ az1 o)∨∀ e∈D.fr,e.frame≠some I):HRel D γ H h' where
 len:=R.len
 nodup:=R.nodup
 objs:=fun i a o e1 e2=>(R.objs i a o e1 e2).mono ⟨[],by simp⟩ (fun _ _=>k7 hk hn) fun ob e=>hk a ob (fun q=>hI (q▸List.mem_of_getElem? e1)) e
 fresh:=R.fresh
 base:=fun b o e=>hk _ _ (by rintro rfl;rw [hB] at e;exact b9 e) (R.base b o e)
 frs:=fun e he=>by
  obtain ⟨kd,L,o,a,b,n,c,d⟩:=R.frs e he
  by_cases hL:L=I
  ·subst hL
   rcases hF with ⟨o',e1,e2⟩|⟨o',e1,e2⟩|hF
   ·rw [c] at e1;obtain rfl:=Option.some.inj e1;exact absurd e2 d
   ·exact ⟨kd,L,o',a,b,n,e1,e2⟩
   ·exact absurd a (hF e he)
  ·exact ⟨kd,L,o,a,b,n,hk _ _ hL c,d⟩
noncomputable def aH3 (I:Addr)(a:Int)(n:Nat)(_:List Addr)(i:Nat)(h:Heap):Prop:=IsRangeIter h I (a+(i:Int)) ((n:Int)-(i:Int)) 1
theorem aX1 (hA:AOk D k A)(I:Addr)(a:Int)(n:Nat):Itr D A I [I] ((List.range n).map fun (j:Nat)=>V.int (a+(j:Int))) (fun _=>True) (aH3 I a n) where
 mem:=by simp
 frame:=fun γ γ' i h h' iv _ hk _=>hk I (by simp) _ iv
 notTup:=fun γ i h ws iv t=>by
  refine e1_2 t fun m e _=>?_
  have iv':h.get? I=some _:=iv
  rw [iv'] at e;simp at e
 nd:=fun γ i h iv b hb o e=>by
  have iv':h.get? I=some _:=iv
  rw [List.mem_singleton.mp hb,iv'] at e;obtain rfl:=Option.some.inj e;exact m5 rfl
 next:=fun γ H s i W Q E hl R hI _ iv hQ=>by
  have hi:i<n:=by
   have:=(List.getElem?_eq_some_iff.mp hl).1;simpa using this
  rw [List.getElem?_map,List.getElem?_range hi] at hl
  simp at hl
  refine wpAny_pyNext_range_item iv (by lia) fun h' hit hs=>hQ _ h' _ ⟨_,hit⟩ (fun b o hb e=>hs.extBut b o hb e) ?_ ?_
  ·show IsRangeIter h' I (a+((i+1:Nat):Int)) ((n:Int)-((i+1:Nat):Int)) 1
   have e1:a+((i+1:Nat):Int)=a+(i:Int)+1:=by lia
   have e2:(n:Int)-((i+1:Nat):Int)=(n:Int)-(i:Int)-1:=by lia
   rw [e1,e2];exact hit
  ·subst hl;exact I7
 done:=fun γ H s Q E R _ iv hQ=>by
  have iv':IsRangeIter s.heap I (a+(n:Int)) ((n:Int)-(n:Int)) 1:=by
   have:((List.range n).map fun (j:Nat)=>V.int (a+(j:Int))).length=n:=by simp
   rw [this] at iv;exact iv
  exact wpAny_pyNext_range_end hA.handled iv' (by lia) fun h' he=>hQ h' s.toks fun b o hb e=>he b o hb e
 self:=fun γ i s Q E iv q=>(Walks.range (prog:=D.prog) (w:=D.w) (A:=A) hA.handled I a 1 n).self i s Q E (by
  show IsRangeIter s.heap I (a+(i:Nat)*1) ((n:Int)-(i:Nat)) 1
  rw [Int.mul_one];exact iv) q
 own:=fun γ i s T elts x1 pos Q E iv q=>au8 iv rfl (by decide) q
noncomputable def bc8 (mg:Wd)(I t:Addr)(vs:List Value)(l:List V)(γ:List Addr)(i:Nat)(h:Heap):Prop :=
 h.IsTupleIter I t i∧TupAt h t vs∧Reps mg γ h vs l
theorem bp7 (hA:AOk D k A)(I t:Addr)(hne:t≠I)(vs:List Value)(l:List V):Itr D A I [I,t] l (fun _=>True) (bc8 D I t vs l) where
 mem:=by simp
 frame:=fun γ γ' i h h' iv hg hk ht=>by
  refine R8 iv fun e_147 b r=>?_
  refine e1_3 e_147 fun o e c d=>?_
  exact ⟨⟨o,hk I (by simp) o e,c,d⟩,ht _ _ b,Reps.mono hg ht r⟩
 notTup:=fun γ i h ws iv x=>by
  refine j4 iv fun e_148 _=>?_
  refine e1_3 e_148 fun o e c d=>?_
  refine e1_2 x fun m e' _=>?_
  rw [e] at e';cases e';simp at c
 nd:=fun γ i h iv b hb o e=>by
  refine R8 iv fun e_149 e_150 _=>?_
  refine e1_3 e_149 fun o' e' c d=>?_
  refine e1_2 e_150 fun n e2 _=>?_
  rcases List.mem_cons.mp hb with q|q
  ·rw [q,e'] at e;obtain rfl:=Option.some.inj e;exact m5 d
  ·rw [List.mem_singleton.mp q,e2] at e;obtain rfl:=Option.some.inj e;exact O7 rfl
 next:=fun γ H s i W Q E hl R hI _ iv hQ=>by
  refine R8 iv fun it ta rs=>?_
  have hnt:∀ ws,¬ TupAt s.heap I ws:=fun ws x=>by
   refine e1_3 it fun o e c d=>?_
   refine e1_2 x fun m e' _=>?_
   rw [e] at e';cases e';simp at c
  refine e1_2 (rs.get hl) fun v hv rv=>?_
  refine wpAny_pyNext_tuple_item it ta.isTuple (x:=v) (by simpa using hv) fun h' hit hs=>?_
  have hk:∀ b o,b≠I→s.heap.get? b=some o→h'.get? b=some o:=fun b o hb e=>hs.extBut b o hb e
  have ht:∀ a ws,TupAt s.heap a ws→TupAt h' a ws:=fun _ _=>k7 hk hnt
  exact hQ v h' s.toks (let ⟨o,e,_⟩:=hit; ⟨o,e⟩) hk ⟨hit,ht _ _ ta,Reps.mono ⟨[],by simp⟩ ht rs⟩ (Rep.mono ⟨[],by simp⟩ ht rv)
 done:=fun γ H s Q E R _ iv hQ=>by
  refine R8 iv fun it ta rs=>?_
  exact wpAny_pyNext_tuple_end hA.handled it ta.isTuple (by simp [rs.length]) fun h' he=>hQ h' s.toks fun b o hb e=>he b o hb e
 self:=fun γ i s Q E iv q=>(Walks.tuple (prog:=D.prog) (w:=D.w) (A:=A) hA.handled I t hne vs.toArray).self i s Q E ⟨iv.1,iv.2.1.isTuple⟩ q
 own:=fun γ i s T elts x1 pos Q E iv q=>let ⟨⟨_,e,c,_⟩,_⟩:=iv;au8 e c (by decide) q
noncomputable def a97 (I a:Addr)(j:Nat)(γ:List Addr)(i:Nat)(h:Heap):Prop:=h.IsListIter I a i∧γ[j]? = some a
theorem a78 (hA:AOk D k A)(I a:Addr)(j:Nat)(l:List V):Itr D A I [I] l (fun H=>b6 H j=some l) (a97 I a j) where
 mem:=by simp
 frame:=fun γ γ' i h h' iv hg hk ht=>by
  refine j4 iv fun e_151 b=>?_
  refine e1_3 e_151 fun o e c d=>?_
  exact ⟨⟨o,hk I (by simp) o e,c,d⟩,getElem?_ext hg b⟩
 notTup:=fun γ i h ws iv x=>by
  refine j4 iv fun e_152 _=>?_
  refine e1_3 e_152 fun o e c d=>?_
  refine e1_2 x fun m e' _=>?_
  rw [e] at e';cases e';simp at c
 nd:=fun γ i h iv b hb o e=>by
  refine j4 iv fun e_153 _=>?_
  refine e1_3 e_153 fun o' e' c d=>?_
  rw [List.mem_singleton.mp hb,e'] at e;obtain rfl:=Option.some.inj e;exact m5 d
 next:=fun γ H s i W Q E hl R hI hst iv hQ=>by
  refine j4 iv fun it hj=>?_
  have hnt:∀ ws,¬ TupAt s.heap I ws:=fun ws x=>by
   refine e1_3 it fun o e c d=>?_
   refine e1_2 x fun m e' _=>?_
   rw [e] at e';cases e';simp at c
  refine e2_3 (R.list hj hst) fun vs n e rs z=>?_
  refine e1_2 (rs.get hl) fun v hv rv=>?_
  refine wpAny_pyNext_list_item it (items:=vs.toArray) ⟨_,e,rfl,n,rfl⟩ (x:=v) (by simpa using hv) fun h' hit hs=>?_
  have hk:∀ b o,b≠I→s.heap.get? b=some o→h'.get? b=some o:=fun b o hb e=>hs.extBut b o hb e
  have ht:∀ a ws,TupAt s.heap a ws→TupAt h' a ws:=fun _ _=>k7 hk hnt
  exact hQ v h' s.toks (let ⟨o,e,_⟩:=hit; ⟨o,e⟩) hk ⟨hit,hj⟩ (Rep.mono ⟨[],by simp⟩ ht rv)
 done:=fun γ H s Q E R hst iv hQ=>by
  refine j4 iv fun it hj=>?_
  refine e2_3 (R.list hj hst) fun vs n e rs z=>?_
  exact wpAny_pyNext_list_end hA.handled it (items:=vs.toArray) ⟨_,e,rfl,n,rfl⟩ (by simp [rs.length]) fun h' he=>hQ h' s.toks fun b o hb e=>he b o hb e
 self:=fun γ i s Q E iv q=>wpAny_pyIter_listiter iv.1 q
 own:=fun γ i s T elts x1 pos Q E iv q=>let ⟨⟨_,e,c,_⟩,_⟩:=iv;au8 e c (by decide) q
noncomputable def bb4 (I a:Addr)(j:Nat)(l:List V)(γ:List Addr)(i:Nat)(h:Heap):Prop:=h.IsRevIter I a ((l.length:Int)-1-(i:Int))∧γ[j]? = some a
theorem bs8 (hA:AOk D k A)(I a:Addr)(j:Nat)(l:List V):Itr D A I [I] l.reverse (fun H=>b6 H j=some l) (bb4 I a j l) where
 mem:=by simp
 frame:=fun γ γ' i h h' iv hg hk ht=>by
  refine j4 iv fun e_154 b=>?_
  refine e1_3 e_154 fun o e c d=>?_
  exact ⟨⟨o,hk I (by simp) o e,c,d⟩,getElem?_ext hg b⟩
 notTup:=fun γ i h ws iv x=>by
  refine j4 iv fun e_155 _=>?_
  refine e1_3 e_155 fun o e c d=>?_
  refine e1_2 x fun m e' _=>?_
  rw [e] at e';cases e';simp at c
 nd:=fun γ i h iv b hb o e=>by
  refine j4 iv fun e_156 _=>?_
  refine e1_3 e_156 fun o' e' c d=>?_
  rw [List.mem_singleton.mp hb,e'] at e;obtain rfl:=Option.some.inj e;exact m5 d
 next:=fun γ H s i W Q E hl R hI hst iv hQ=>by
  refine j4 iv fun it hj=>?_
  have hnt:∀ ws,¬ TupAt s.heap I ws:=fun ws x=>by
   refine e1_3 it fun o e c d=>?_
   refine e1_2 x fun m e' _=>?_
   rw [e] at e';cases e';simp at c
  refine e2_3 (R.list hj hst) fun vs n e rs z=>?_
  have hi:i<l.length:=by have:=(List.getElem?_eq_some_iff.mp hl).1;simpa using this
  rw [List.getElem?_reverse hi] at hl
  refine e1_2 (rs.get hl) fun v hv rv=>?_
  have e1:(l.length:Int)-1-(i:Int)=((l.length-1-i:Nat):Int):=by lia
  rw [e1] at it
  refine wpAny_pyNext_rev_item it (items:=vs.toArray) ⟨_,e,rfl,n,rfl⟩ (x:=v) (by simpa using hv) fun h' hit hs=>?_
  have hk:∀ b o,b≠I→s.heap.get? b=some o→h'.get? b=some o:=fun b o hb e=>hs.extBut b o hb e
  have ht:∀ a ws,TupAt s.heap a ws→TupAt h' a ws:=fun _ _=>k7 hk hnt
  refine hQ v h' s.toks (let ⟨o,e,_⟩:=hit; ⟨o,e⟩) hk ⟨?_,hj⟩ (Rep.mono ⟨[],by simp⟩ ht rv)
  have e2:(l.length:Int)-1-((i+1:Nat):Int)=((l.length-1-i:Nat):Int)-1:=by lia
  rw [e2];exact hit
 done:=fun γ H s Q E R hst iv hQ=>by
  refine j4 iv fun it hj=>?_
  have e1:(l.length:Int)-1-((l.reverse.length:Nat):Int) = -1:=by simp;lia
  rw [e1] at it
  exact wpAny_pyNext_rev_end hA.handled it fun h' he=>hQ h' s.toks fun b o hb e=>he b o hb e
 self:=fun γ i s Q E iv q=>wpAny_pyIter_revIter iv.1 q
 own:=fun γ i s T elts x1 pos Q E iv q=>let ⟨⟨_,e,c,_⟩,_⟩:=iv;au8 e c (by decide) q
inductive SrcPost (D:Wd)(A:Around)(γ:List Addr)(s:Shared)(K:List V→(Hp→Prop)→Hp→Prop)(it:Value)(s2:Shared):Prop where
 | mk:∀ γ2 H2 I fp l st Inv,it=.ref I→Stp [] γ γ2 s s2→HRel D γ2 H2 s2.heap→Itr D A I fp l st Inv→Inv γ2 0 s2.heap→(∀ b∈fp,b∉γ2∧(∃ o,s2.heap.get? b=some o)∧(b=I∨∃ ws,TupAt s2.heap b ws))→s.heap.get? I=none→st H2→l.length≤2000000→K l st H2→SrcPost D A γ s K it s2
theorem bs5 (hA:AOk D k A)(I:Addr)(x:Str)(t:Tok)(ha:x.cps.all (· < 128)=true):Itr D A I [I] (x.cps.toList.map fun c=>V.str ⟨#[c]⟩) (fun _=>True) (fun _ i h=>h.IsStrIter I "str_ascii_iterator" x t i) where
 mem:=by simp
 frame:=fun γ γ' i h h' iv _ hk _=>by
  refine e1_3 iv fun o e c d=>?_
  exact ⟨o,hk I (by simp) o e,c,d⟩
 notTup:=fun γ i h ws iv q=>by
  refine e1_3 iv fun o e c d=>?_
  refine e1_2 q fun m e' _=>?_
  rw [e] at e';cases e';simp at c
 nd:=fun γ i h iv b hb o e=>by
  refine e1_3 iv fun o' e' c d=>?_
  rw [List.mem_singleton.mp hb,e'] at e;obtain rfl:=Option.some.inj e;exact m5 d
 next:=fun γ H s i W Q E hl R hI _ iv hQ=>by
  rw [List.getElem?_map,Option.map_eq_some_iff] at hl
  refine e1_2 hl fun c hc e_157=>?_
  obtain rfl:=e_157
  have hc':x.cps[i]? = some c:=by simpa using hc
  refine wpAny_pyNext_ascii_item iv hc' fun h' hit hs=>?_
  refine hQ _ h' _ (let ⟨o,e,_⟩:=hit; ⟨o,e⟩) (fun b o hb e=>hs.extBut b o hb e) hit ?_
  have hlt:c<128:=by simpa using (Array.all_eq_true'.mp ha) c (Array.mem_of_getElem? hc')
  exact av6 ⟨by show 1≤2000000;decide,af9.mpr fun d hd=>by simp at hd;lia⟩
 done:=fun γ H s Q E R _ iv hQ=>wpAny_pyNext_ascii_end hA.handled iv (by simp) fun h' he=>hQ h' s.toks fun b o hb e=>he b o hb e
 self:=fun γ i s Q E iv q=>wpAny_pyIter_striter_ascii iv q
 own:=fun γ i s T elts x1 pos Q E iv q=>let ⟨_,e,c,_⟩:=iv;au8 e c (by decide) q
theorem u6 {s:Shared}(o:Obj):∀ b o',s.heap.get? b=some o'→(s.heap.push o).get? b=some o':=fun _ _ e=>Heap.get?_push_of_some _ e
theorem aZ1 {γ:List Addr}{H:Hp}{s:Shared}(R:HRel D γ H s.heap):s.heap.objs.size∉γ:=(R.nin (y3 _)).1
theorem W8 {γ γ0:List Addr}{H:Hp}{s s0:Shared}(st:Stp [] γ0 γ s0 s)(R:HRel D γ H s.heap){a:Addr}(hn:s.heap.get? a=none):s0.heap.get? a=none:=by
 cases q:s0.heap.get? a with
 | none=>rfl
 | some o =>
  by_cases hg:a∈γ0
  ·refine e1_2 (st.ext) fun δ e _=>?_
   exact absurd (by rw [e];exact List.mem_append_left _ hg) (R.nin hn).1
  ·refine e1_1 (st.live hg (fun h=>nomatch h) q) fun o' e'=>?_
   rw [hn] at e';exact b9 e'
theorem K3 {γ:List Addr}{s:Shared}{o:Obj}{tk:Nat}:Stp [] γ γ s { s with heap:=s.heap.push o,toks:=tk }:=C7 (u6 o)
theorem aG0 {γ:List Addr}{H:Hp}{s:Shared}{o:Obj}(R:HRel D γ H s.heap)(ho:o.isFreed=false):∀ b∈[s.heap.objs.size],b∉γ∧(∃ o',(s.heap.push o).get? b=some o')∧(b=s.heap.objs.size∨∃ ws,TupAt (s.heap.push o) b ws):=fun b hb=>by
 rw [List.mem_singleton.mp hb]
 exact ⟨aZ1 R,⟨_,Heap.get?_push_size _ ho⟩,.inl rfl⟩
theorem bo5 {γ:List Addr}{H:Hp}{s:Shared}{v:Value}{W:V}{K:List V→(Hp→Prop)→Hp→Prop}{E:Value→Shared→Prop}(hA:AOk D k A)(R:HRel D γ H s.heap)(r:Rep D γ s.heap v W)
  (h:b54 W H (fun l st=>K l st H)):wpAny D.M A (pyIter v) (SrcPost D A γ s K) E s:=by
 cases W with
 | tup l =>
  replace h:K l (fun _=>True) H:=h
  refine e2_3 r fun t vs e_158 ta rs=>?_
  obtain rfl:=e_158
  have hlt:t<s.heap.objs.size:=by obtain ⟨n,e,_⟩:=ta;exact Heap.lt_size e
  have htg:t∉γ:=fun hm=>(R.alive hm).2 vs ta
  refine wpAny_pyIter_tuple ta.isTuple ?_
  refine ⟨γ,H,s.heap.objs.size,[s.heap.objs.size,t],l,fun _=>True,bc8 D s.heap.objs.size t vs l,rfl,K3 (tk:=s.toks),R.grow (u6 _),bp7 hA _ t (Nat.ne_of_lt hlt) vs l,?_,?_,y3 _,trivial,by rw [←rs.length];exact ta.size,h⟩
  ·exact ⟨⟨_,Heap.get?_push_size _ rfl,rfl,rfl⟩,j9 (u6 _) ta,Reps.mono ⟨[],by simp⟩ (fun _ _=>j9 (u6 _)) rs⟩
  ·intro b hb
   simp at hb
   rcases hb with rfl|rfl
   ·exact ⟨aZ1 R,⟨_,Heap.get?_push_size _ rfl⟩,.inl rfl⟩
   ·have ta':=j9 (u6 { cls:=.type "tuple_iterator",data:=.fields #[.ref b,.int 0 0] }) ta
    refine e1_2 (id ta') fun n e _=>?_
    exact ⟨htg,⟨_,e⟩,.inr ⟨vs,ta'⟩⟩
 | str x =>
  refine j4 h fun ha h=>?_
  refine e1_2 r fun t e_159 f=>?_
  obtain rfl:=e_159
  refine wpAny_pyIter_strU ?_
  have ety:strIterType x = "str_ascii_iterator":=by unfold strIterType;rw [ha];rfl
  rw [ety]
  refine ⟨γ,H,s.heap.objs.size,[s.heap.objs.size],_,fun _=>True,fun _ i h=>h.IsStrIter s.heap.objs.size "str_ascii_iterator" x t i,rfl,K3 (tk:=s.toks),R.grow (u6 _),bs5 hA _ x t ha,?_,?_,y3 _,trivial,by simpa using (show x.cps.size≤2000000 from f.1),h⟩
  ·exact ⟨_,Heap.get?_push_size _ rfl,rfl,rfl⟩
  ·exact aG0 R rfl
 | ref j =>
  refine e1_2 (d8 (show oK (b6 H j) _ from h)) fun l hl h=>?_
  refine e1_2 r fun a hj e_160=>?_
  obtain rfl:=e_160
  refine e2_3 (R.list hj hl) fun vs n e rs z=>?_
  refine wpAny_pyIter_list (items:=vs.toArray) ⟨_,e,rfl,n,rfl⟩ ?_
  refine ⟨γ,H,s.heap.objs.size,[s.heap.objs.size],l,fun H'=>b6 H' j=some l,a97 s.heap.objs.size a j,rfl,K3 (tk:=s.toks),R.grow (u6 _),a78 hA _ a j l,?_,?_,y3 _,hl,by rw [←rs.length];exact z,h⟩
  ·exact ⟨⟨_,Heap.get?_push_size _ rfl,rfl,rfl⟩,hj⟩
  ·exact aG0 R rfl
 | _=>exact h.elim
theorem ax0 {γ:List Addr}{H:Hp}{s s0:Shared}{r:Addr}{a b:Int}{t u v:Tok}{K:List V→(Hp→Prop)→Hp→Prop}{E:Value→Shared→Prop}{γ0:List Addr}(hA:AOk D k A)(st:Stp [] γ0 γ s0 s)(R:HRel D γ H s.heap)
  (hr:IsRange s.heap r a b 1 t u v) (ha:-(2 ^ 62)≤a) (ha':a<2 ^ 62) (hb:-(2 ^ 62)≤b) (hb':b<2 ^ 62) (hz:b-a≤1000000) (h:K (E4 a b) (fun _=>True) H):wpAny D.M A (pyIter (.ref r)) (SrcPost D A γ0 s0 K) E s:=by
 refine wpAny_pyIter_range hr (small_one ha ha' hb hb') ?_
 have hsz:Builtin.Range.rangeSize a b 1=(((b-a).toNat:Nat):Int):=by rw [rangeSize_one];split<;>lia
 refine ⟨γ,H,s.heap.objs.size,[s.heap.objs.size],E4 a b,fun _=>True,aH3 s.heap.objs.size a (b-a).toNat,rfl,st.trans0 R (K3 (tk:=s.toks)),R.grow (u6 _),aX1 hA _ a _,?_,?_,W8 st R (y3 _),trivial,by simp [E4];lia,h⟩
 ·show (s.heap.push _).get? s.heap.objs.size=some _
  rw [Heap.get?_push_size _ rfl,hsz]
  simp
 ·exact aG0 R rfl
theorem bp8 {γ:List Addr}{H:Hp}{s s0:Shared}{x:Value}{j:Nat}{l:List V}{K:List V→(Hp→Prop)→Hp→Prop}{E:Value→Shared→Prop}{γ0:List Addr}(hA:AOk D k A)(st:Stp [] γ0 γ s0 s)(R:HRel D γ H s.heap)
  (rv:Rep D γ s.heap x (.ref j)) (hl:b6 H j=some l) (h:K l.reverse (fun H'=>b6 H' j=some l) H):wpAny D.M A (call (.type "reversed") [x]) (fun x s1=>wpAny D.M A (pyIter x) (SrcPost D A γ0 s0 K) E s1) E s:=by
 refine e1_2 rv fun a hj e_161=>?_
 obtain rfl:=e_161
 refine e2_3 (R.list hj hl) fun vs n e rs z=>?_
 refine call_reversed_list (items:=vs.toArray) ⟨_,e,rfl,n,rfl⟩ ?_
 have hit:(s.heap.push (revObj a ((vs.toArray.size:Int)-1))).IsRevIter s.heap.objs.size a ((l.length:Int)-1-((0:Nat):Int)):=by
  refine ⟨_,Heap.get?_push_size _ rfl,rfl,?_⟩
  simp [revObj,rs.length]
 refine wpAny_pyIter_revIter hit ?_
 refine ⟨γ,H,s.heap.objs.size,[s.heap.objs.size],l.reverse,fun H'=>b6 H' j=some l,bb4 s.heap.objs.size a j l,rfl,st.trans0 R (K3 (tk:=s.toks)),R.grow (u6 _),bs8 hA _ a j l,⟨hit,hj⟩,aG0 R rfl,W8 st R (y3 _),hl,by rw [List.length_reverse,←rs.length];exact z,h⟩
theorem SrcPost.back {γ γ1:List Addr}{H1:Hp}{s s1 s2:Shared}{K:List V→(Hp→Prop)→Hp→Prop}{it:Value}(t:Stp [] γ γ1 s s1)(R:HRel D γ1 H1 s1.heap)(h:SrcPost D A γ1 s1 K it s2):SrcPost D A γ s K it s2:=by
 obtain ⟨γ2,H2,I,fp,l,st,Inv,e,t2,R2,it,iv,hf,hn,hs,hz,hK⟩:=h
 refine ⟨γ2,H2,I,fp,l,st,Inv,e,t.trans0 R t2,R2,it,iv,hf,?_,hs,hz,hK⟩
 exact W8 t R hn
end
section
variable {D:Wd} {Φ:Orc} {k:Nat} {c:CC}
theorem bg0 {iter:Expr}{ie:IE}{env:Env}{A:Around}{γ:List Addr}{H:Hp}{s:Shared}{L:Lc}{X:XL}{K:List V→(Hp→Prop)→Hp→Prop}(ih:SE D Φ k c iter ie)(hE:s8 c env)(hA:AOk D k A)(R:HRel D γ H s.heap)
  (lr:LRel D γ env c.slots s.heap L) (w:(wp2 Φ ie).E L H (fun v H1=>b54 v H1 (fun l st=>K l st H1)) X) :
  wpAny D.M A (eval iter env) (fun x s1=>wpAny D.M A (pyIter x) (SrcPost D A γ s K) (PostX D γ s X) s1) (PostX D γ s X) s:=by
 refine q7 (ih env A γ H s L _ X hE hA R lr w) ?_
 intro v s1 γ1 V H1 st R1 rv q
 exact wpAny_mono (bo5 hA R1 rv q) (fun it s2 p=>p.back st R1) fun _ _ x=>x
theorem aq3 {n:Nat}{g0:Str}{gp pos:Pos}{as:List Expr}{ies:List IE}{T:Ty}{env:Env}{A:Around}{γ:List Addr}{H:Hp}{s:Shared}{L:Lc}{X:XL}{P:List V→Hp→Prop}{R':Value→Shared→Prop}(g:GOk D c.G c.mts)(ih:∀ e ie,g8 n c e=some ie→SE D Φ k c e ie)
  (hW:U8 c g0=some (.ty T)) (hs:as.any E5=false) (ha:K6 (g8 n c) as=some ies) (hE:s8 c env) (hA:AOk D k A) (R:HRel D γ H s.heap) (lr:LRel D γ env c.slots s.heap L) (w:O9 Φ ies L H P X)
  (hq:∀ γ2 H2 s2 xs Ws,Stp [] γ γ2 s s2→HRel D γ2 H2 s2.heap→Reps D γ2 s2.heap xs Ws→P Ws H2→wpAny D.M A (call (.type T.name) xs) R' (PostX D γ s X) s2) :
  wpAny D.M A (eval (.Call (.Name g0 gp) as [] pos) env) R' (PostX D γ s X) s:=by
 refine wpAny_Call_ofName (q7 (as5 (Φ:=Φ) (Q:=fun V H'=>V=.ty T∧H'=H) g hE R lr (ad1 hW) ⟨rfl,rfl⟩) ?_)
 intro vf s1 γ1 Vf H1 st R1 rf q
 refine j4 q fun e_162 e_163=>?_
 obtain rfl:=e_162
 obtain rfl:=e_163
 obtain rfl:=rf
 rw [r4 hs]
 refine PyProof.Rows.callWith_type (by simp) (wpAny_mono (T4 ih hE hA ha R1 (lr.stp R st) w) (fun b s2 hb=>?_) fun _ _ x=>x.back st R1)
 obtain ⟨ps,kw⟩:=b
 obtain ⟨hkw,γ2,Vs,H2,st2,R2,rv,q⟩:=hb
 obtain rfl:kw=[]:=hkw
 exact hq γ2 H2 s2 ps Vs (st.trans0 R1 st2) R2 rv q
theorem aX3 {W:V}{kk:SrcK}(h:ch6 W=some kk):(W=.ty .range∧kk=.range)∨(W=.ty .reversed∧kk=.rev):=by
 cases W with
 | ty t=>cases t with
  | range=>exact .inl ⟨rfl,(Option.some.inj h).symm⟩
  | reversed=>exact .inr ⟨rfl,(Option.some.inj h).symm⟩
  | _=>exact b9 h
 | _=>exact b9 h
theorem bd9 {n:Nat}{iter:Expr}{kk:SrcK}{ie:IE}{env:Env}{A:Around}{γ:List Addr}{H:Hp}{s:Shared}{L:Lc}{X:XL}{K:List V→(Hp→Prop)→Hp→Prop}(g:GOk D c.G c.mts)(ih:∀ e ie,g8 n c e=some ie→SE D Φ k c e ie)
  (hc:z8 (g8 n c) c iter=some (kk,ie)) (hE:s8 c env) (hA:AOk D k A) (R:HRel D γ H s.heap)
  (lr:LRel D γ env c.slots s.heap L) (w:(wp2 Φ ie).E L H (fun v H1=>ac3 kk v H1 (fun l st=>K l st H1)) X) :
  wpAny D.M A (eval iter env) (fun x s1=>wpAny D.M A (pyIter x) (SrcPost D A γ s K) (PostX D γ s X) s1) (PostX D γ s X) s:=by
 unfold z8 at hc
 cases hs:ci6 c iter with
 | none =>
  rw [hs] at hc
  refine e1_2 (Option.map_eq_some_iff.mp hc) fun v hv he=>?_
  cases he
  exact bg0 (ih _ _ hv) hE hA R lr w
 | some ka =>
  rw [hs] at hc
  refine ay5 hs fun f as p hs=>?_
  refine t0 hs fun g0 px hs=>?_
  revert hc;refine k8 hs fun k' hk hc=>?_
  refine j2 hk fun W hW hk=>?_
  cases as with
  | nil=>exact b9 hc
  | cons a r =>
   refine f0 ((show g9 (!E5 a) _=some (kk,ie) from hc)) fun hst hc=>?_
   have one:∀ {v},g8 n c a=some v→K6 (g8 n c) [a]=some [v]:=fun h=>by show (g8 n c a).bind _=_;rw [h];rfl
   have st1:[a].any E5=false:=by rw [List.any_cons,aF7 hst];rfl
   rcases aX3 hk with ⟨rfl,rfl⟩|⟨rfl,rfl⟩
   ·cases r with
    | nil =>
     refine e1_2 (Option.map_eq_some_iff.mp hc) fun v hv he=>?_
     cases he
     refine aq3 (P:=fun vs H'=>ak2 vs fun v=>ac3 .range v H' (fun l st=>K l st H')) g ih hW st1 (one hv) hE hA R lr w fun γ2 H2 s2 xs Ws st R2 rxs q0=>?_
     refine e1_2 (z7 q0) fun W e_164 q=>?_
     obtain rfl:=e_164
     refine e2_3 rxs fun x r e_165 rx e_166=>?_
     obtain rfl:=e_165
     obtain rfl:=e_166
     refine e1_3 (d8 (show oK (al4 W) _ from q)) fun b hb q2 h=>?_
     rw [r7 hb] at rx
     refine e1_1 rx fun t e_167=>?_
     obtain rfl:=e_167
     exact call_range_1 (ax0 (s0:=s) (γ0:=γ) (γ:=γ2) (H:=H2) hA (st.trans0 R2 K3) (R2.grow (u6 _)) (IsRange.new _ _ _ _ _ _ _) (by decide) (by decide) q2.1 (by lia) (by lia) h)
    | cons b r =>
     refine f0 ((show g9 (!E5 b&&r.isEmpty) _=some (kk,ie) from hc)) fun hst2 hc2=>?_
     rw [Bool.and_eq_true] at hst2
     obtain rfl:r=[]:=List.isEmpty_iff.mp hst2.2
     refine e2_3 (aQ7 hc2) fun v v' hv hv' he=>?_
     cases he
     refine aq3 (P:=fun vs H'=>ac3 .range2 (.tup vs) H' (fun l st=>K l st H')) g ih hW (by rw [List.any_cons,List.any_cons,aF7 hst,aF7 hst2.1];rfl) (by show (g8 n c a).bind _=_;rw [hv];show (((g8 n c b).bind _).map _)=_;rw [hv'];rfl) hE hA R lr w.2 fun γ2 H2 s2 xs Ws st R2 rxs q0=>?_
     refine e2_2 (N0 (show aZ7 Ws _ from q0)) fun W W' e_168 q2=>?_
     obtain rfl:=e_168
     obtain ⟨x,r,rfl,rx,x',r',rfl,rx',rfl⟩:=rxs
     refine e2_4 (ai2 q2) fun i j e_172 e_173 q3 h=>?_
     obtain rfl:=e_172
     obtain rfl:=e_173
     obtain ⟨t,rfl⟩:=rx;obtain ⟨t',rfl⟩:=rx'
     exact call_range_2 (ax0 (s0:=s) (γ0:=γ) (γ:=γ2) (H:=H2) hA (st.trans0 R2 K3) (R2.grow (u6 _)) (IsRange.new _ _ _ _ _ _ _) q3.1 q3.2.1 q3.2.2.1 q3.2.2.2.1 q3.2.2.2.2 h)
   ·refine f0 ((show g9 r.isEmpty _=some (kk,ie) from hc)) fun hr hc2=>?_
    obtain rfl:r=[]:=List.isEmpty_iff.mp hr
    refine e1_2 (Option.map_eq_some_iff.mp hc2) fun v hv he=>?_
    cases he
    refine aq3 (P:=fun vs H'=>ak2 vs fun v=>ac3 .rev v H' (fun l st=>K l st H')) g ih hW st1 (one hv) hE hA R lr w fun γ2 H2 s2 xs Ws st R2 rxs q0=>?_
    refine e1_2 (z7 q0) fun W e_174 q=>?_
    obtain rfl:=e_174
    refine e2_3 rxs fun x r e_175 rx e_176=>?_
    obtain rfl:=e_175
    obtain rfl:=e_176
    refine e1_2 (d8 (show oK (ai5 W) _ from q)) fun j hj q2=>?_
    rw [q8 hj] at rx
    refine e1_2 (d8 q2) fun l hl q3=>?_
    exact bp8 hA st R2 rx hl q3
end
end Mine
namespace Mine
open PySem PyProof.Rows
noncomputable def l8 (env:Env):List (Str × NameKind)→List (Str × Addr)→List (Str × Addr)
 | [],acc=>acc
 | (n,k)::r,acc=>if k==.free then (match env.cells.lookup n with|some a=>l8 env r ((n,a)::acc)|none=>l8 env r acc) else l8 env r acc
theorem ag8 {env:Env}:∀ (names:List (Str × NameKind)) (acc:List (Str × Addr)),(∀ x∈names,x.2=.free→∃ a,env.cells.lookup x.1=some a) →
  (forIn names acc (fun (x:Str × NameKind) (cs:List (Str × Addr))=>(if x.2==.free then (do let c ← cellOf env x.1;pure (ForInStep.yield ((x.1,c)::cs))) else pure (ForInStep.yield cs):Sem (ForInStep (List (Str × Addr))))))=pure (l8 env names acc)
 | [],acc,_=>rfl
 | (n,k)::r,acc,h=>by
  have hr:∀ x∈r,x.2=.free→∃ a,env.cells.lookup x.1=some a:=fun x hx=>h x (List.mem_cons_of_mem _ hx)
  rw [List.forIn_cons,l8]
  cases hk:(k==NameKind.free) with
  | true =>
   have hk':k=.free:=by simpa using hk
   refine e1_1 (h (n,k) List.mem_cons_self hk') fun a ha=>?_
   have:cellOf env n=pure a:=by unfold cellOf;simp only at ha;rw [ha]
   simp only at ha
   simp only [if_true,this,ha,pure_bind]
   exact ag8 r _ hr
  | false =>
   simp only [Bool.false_eq_true,if_false,pure_bind]
   exact ag8 r _ hr
theorem ap2 {env:Env}{scope:Scope}(h:∀ x∈scope.names,x.2=.free→∃ a,env.cells.lookup x.1=some a):closureFor scope env=pure (l8 env scope.names []):=by
 have:=ag8 scope.names [] h
 unfold closureFor
 have e:(forIn scope.names ([]:List (Str × Addr)) fun x r=>(do if (x.2==NameKind.free)=true then (do let c ← cellOf env x.1;pure (ForInStep.yield ((x.1,c)::r))) else pure (ForInStep.yield r):Sem (ForInStep (List (Str × Addr)))))=pure (l8 env scope.names []):=this
 exact (congrArg (fun m:Sem (List (Str × Addr))=>m >>= fun cs=>pure cs) e)
theorem O4 {env:Env}:∀ (names:List (Str × NameKind)) (acc:List (Str × Addr)),(∀ n a,(n,a)∈acc→env.cells.lookup n=some a)→∀ n a,(n,a)∈l8 env names acc→env.cells.lookup n=some a
 | [],acc,h,n,a,hm=>h n a hm
 | (m,k)::r,acc,h,n,a,hm=>by
  rw [l8] at hm
  split at hm
  ·split at hm
   ·rename_i b hb
    refine O4 r _ ?_ n a hm
    intro n' a' hm'
    rcases List.mem_cons.mp hm' with q|q
    ·cases q;exact hb
    ·exact h n' a' q
   ·exact O4 r _ h n a hm
  ·exact O4 r _ h n a hm
theorem J5 {env:Env}:∀ (names:List (Str × NameKind)) (acc:List (Str × Addr)) n a,(n,a)∈acc→(n,a)∈l8 env names acc
 | [],_,_,_,h=>h
 | (m,k)::r,acc,n,a,h=>by
  rw [l8]
  split
  ·split
   ·exact J5 r _ n a (List.mem_cons_of_mem _ h)
   ·exact J5 r _ n a h
  ·exact J5 r _ n a h
theorem N4 {env:Env}:∀ (names:List (Str × NameKind)) (acc:List (Str × Addr)) n a,(n,NameKind.free)∈names→env.cells.lookup n=some a→(n,a)∈l8 env names acc
 | (m,k)::r,acc,n,a,h,hl=>by
  rw [l8]
  rcases List.mem_cons.mp h with q|q
  ·cases q
   simp only [beq_self_eq_true,if_true,hl]
   exact J5 r _ _ _ List.mem_cons_self
  ·split
   ·split
    ·exact N4 r _ n a q hl
    ·exact N4 r _ n a q hl
   ·exact N4 r _ n a q hl
theorem aq7 {l:List (Str × Addr)}{n:Str}{a:Addr}(h:(n,a)∈l):∃ b,l.lookup n=some b:=by
 cases e:l.lookup n with
 | some b=>exact ⟨b,rfl⟩
 | none =>
  have:=List.lookup_eq_none_iff.mp e (n,a) h
  simp at this
theorem J4 {env:Env}{names:List (Str × NameKind)}{n:Str}(h:(n,NameKind.free)∈names){a:Addr}(hl:env.cells.lookup n=some a):(l8 env names []).lookup n=some a:=by
 refine e1_1 (aq7 (N4 names [] n a h hl)) fun b hb=>?_
 have:=O4 names [] (by simp) n b (mem_of_lookup hb)
 rw [hl] at this;cases this;exact hb
theorem an4 {scope outer:Scope}{y:Str}(h:(aa9 scope outer).names.lookup y=some .cell):(y,NameKind.cell)∈scope.names∨((y,NameKind.free)∈scope.names∧outer.names.lookup y=some .cell):=by
 unfold aa9 at h
 simp only at h
 revert h
 generalize scope.names=l
 induction l with
 | nil=>intro h;exact b9 h
 | cons p r ih =>
  obtain ⟨n,k⟩:=p
  intro h
  simp only [List.map_cons] at h
  have next:(r.map fun x=>if (x.2==NameKind.free&&outer.kind==.function&&outer.names.lookup x.1==some .cell) then (x.1,NameKind.cell) else (x.1,x.2)).lookup y=some .cell→(y,NameKind.cell)∈(n,k)::r∨((y,NameKind.free)∈(n,k)::r∧outer.names.lookup y=some .cell):=fun h=>by
   rcases ih h with q|⟨a,b⟩
   ·exact .inl (List.mem_cons_of_mem _ q)
   ·exact .inr ⟨List.mem_cons_of_mem _ a,b⟩
  by_cases hc:(k==NameKind.free&&outer.kind==.function&&outer.names.lookup n==some .cell)=true
  ·rw [if_pos hc,List.lookup_cons] at h
   cases hy:y==n with
   | true =>
    obtain rfl:y=n:=eq_of_beq hy
    rw [Bool.and_eq_true,Bool.and_eq_true,beq_iff_eq,beq_iff_eq] at hc
    exact .inr ⟨by rw [hc.1.1];exact List.mem_cons_self,eq_of_beq hc.2⟩
   | false=>rw [hy] at h;exact next h
  ·rw [if_neg hc,List.lookup_cons] at h
   cases hy:y==n with
   | true =>
    obtain rfl:y=n:=eq_of_beq hy
    rw [hy] at h
    obtain rfl:=Option.some.inj h
    exact .inl List.mem_cons_self
   | false=>rw [hy] at h;exact next h
theorem ap1 {scope outer:Scope}{y:Str}{k:NameKind}(hk:k≠.free)(h:scope.names.lookup y=some k):(aa9 scope outer).names.lookup y=some k:=by
 unfold aa9
 revert h
 show scope.names.lookup y=some k→(scope.names.map _).lookup y=some k
 generalize scope.names=l
 induction l with
 | nil=>intro h;exact b9 h
 | cons p r ih =>
  obtain ⟨n,k'⟩:=p
  intro h
  rw [List.lookup_cons] at h
  rw [List.map_cons]
  cases hy:y==n with
  | true =>
   rw [hy] at h
   obtain rfl:=Option.some.inj h
   have:(k'==NameKind.free&&outer.kind==.function&&outer.names.lookup n==some .cell)=false:=by
    rw [show (k'==NameKind.free)=false from beq_eq_false_iff_ne.mpr hk];rfl
   simp only [this,Bool.false_eq_true,if_false]
   rw [List.lookup_cons,hy]
  | false =>
   rw [hy] at h
   have e:∀ k2,((n,k2)::r.map fun x=>if (x.2==NameKind.free&&outer.kind==.function&&outer.names.lookup x.1==some .cell) then (x.1,NameKind.cell) else (x.1,x.2)).lookup y=some k:=fun k2=>by
    rw [List.lookup_cons,hy];exact ih h
   by_cases hc:(k'==NameKind.free&&outer.kind==.function&&outer.names.lookup n==some .cell)=true
   ·simp only [hc,if_true];exact e _
   ·simp only [hc];exact e _
theorem O0:∀ {names:List (Str × NameKind)} {n:Nat} {acc:List (Str × Addr)} {h:Heap},names.filter I2=[]→cellsFrom n names acc=acc∧pushCells h names=h
 | [],_,_,_,_=>⟨rfl,rfl⟩
 | (y,k)::r,n,acc,h,e=>by
  rw [List.filter_cons] at e
  cases hk:I2 (y,k) with
  | true=>rw [hk] at e;exact absurd e (List.cons_ne_nil _ _)
  | false =>
   rw [hk] at e
   have hk:(k==NameKind.cell)=false:=hk
   unfold cellsFrom pushCells
   rw [hk]
   exact O0 (names:=r) e
theorem W5:∀ {names:List (Str × NameKind)} {x:Str} {n:Nat} {acc:List (Str × Addr)} {h:Heap},names.filter I2=[(x,.cell)]→cellsFrom n names acc=(x,n)::acc∧pushCells h names=h.push { cls:=.type "cell",data:=.cell none }
 | [],_,_,_,_,e=>absurd e.symm (List.cons_ne_nil _ _)
 | (y,k)::r,x,n,acc,h,e=>by
  rw [List.filter_cons] at e
  cases hk:I2 (y,k) with
  | true =>
   rw [hk] at e
   have hk:(k==NameKind.cell)=true:=hk
   refine j4 (List.cons.inj (show (y,k)::r.filter I2=_ from e)) fun e1 e2=>?_
   obtain rfl:y=x:=congrArg Prod.fst e1
   unfold cellsFrom pushCells
   rw [hk]
   exact O0 (names:=r) e2
  | false =>
   rw [hk] at e
   have hk:(k==NameKind.cell)=false:=hk
   unfold cellsFrom pushCells
   rw [hk]
   exact W5 (names:=r) e
theorem ag4 {scope outer:Scope}{y:Str}(h:(aa9 scope outer).names.lookup y=some .local):(y,NameKind.local)∈scope.names:=by
 unfold aa9 at h
 simp only at h
 revert h
 generalize scope.names=l
 induction l with
 | nil=>intro h;simp at h
 | cons p r ih =>
  obtain ⟨n,k⟩:=p
  intro h
  simp only [List.map_cons] at h
  by_cases hc:(k==NameKind.free&&outer.kind==.function&&outer.names.lookup n==some .cell)=true
  ·rw [if_pos hc] at h
   rw [List.lookup_cons] at h
   cases hy:y==n with
   | true=>rw [hy] at h;simp at h
   | false=>rw [hy] at h;exact List.mem_cons_of_mem _ (ih h)
  ·rw [if_neg hc] at h
   rw [List.lookup_cons] at h
   cases hy:y==n with
   | true =>
    rw [hy] at h
    have:y=n:=by simpa using hy
    subst this
    simp only at h
    cases h
    exact List.mem_cons_self
   | false=>rw [hy] at h;exact List.mem_cons_of_mem _ (ih h)
end Mine
namespace Mine
open PySem PyProof.Rows
theorem r5 {D:Wd}{γ:List Addr}{H:Hp}{s:Shared}(R:HRel D γ H s.heap){z:Addr}(h:s.heap.get? z=none):D.hB.get? z=none:=by
 cases e:D.hB.get? z with
 | none=>rfl
 | some o=>have:=R.base _ _ e;rw [h] at this;cases this
noncomputable def frA (D:Wd):List Addr:=D.fr.filterMap (·.frame)
theorem FrsOk.at {D:Wd}{γ:List Addr}{h:Heap}(f:FrsOk D γ h){b:Addr}(hb:b∈frA D):(D.hB.get? b=none∧b∉γ)∧∃ o,h.get? b=some o∧¬ az1 o:=by
 refine e1_2 (List.mem_filterMap.mp hb) fun e he hf=>?_
 obtain ⟨k,L,o,a,b',n,c,d⟩:=f e he
 rw [hf] at a;obtain rfl:=Option.some.inj a
 exact ⟨⟨b',n⟩,o,c,d⟩
theorem bc4 {h base:Heap}:∀ {l:List Env},(∀ e∈l,e.scope.kind=.function∧∃ (L:Addr) (o:Obj),e.frame=some L∧base.get? L=none∧h.get? L=some o∧¬ az1 o)→h.FunFrames base l
 | [],_=>trivial
 | e::r,f=>by
  obtain ⟨k,L,o,a,b,c,d⟩:=f e List.mem_cons_self
  exact ⟨(by rw [k];intro q;cases q),⟨L,o,a,b,c,fun vs q=>d (m5 q)⟩,bc4 fun e he=>f e (List.mem_cons_of_mem _ he)⟩
structure Land (ex:List Addr)(h h':Heap):Prop where
 stays:∀ b o,b∉ex→h.get? b=some o→h'.get? b=some o
 up:h.UpToSlots h'
structure ExF (D:Wd)(γ:List Addr)(s:Shared)(h:Heap)(ex:List Addr):Prop where
 each:∀ b∈ex,b∈frA D∨(s.heap.get? b=none∧D.hB.get? b=none∧b∉γ∧∃ o vs,h.get? b=some o∧o.data=.fields vs)
 frs:∀ b∈frA D,b∈ex
theorem Land.of {ex:List Addr}{h h':Heap}(st:(PySem.W.hideAll h ex).StaysIn h')(up:h.UpToSlots h'):Land ex h h':=⟨fun b o hb e=>st b o (PySem.W.hideAll_get _ e hb),up⟩
section
variable {D:Wd} {γ γ1 γ0:List Addr} {H H1 H0:Hp} {s s1:Shared} {env:Env} {slots:List (Str × Nat)} {L:Lc} {ex:List Addr} {h h':Heap}
theorem Land.same (l:Land ex h h')(F:FrsOk D γ h)(X:ExF D γ s h ex){b:Addr}{o:Obj}(nd:az1 o)(nf:∀ vs,o.data≠.fields vs)(e:h.get? b=some o):h'.get? b=some o :=
 l.stays b o (fun hb=>by
  rcases X.each b hb with q|⟨_,_,_,o',vs,e',d⟩
  ·obtain ⟨_,o',e',d⟩:=F.at q
   rw [e] at e';obtain rfl:=Option.some.inj e';exact d nd
  ·rw [e] at e';obtain rfl:=Option.some.inj e';exact nf vs d) e
theorem Land.tup (l:Land ex h h')(F:FrsOk D γ h)(X:ExF D γ s h ex){a:Addr}{vs:List Value}(t:TupAt h a vs):TupAt h' a vs:=by
 refine e1_2 t fun n e z=>?_
 exact ⟨n,l.same F X (O7 rfl) (fun vs q=>by cases q) e,z⟩
theorem Land.frs (l:Land ex h h')(F:FrsOk D γ h):FrsOk D γ h':=F.but fun b o _ e d=>by
 refine e1_1 (l.up b o e fun vs q=>d (m5 q)) fun sl e'=>?_
 exact ⟨_,e',fun q=>d q⟩
theorem Land.base (l:Land ex h h')(R:HRel D γ H h)(X:ExF D γ s h ex):∀ b o,D.hB.get? b=some o→h'.get? b=some o:=fun b o e=>l.stays b o (fun hb=>by
  rcases X.each b hb with q|⟨_,q,_⟩
  ·obtain ⟨⟨q,_⟩,_⟩:=R.frs.at q;rw [e] at q;exact b9 q.symm
  ·rw [e] at q;exact b9 q.symm) (R.base b o e)
theorem Land.rep (l:Land ex h h')(F:FrsOk D γ h)(X:ExF D γ s h ex){v:Value}{V:V}(r:Rep D γ h v V):Rep D γ h' v V:=Rep.mono ⟨[],by simp⟩ (fun _ _=>l.tup F X) r
theorem Land.rel (l:Land ex h h')(R:HRel D γ H h)(X:ExF D γ s h ex):HRel D γ H h' where
 len:=R.len
 nodup:=R.nodup
 objs:=fun i a o e1 e2=>(R.objs i a o e1 e2).mono ⟨[],by simp⟩ (fun _ _=>l.tup R.frs X) fun ob e=>l.stays a ob (fun hb=>by
  have ha:=List.mem_of_getElem? e1
  rcases X.each a hb with q|⟨_,_,q,_⟩
  ·exact (R.frs.at q).1.2 ha
  ·exact q ha) e
 fresh:=R.fresh
 base:=l.base R X
 frs:=l.frs R.frs
theorem Land.stp {wr:List Addr}(l:Land ex s1.heap h')(F:FrsOk D γ1 s1.heap)(X:ExF D γ1 s s1.heap ex)(st:Stp wr γ γ1 s s1):Stp wr γ γ1 s { s1 with heap:=h' } where
 same:=by
  refine e2_1 (st.same) fun h1 t1 e=>?_
  exact ⟨h',t1,by rw [e]⟩
 keepS:=fun b o hb hw e=>by
  refine e1_2 (st.keepS b o hb hw e) fun sl e1 q=>?_
  by_cases nd:az1 o
  ·refine ⟨sl,l.stays b _ (fun hx=>?_) e1,q⟩
   rcases X.each b hx with q'|⟨q',_⟩
   ·obtain ⟨_,o',e',d⟩:=F.at q'
    rw [e1] at e';cases e';exact d nd
   ·rw [e] at q';cases q'
  ·refine e1_1 (l.up b _ e1 fun vs q=>nd (m5 q)) fun sl2 e2=>?_
   exact ⟨sl2,e2,fun q=>absurd q nd⟩
 ext:=st.ext
end
noncomputable def ba0 (base:Heap)(l:List Env)(e:Addr)(cls a0:Value)(h:Heap):Prop :=
 base.StaysIn h∧base.get? e=none∧h.FunFrames base l∧∃ fl,h.TracedAtW base e cls a0 fl
section
variable {M:Model} {A:Around} {E:Value→Shared→Prop} {s:Shared} {base:Heap} {l:List Env} {e La:Addr} {cls a0:Value} {Q:Unit→Shared→Prop}
theorem bL4 (o:Option Addr)(hh:ba0 base l e cls a0 s.heap)(hQ:∀ h',ba0 base l e cls a0 h'→s.heap.UpToSlots h'→Q () { s with heap:=h' }):wpAny M A (setFlight (.ref e) o) Q E s:=by
 obtain ⟨f1,f2,f3,fl,oe,vs,T,oT,ts,he,hcls,hd,h1,hnT,hTe,hT,hdT,h3⟩:=hh
 have hz:3<ts.size:=(Array.getElem?_eq_some_iff.mp h3).1
 have ot:∀ b,b≠T→(s.heap.update T (Obj.mapFields (·.setIfInBounds 3 (o.elim Value.none fun f=>rawInt f)))).get? b=s.heap.get? b:=fun b hb=>Heap.get?_update_other _ _ (Ne.symm hb)
 have nr:∀ b ob,s.heap.get? b=some ob→(∀ vs,ob.data≠.fields vs)→b≠T:=fun b ob hb hn q=>by
  rw [q,hT] at hb;cases hb;exact hn ts hdT
 unfold setFlight
 refine wpAny_bind (wpAny_field he hd h1 ?_)
 rw [if_pos (show (Value.ref T != Value.none)=true from by simp)]
 refine wpAny_setField hT hdT hz (hQ _ ⟨fun b ob hb=>(ot b fun q=>by rw [q,hnT] at hb;cases hb).trans (f1 b ob hb),f2,f3.of_keeps fun b ob hb hn=>⟨ob,(ot b (nr b ob hb hn)).trans hb,rfl⟩,
  _,oe,vs,T,_,_,(ot e (Ne.symm hTe)).trans he,hcls,hd,h1,hnT,hTe,Heap.get?_update_self _ hT (Obj.isFreed_of_fields (Obj.data_mapFields hdT _)),Obj.data_mapFields hdT _,Array.getElem?_setIfInBounds_self_of_lt hz⟩
  fun b ob hb hn=>⟨ob.slots,(ot b (nr b ob hb hn)).trans hb⟩)
theorem bR5 (hh:ba0 base l e cls a0 s.heap)(hQ:∀ h',Heap.FlyingW base l e cls a0 h'→s.heap.UpToSlots h'→Q () { s with heap:=h' }):wpAny M A (setFlight (.ref e) none) Q E s:=by
 obtain ⟨f1,f2,f3,fl,f4⟩:=hh
 exact wpAny_setFlight_noneW f1 f3 f4 fun h' k1 k2 k3 k4=>hQ h' ⟨k1,f2,k2,k3⟩ fun b o hb hn=>⟨o.slots,k4 b o hb hn⟩
theorem cl0 {env:Env}(hh:ba0 base l e cls a0 s.heap)(hQ:∀ h',ba0 base l e cls a0 h'→s.heap.UpToSlots h'→E (.ref e) { s with heap:=h' }):cameBackBy M A env E (.ref e) s:=by
 refine e5_5 (hh.2.2.2.choose_spec) fun oe vs T oT ts he hcls hd h1 _=>?_
 unfold cameBackBy
 refine wpAny_bind (wpAny_field he hd h1 ?_)
 rw [if_neg (show ¬ ((Value.ref T==Value.none)=true) from by simp)]
 first
  | exact wpAny_bind (wpAny_pure (bL4 _ hh hQ))
  | exact bL4 _ hh hQ
theorem bs4 {env:Env}{outer:List Env}{fl:Value}(hfr:A.frames=some (env::outer))(hl:s.heap.FunFrames base (env::outer))(hf:env.frame=some La)(ht:s.heap.TracedAtW base e cls a0 fl)(hkb:base.StaysIn s.heap)(hen:base.get? e=none)
  (h:∀ h',ba0 base (env::outer) e cls a0 h'→s.heap.UpToSlots h'→Q () { s with heap:=h' }):wpAny M A (noteFrame (.ref e) env) Q E s:=by
 have ht0:=ht
 refine e5_9 ht fun oe vs T oT ts he e_177 hd h1 hnT hTe hT hdT h3=>?_
 refine j4 e_177 fun hcls h0=>?_
 unfold noteFrame
 simp only [hf]
 refine wpAny_bind (wpAny_field he hd h1 ?_)
 rw [if_pos (show (Value.ref T != Value.none)=true from by simp)]
 refine wpAny_bind (wpAny_field hT hdT h3 ?_)
 cases hq:(fl==rawInt La) with
 | true =>
  rw [if_pos rfl]
  exact wpAny_pure (h s.heap ⟨hkb,hen,hl,fl,ht0⟩ (Heap.UpToSlots.refl _))
 | false =>
  rw [if_neg (by decide)]
  subst hcls
  refine wpAny_bind (wpAny_setField hT hdT (Array.getElem?_eq_some_iff.mp h3).1 ?_)
  have ot:∀ b,b≠T→(s.heap.update T (Obj.mapFields (·.setIfInBounds 3 Value.none))).get? b=s.heap.get? b:=fun b hb=>Heap.get?_update_other _ _ (Ne.symm hb)
  have nr:∀ b ob,s.heap.get? b=some ob→(∀ vs,ob.data≠.fields vs)→b≠T:=fun b ob hb hn q=>by
   rw [q,hT] at hb;cases hb;exact hn ts hdT
  refine wpAny_entryW hfr (hl.of_keeps fun b o hb hn=>⟨o,(ot b (nr b o hb hn)).trans hb,rfl⟩) hf ((ot e (Ne.symm hTe)).trans he)
   (fun b o hb=>(ot b fun q=>by rw [q,hnT] at hb;cases hb).trans (hkb b o hb)) hen hd (Array.getElem?_eq_some_iff.mp h1).1 h0
   fun h' ⟨x1,x2,x3,x4⟩=>h h' ⟨x1,hen,x2,_,x3⟩ fun b o hb hn=>x4 b o ((ot b (nr b o hb hn)).trans hb) hn
end
section
variable {D:Wd} {γ γ0:List Addr} {H H0:Hp} {s s1:Shared} {env:Env} {outer:List Env} {A:Around} {E:Value→Shared→Prop} {v:Value} {x:Exc} {La:Addr} {Q:Unit→Shared→Prop}
inductive ci0 (D:Wd)(γ:List Addr)(s s1:Shared)(v:Value)(x:Exc):Prop where
 | mk:∀ a oe vs C a0 ex,v=.ref a→D.mg x.cls=some (.ref C)→s.heap.get? a=none→a∈ex→ExF D γ s s1.heap ex→s1.heap.get? a=some oe→oe.cls=.ref C→oe.data=.fields vs→vs[0]? = some a0 →
   (vs[1]? = some .none∨∃ fl,s1.heap.TracedAtW (PySem.W.hideAll s1.heap ex) a (.ref C) a0 fl)→ci0 D γ s s1 v x
theorem b46 (R0:HRel D γ0 H0 s.heap)(R:HRel D γ H s1.heap)(hx:XNew D γ s s1.heap v x∨XFly D γ s s1.heap v x) :
  ci0 D γ s s1 v x:=by
 rcases hx with ⟨a,oe,vs,C,a0,e1,e2,e3,e4,e5,e6,e7,e8,na⟩|⟨a,oe,vs,C,a0,T,oT,ts,e1,e2,e3,e4,e5,e6,e7,e8,e9,e10,e11,e12,na,nT,fl,e13⟩
 ·refine ⟨a,oe,vs,C,a0,frA D++[a],e1,e5,e2,by simp,⟨fun b hb=>?_,fun b hb=>List.mem_append_left _ hb⟩,e3,e4,e6,e7,.inl e8⟩
  rcases List.mem_append.mp hb with q|q
  ·exact .inl q
  ·simp at q;subst q;exact .inr ⟨e2,r5 R0 e2,na,oe,vs,e3,e6⟩
 ·refine ⟨a,oe,vs,C,a0,frA D++[a,T],e1,e5,e2,by simp,⟨fun b hb=>?_,fun b hb=>List.mem_append_left _ hb⟩,e3,e4,e6,e7,.inr ⟨fl,oe,vs,T,oT,ts,e3,⟨e4,e7⟩,e6,e8,PySem.W.hideAll_none _ (by simp),e10,e11,e12,e13⟩⟩
  rcases List.mem_append.mp hb with q|q
  ·exact .inl q
  ·simp at q
   rcases q with q|q
   ·subst q;exact .inr ⟨e2,r5 R0 e2,na,oe,vs,e3,e6⟩
   ·subst q;exact .inr ⟨e9,r5 R0 e9,nT,oT,ts,e11,e12⟩
theorem am8 {h:Heap}{ex:List Addr}:(PySem.W.hideAll h ex).StaysIn h:=fun _ _ e=>PySem.W.of_hideAll _ e
theorem bw1 {h:Heap}{ex:List Addr}(F:FrsOk D γ h)(X:ExF D γ s h ex):h.FunFrames (PySem.W.hideAll h ex) D.fr:=bc4 fun e he=>by
 obtain ⟨k,L,o,a,b,_,c,d⟩:=F e he
 exact ⟨k,L,o,a,PySem.W.hideAll_none _ (X.frs L (List.mem_filterMap.mpr ⟨e,he,a⟩)),c,d⟩
theorem ar8 (hfr:A.frames=some D.fr)(R0:HRel D γ0 H0 s.heap)(R:HRel D γ H s1.heap)(htop:D.fr=env::outer)(hf:env.frame=some La)(hx:XNew D γ s s1.heap v x∨XFly D γ s s1.heap v x)
  (h:∀ a C a0 ex h',v=.ref a→D.mg x.cls=some (.ref C)→s.heap.get? a=none→a∈ex→ExF D γ s s1.heap ex→s1.heap.UpToSlots h'→ba0 (PySem.W.hideAll s1.heap ex) D.fr a (.ref C) a0 h'→Q () { s1 with heap:=h' }) :
  wpAny D.M A (noteFrame v env) Q E s1:=by
 obtain ⟨a,oe,vs,C,a0,ex,rfl,hm,hn,hax,X,he,hc,hd,h0,h1⟩:=b46 R0 R hx
 have F:=bw1 R.frs X
 have hen:(PySem.W.hideAll s1.heap ex).get? a=none:=PySem.W.hideAll_none _ hax
 have fin:∀ h',ba0 (PySem.W.hideAll s1.heap ex) D.fr a (.ref C) a0 h'→s1.heap.UpToSlots h'→Q () { s1 with heap:=h' }:=fun h' k1 k2=>h a C a0 ex h' rfl hm hn hax X k2 k1
 rw [htop] at F fin hfr
 rcases h1 with h1|⟨fl,h1⟩
 ·unfold noteFrame
  simp only [hf]
  refine wpAny_bind (wpAny_field he hd h1 ?_)
  rw [if_neg (by decide)]
  exact wpAny_entryW hfr F hf he am8 hen hd (Array.getElem?_eq_some_iff.mp h1).1 h0 (by rw [hc];exact fun h' ⟨k1,k2,k3,k4⟩=>fin h' ⟨k1,hen,k2,_,k3⟩ k4)
 ·exact bs4 hfr F hf h1 am8 hen fin
theorem a98 {ex:List Addr}{h':Heap}{a C:Addr}{a0 fl:Value}(back:∀ b,s1.heap.get? b=none→s.heap.get? b=none)(F:FrsOk D γ s1.heap)(nin:∀ b,s1.heap.get? b=none→b∉γ)(hna:a∉γ)(X:ExF D γ s s1.heap ex)(l:Land ex s1.heap h')(hm:D.mg x.cls=some (.ref C))(hn:s.heap.get? a=none)
  (t:h'.TracedAtW (PySem.W.hideAll s1.heap ex) a (.ref C) a0 fl):XFly D γ s h' (.ref a) x:=by
 refine e5_9 t fun oe vs T oT ts e1 e_179 e4 e5 e6 e7 e8 e9 e10=>?_
 refine j4 e_179 fun e2 e3=>?_
 have hT:s.heap.get? T=none∧T∉γ:=by
  by_cases hT:T∈ex
  ·rcases X.each T hT with q|⟨q,_,q2,_⟩
   ·obtain ⟨_,o,e,d⟩:=F.at q
    refine e1_1 (l.up T o e fun vs q=>d (m5 q)) fun sl e'=>?_
    rw [e8] at e'
    have hd:oT.data=o.data:=by rw [Option.some.inj e']
    exact absurd (m5 (hd▸e9)) d
   ·exact ⟨q,q2⟩
  ·have hz:s1.heap.get? T=none:=by
    cases e:s1.heap.get? T with
    | none=>rfl
    | some o=>rw [PySem.W.hideAll_get _ e hT] at e6;exact b9 e6.symm
   exact ⟨back T hz,nin T hz⟩
 exact ⟨a,oe,vs,C,a0,T,oT,ts,rfl,hn,e1,e2,hm,e4,e3,e5,hT.1,e7,e8,e9,hna,hT.2,fl,e10⟩
end
end Mine
namespace Mine
open PySem PyProof.Rows
noncomputable def Up (h h':Heap)(z:Addr):Prop:=∀ o,h.get? z=some o→∃ sl,h'.get? z=some { o with slots:=sl }∧(az1 o→sl=o.slots)
theorem Up.of {h h':Heap}{z:Addr}(hk:∀ o,h.get? z=some o→h'.get? z=some o):Up h h' z:=fun o e=>⟨o.slots,hk o e,fun _=>rfl⟩
theorem Up.ns {h h':Heap}{z:Addr}{m:Str→Option Value}(u:Up h h' z)(n:h.Ns z m):h'.Ns z m:=by
 refine e3_2 n fun o es ep ho r=>?_
 refine e1_2 (u o ho) fun sl e' _=>?_
 exact ⟨_,es,ep,e',r⟩
theorem Up.cell {h h':Heap}{z:Addr}{v:Option Value}(u:Up h h' z)(n:h.IsCell z v):h'.IsCell z v:=by
 refine e1_2 n fun o ho d=>?_
 refine e1_2 (u o ho) fun sl e' _=>?_
 exact ⟨_,e',d⟩
theorem Up.then {h h' h2:Heap}{z:Addr}(u:Up h h' z)(hk:∀ o,h'.get? z=some o→h2.get? z=some o):Up h h2 z:=fun o e=>let ⟨sl,e',q⟩:=u o e; ⟨sl,hk _ e',q⟩
noncomputable def VOk (cenv:Env)(x:Str)(z:Addr)(h:Heap)(P:Option Value→Prop):Prop :=
 (cenv.kindOf x=some .local∧z=cenv.locals∧∃ m,h.Ns z m∧P (m x))∨(cenv.kindOf x=some .cell∧cenv.cells.lookup x=some z∧∃ u,h.IsCell z u∧P u)
theorem VOk.at {cenv:Env}{x:Str}{z:Addr}{h h':Heap}{P:Option Value→Prop}(hk:Up h h' z):VOk cenv x z h P→VOk cenv x z h' P
 | .inl ⟨a,b,m,n,p⟩=>.inl ⟨a,b,m,hk.ns n,p⟩
 | .inr ⟨a,b,u,n,p⟩=>.inr ⟨a,b,u,hk.cell n,p⟩
theorem VOk.any {cenv:Env}{x:Str}{z:Addr}{h:Heap}{P:Option Value→Prop}:VOk cenv x z h P→VOk cenv x z h (fun _=>True)
 | .inl ⟨a,b,m,n,_⟩=>.inl ⟨a,b,m,n,trivial⟩
 | .inr ⟨a,b,u,n,_⟩=>.inr ⟨a,b,u,n,trivial⟩
theorem VOk.there {cenv:Env}{x:Str}{z:Addr}{h:Heap}{P:Option Value→Prop}:VOk cenv x z h P→(∃ o,h.get? z=some o)∧∀ ws,¬ TupAt h z ws
 | .inl ⟨_,_,m,⟨o,es,ep,e,d,_⟩,_⟩=>⟨⟨o,e⟩,fun ws ⟨k,e',_⟩=>by rw [e] at e';rw [Option.some.inj e'] at d;cases d⟩
 | .inr ⟨_,_,u,⟨o,e,d⟩,_⟩=>⟨⟨o,e⟩,fun ws ⟨k,e',_⟩=>by rw [e] at e';rw [Option.some.inj e'] at d;cases d⟩
theorem VOk.loc {cenv:Env}{x:Str}{z:Addr}{h h':Heap}{P P':Option Value→Prop}(v:VOk cenv x z h P)(v':VOk cenv x z h' P')(hn:∃ m,h.Ns cenv.locals m)(hs:∀ b o,b≠z→h.get? b=some o→h'.get? b=some o):∃ m,h'.Ns cenv.locals m:=by
 rcases v' with ⟨_,b,m,n,_⟩|⟨a,_,_⟩
 ·rw [←b];exact ⟨m,n⟩
 ·rcases v with ⟨a',_⟩|⟨_,_,u,⟨o,e,d⟩,_⟩
  ·rw [a'] at a;cases a
  ·refine e1_1 hn fun m n=>?_
   refine ⟨m,n.at' fun o' e'=>hs _ o' (fun q=>?_) e'⟩
   refine e3_3 n fun o2 es ep e2 d2 _=>?_
   rw [q,e] at e2
   rw [Option.some.inj e2,d2] at d;cases d
theorem aY5 {M:Model}{A:Around}{E:Value→Shared→Prop}{s:Shared}{cenv:Env}{x:Str}{z:Addr}{v:Value}{P:Option Value→Prop}{Q:Unit→Shared→Prop}(hf:cenv.scope.kind=.function)(h:VOk cenv x z s.heap P)
  (hQ:∀ h' tk,VOk cenv x z h' (· = some v)→(∀ b o,b≠z→s.heap.get? b=some o→h'.get? b=some o)→Q () { s with heap:=h',toks:=tk }):wpAny M A (storeName cenv x v) Q E s:=by
 rcases h with ⟨a,rfl,m,n,_⟩|⟨a,b,u,n,_⟩
 ·exact wpAny_storeName_local a n (fun h' hn hs=>hQ h' _ (.inl ⟨a,rfl,_,hn,if_pos rfl⟩) fun b o hb e=>hs.extBut b o hb e) (by rw [hf];rfl)
 ·exact wpAny_storeName_cell hf a b n fun h' hn hs=>hQ h' _ (.inr ⟨a,b,_,hn,rfl⟩) fun b o hb e=>hs.extBut b o hb e
structure bE2 (D:Wd)(A:Around)(env cenv:Env)(slots slots':List (Str × Nat))(tgt:Expr)(L:Lc)(bd:V→Option Lc)(C z:Addr)(var:Heap→Prop)(vw:List Addr→V→Heap→Prop):Prop where
 mv:∀ h h',Up h h' z→var h→var h'
 there:∀ h,var h→(∃ o,h.get? z=some o)∧∀ ws,¬ TupAt h z ws
 loc:∀ h h',var h→var h'→(∃ m,h.Ns C m)→(∀ b o,b≠z→h.get? b=some o→h'.get? b=some o)→∃ m,h'.Ns C m
 asg:∀ (γ:List Addr) (s:Shared) (v:Value) (W:V) (L1:Lc) (Q:Unit→Shared→Prop) (E:Value→Shared→Prop),bd W=some L1→var s.heap→Rep D γ s.heap v W→(∀ h' tk,var h'→vw γ W h'→(∀ b o,b≠z→s.heap.get? b=some o→h'.get? b=some o)→Q () { s with heap:=h',toks:=tk })→wpAny D.M A (assign tgt cenv v) Q E s
 mkL:∀ (γ:List Addr) (h:Heap) (W:V) (L1:Lc),bd W=some L1→(∃ m,h.Ns C m)→vw γ W h→LRel D γ env slots h L→C∉γ→z∉γ→LRel D γ cenv slots' h L1
 go:∀ (γ:List Addr) (I:Addr) (s:Shared) (v:Value) (W:V) (L1:Lc) (Q:Unit→Shared→Prop) (E:Value→Shared→Prop),bd W=some L1→Rep D γ s.heap v W→(∀ elts x1 pos T,wpAny D.M A (letOwnedTupleGo (.Tuple elts x1 pos) (.ref I) (.ref T)) Q E s)→Q () s→wpAny D.M A (letOwnedTupleGo tgt (.ref I) v) Q E s
structure CInv (D:Wd)(var:Heap→Prop)(z:Addr)(γ:List Addr)(s:Shared)(Dd C:Addr)(fp:List Addr)(Inv:List Addr→Nat→Heap→Prop)(i:Nat)(acc:List V)(γ':List Addr)(H':Hp)(s':Shared):Prop where
 stp:Stp [] γ γ' s s'
 rel:HRel D γ' H' s'.heap
 out:∃ ys n,s'.heap.get? Dd=some { cls:=.type "list",data:=.seq ys.toArray n }∧Reps D γ' s'.heap ys acc
 dnin:Dd∉γ'
 loc:∃ m,s'.heap.Ns C m
 cnin:C∉γ'
 var:var s'.heap
 znin:z∉γ'
 inv:Inv γ' i s'.heap
 fps:∀ b∈fp,b∉γ'∧∃ o,s'.heap.get? b=some o
structure cj6 (D:Wd)(s:Shared)(Dd C I z:Addr)(fp:List Addr):Prop where
 d0:s.heap.get? Dd=none
 c0:s.heap.get? C=none
 i0:s.heap.get? I=none
 dc:Dd≠C
 df:Dd∉fp
 cf:C∉fp
 z0:s.heap.get? z=none
 dz:Dd≠z
 zf:z∉fp
theorem A5 {h:Heap}{C:Addr}{m:Str→Option Value}(n:h.Ns C m)(ws:List Value):¬ TupAt h C ws:=fun x=>by
 refine e3_3 n fun o es ep e d _=>?_
 refine e1_2 x fun k e' _=>?_
 rw [e] at e';cases e';cases d
theorem aB9 {h:Heap}{C:Addr}{vs:List Value}{n:Nat}(e:h.get? C=some { cls:=.type "list",data:=.seq vs.toArray n })(ws:List Value):¬ TupAt h C ws:=fun x=>by
 refine e1_2 x fun k e' _=>?_
 rw [e] at e';simp at e'
theorem Stp.change {γ γ':List Addr}{s s':Shared}{h':Heap}{tk:Nat}{z:Addr}(t:Stp [] γ γ' s s')(hk:∀ b o,b≠z→s'.heap.get? b=some o→h'.get? b=some o)(hz:s.heap.get? z=none):Stp [] γ γ' s { s' with heap:=h',toks:=tk }:=by
 refine ⟨?_,fun b o hb hw e=>let ⟨sl,e',q⟩:=t.keepS b o hb hw e; ⟨sl,hk b _ (by rintro rfl;rw [hz] at e;exact b9 e) e',q⟩,t.ext⟩
 refine e2_1 (t.same) fun h1 t1 e_180=>?_
 obtain rfl:=e_180
 exact ⟨_,_,rfl⟩
section
variable {D:Wd} {Φ:Orc} {k:Nat} {c:CC}
noncomputable def elW (Φ:Orc)(ielt:IE)(tst:Option IE):Lc→Hp→(Option V→Hp→Prop)→Prop:=match tst with
 | none=>fun L H K=>(wp2 Φ ielt).E L H (fun v H2=>K (some v) H2) noX
 | some t=>fun L H K=>(wp2 Φ t).T L H (fun c H1=>ifP c ((wp2 Φ ielt).E L H1 (fun v H2=>K (some v) H2) noX) (K none H1)) noX
noncomputable def bx7 (n:Nat)(c':CC)(ifs:List Expr)(tst:Option IE):Prop:=(ifs=[]∧tst=none)∨∃ e ie,ifs=[e]∧tst=some ie∧g8 n c' e=some ie
theorem bm3 {prog:Program}{w:World}{A:Around}{s:Shared}{elt target iter:Expr}{ifs:List Expr}{scope:Scope}{pos:Pos}{it acc:Value}{env:Env}{R:Result→Shared→Prop}(I:Nat→Shared→Prop)
  (turn:∀ n s,I n s→wpAny (model prog w) A (pyNext it) (fun r s₁=>match r with
   | none=>R (.ok .next) s₁
   | some v=>wpAny (model prog w) A (letOwnedTupleGo target it v) (fun _ s₀=>wpAny (model prog w) A (assign target env v) (fun _ s₂ =>
     wpAny (model prog w) A (forIn ifs true fun c r=>if r=true then do let ok ← isTrue c env (eval c env);pure (ForInStep.yield ok) else pure (ForInStep.yield r)) (fun ok s₃=>if ok=true then wpAny (model prog w) A (eval elt env) (fun x s₄ =>
      wpAny (model prog w) A (call (.builtin "list.append") [acc,x]) (fun _ s₅=>∃ m,m<n∧I m s₅) (notedBy (model prog w) A env fun e s'=>R (.error e) s') s₄) (notedBy (model prog w) A env fun e s'=>R (.error e) s') s₃
      else ∃ m,m<n∧I m s₃) (notedBy (model prog w) A env fun e s'=>R (.error e) s') s₂)
     (notedBy (model prog w) A env fun e s'=>R (.error e) s') s₀) (notedBy (model prog w) A env fun e s'=>R (.error e) s') s₁) (notedBy (model prog w) A env fun e s'=>R (.error e) s') s)
  (n:Nat) (h:I n s):codeAny (model prog w) A (.compLoop (.ListComp elt [⟨target,iter,ifs,0⟩] scope pos) 0 it acc env) R s:=by
 refine codeAny_loop rfl I (fun n s hI=>?_) n h
 show wpAny _ A ((compTurn (.ListComp elt [⟨target,iter,ifs,0⟩] scope pos) 0 it acc env).onRaise (fun x=>do noteFrame x env;theTreesLotGoes x)) _ _ s
 refine wpAny_noted ?_
 rw [compTurn_list]
 refine wpAny_bind (wpAny_standAt (wpAny_bind (wpAny_mono (turn n s hI) (fun r s₁ h₁=>?_) fun _ _ h'=>h')))
 cases r with
 | none=>exact wpAny_pure h₁
 | some v =>
  refine wpAny_bind (wpAny_mono h₁ (fun _ s₀ h₀'=>?_) fun _ _ h'=>h')
  refine wpAny_bind (wpAny_mono h₀' (fun _ s₂ h₂=>?_) fun _ _ h'=>h')
  refine wpAny_bind (wpAny_mono h₂ (fun okb s₃ h₃=>?_) fun _ _ h'=>h')
  cases okb with
  | false=>exact wpAny_pure ⟨rfl,h₃⟩
  | true=>exact wpAny_bind (wpAny_bind (wpAny_mono h₃ (fun x s₄ h₄=>wpAny_bind (wpAny_mono h₄ (fun _ s₅ h₅=>wpAny_pure (wpAny_pure ⟨rfl,h₅⟩)) fun _ _ h'=>h')) fun _ _ h'=>h'))
theorem CInv.run {var:Heap→Prop}{z:Addr}{γ γ' γ4:List Addr}{H' H4:Hp}{s s3 s4:Shared}{Dd C:Addr}{fp:List Addr}{Inv:List Addr→Nat→Heap→Prop}{i:Nat}{acc:List V}{A:Around}{env cenv:Env}{slots slots':List (Str × Nat)}{tgt:Expr}{L:Lc}{bd:V→Option Lc}{vw:List Addr→V→Heap→Prop}{I:Addr}{l:List V}{st:Hp→Prop}
  (it:Itr D A I fp l st Inv) (tg:bE2 D A env cenv slots slots' tgt L bd C z var vw) (ci:CInv D var z γ s Dd C fp Inv i acc γ' H' s3) (st4:Stp [] γ' γ4 s3 s4) (R4:HRel D γ4 H4 s4.heap):CInv D var z γ s Dd C fp Inv i acc γ4 H4 s4:=by
 have R2:=ci.rel
 refine e2_2 (ci.out) fun ys ny hy2 ry2=>?_
 have t4:∀ a ws,TupAt s3.heap a ws→TupAt s4.heap a ws:=fun a ws q=>q.stp R2 st4 (fun _ h=>nomatch h)
 have ext4:∃ δ,γ4=γ'++δ:=let ⟨δ,e,_⟩:=st4.ext; ⟨δ,e⟩
 have fr2:∀ b∈fp,∀ o,s3.heap.get? b=some o→az1 o:=fun b hb o e=>it.nd γ' i s3.heap ci.inv b hb o e
 refine ⟨ci.stp.trans0 R2 st4,R4,⟨ys,ny,st4.keep _ _ ci.dnin (fun h=>nomatch h) (O7 rfl) hy2,Reps.mono ext4 t4 ry2⟩,E1 st4 ci.dnin hy2,?_,?_,tg.mv _ _ (fun o e=>st4.keepS _ o ci.znin (fun h=>nomatch h) e) ci.var,?_,?_,?_⟩
 ·refine e1_1 (ci.loc) fun m n=>?_
  exact ⟨m,st4.ns ci.cnin (fun h=>nomatch h) n⟩
 ·obtain ⟨m,o,es,ep,e,_⟩:=ci.loc
  exact E1 st4 ci.cnin e
 ·refine e1_1 ((tg.there _ ci.var).1) fun o e=>?_
  exact E1 st4 ci.znin e
 ·exact it.frame γ' γ4 i s3.heap s4.heap ci.inv ext4 (fun b hb o e=>st4.keep b o (ci.fps b hb).1 (fun h=>nomatch h) (fr2 b hb o e) e) t4
 ·intro b hb
  obtain ⟨a,o,e⟩:=ci.fps b hb
  exact ⟨E1 st4 a e,o,st4.keep b o a (fun h=>nomatch h) (fr2 b hb o e) e⟩
theorem aY3 {n:Nat}{elt iter tgt:Expr}{ifs:List Expr}{pos:Pos}{scope:Scope}{ielt:IE}{tst:Option IE}{c':CC}{env cenv:Env}{A:Around}{L:Lc}{γ:List Addr}{H:Hp}{s:Shared}{Dd C I z:Addr}{fp:List Addr}
  {l:List V} {st:Hp→Prop} {Inv:List Addr→Nat→Heap→Prop} {K:List V→Hp→Prop} {Rr:Result→Shared→Prop} {bd:V→Option Lc} {var:Heap→Prop} {vw:List Addr→V→Heap→Prop}
  (hE':s8 c' cenv) (hA:AOk D k A) (R0:HRel D γ H s.heap) (lr:LRel D γ env c.slots s.heap L)
  (ihe:∀ e ie,g8 n c' e=some ie→Q0 D Φ k c' e ie) (hce:g8 n c' elt=some ielt) (hts:bx7 n c' ifs tst)
  (F:cj6 D s Dd C I z fp) (it:Itr D A I fp l st Inv) (tg:bE2 D A env cenv c.slots c'.slots tgt L bd C z var vw)
  (fin:∀ γ' H' s' acc,CInv D var z γ s Dd C fp Inv l.length acc γ' H' s'→K acc H'→∀ h' tk,(∀ b o,b≠I→s'.heap.get? b=some o→h'.get? b=some o)→Rr (.ok .next) { s' with heap:=h',toks:=tk }) :
  ∀ (i:Nat) (acc:List V) (γ':List Addr) (H':Hp) (s':Shared),i≤l.length→acc.length≤i→l.length≤2000000→CInv D var z γ s Dd C fp Inv i acc γ' H' s'→st H' →
   u7 (elW Φ ielt tst) st bd (l.drop i) acc H' K →
   codeAny D.M A (.compLoop (.ListComp elt [⟨tgt,iter,ifs,0⟩] scope pos) 0 (.ref I) (.ref Dd) cenv) Rr s':=by
 intro i acc γ' H' s' hi hacc hlen ci hst cg
 obtain ⟨J,J1,J2⟩:∃ J:Nat→Shared→Prop,(∀ i acc γ' H' s',i≤l.length→acc.length≤i→CInv D var z γ s Dd C fp Inv i acc γ' H' s'→st H'→u7 (elW Φ ielt tst) st bd (l.drop i) acc H' K→J (l.length-i) s') ∧
   ∀ m s',J m s'→∃ i acc γ' H',m=l.length-i∧i≤l.length∧acc.length≤i∧CInv D var z γ s Dd C fp Inv i acc γ' H' s'∧st H'∧u7 (elW Φ ielt tst) st bd (l.drop i) acc H' K :=
  ⟨fun m s'=>∃ i acc γ' H',m=l.length-i∧i≤l.length∧acc.length≤i∧CInv D var z γ s Dd C fp Inv i acc γ' H' s'∧st H'∧u7 (elW Φ ielt tst) st bd (l.drop i) acc H' K,fun i acc γ' H' s' h1 h2 h3 h4 h5=>⟨i,acc,γ',H',rfl,h1,h2,h3,h4,h5⟩,fun _ _ h=>h⟩
 refine bm3 J ?_ _ (J1 i acc γ' H' s' hi hacc ci hst cg)
 clear cg ci hacc hi hst i acc γ' H' s'
 intro m s' h
 refine e4_6 (J2 m s' h) fun i acc γ' H' e_181 hi hacc ci hst cg=>?_
 obtain rfl:=e_181
 clear h J2
 have hIg:I∉γ':=(ci.fps I it.mem).1
 have hIB:=r5 R0 F.i0
 have hDB:=r5 R0 F.d0
 have hCI:C≠I:=fun q=>F.cf (q▸it.mem)
 have hzI:z≠I:=fun q=>F.zf (q▸it.mem)
 have hzB:=r5 R0 F.z0
 have hDI:Dd≠I:=fun q=>F.df (q▸it.mem)
 by_cases hlt:i<l.length
 ·have hW:l[i]? = some l[i]:=by simp [hlt]
  have hdrop:l.drop i=l[i]::l.drop (i+1):=List.drop_eq_getElem_cons hlt
  rw [hdrop] at cg
  refine e1_2 (d8 (show oK (bd l[i]) _ from cg)) fun L1 hL1 cg=>?_
  refine it.next γ' H' s' i _ _ _ hW ci.rel hIg hst ci.inv fun v h1 tk1 hI1 hk1 iv1 rv1=>?_
  have nt1:=fun ws=>it.notTup γ' i s'.heap ws ci.inv
  have R1:HRel D γ' H' h1:=ci.rel.but hk1 hIg hIB nt1 (.inr (.inr (R0.frs.ne F.i0)))
  have v1:var h1:=tg.mv _ _ (.of fun o e=>hk1 _ o hzI e) ci.var
  refine (fun main=>tg.go γ' I { s' with heap:=h1,toks:=tk1 } v l[i] L1 _ _ hL1 rv1 (fun elts x1 pos T=>it.own γ' (i+1) _ T elts x1 pos _ _ iv1 main) main) ?_
  refine tg.asg γ' { s' with heap:=h1,toks:=tk1 } v l[i] L1 _ _ hL1 v1 rv1 fun h2 tk2 v2 vw2 hk2=>?_
  dsimp only at hk2 ⊢
  have loc2:∃ m,h2.Ns C m:=tg.loc _ _ v1 v2 (let ⟨m,n⟩:=ci.loc; ⟨m,n.at' fun o e=>hk1 _ o hCI e⟩) hk2
  have nt2:=(tg.there _ v1).2
  have R2:HRel D γ' H' h2:=R1.but hk2 ci.znin hzB nt2 (.inr (.inr (R0.frs.ne F.z0)))
  have t2:∀ a ws,TupAt s'.heap a ws→TupAt h2 a ws:=fun a ws q=>k7 hk2 nt2 (k7 hk1 nt1 q)
  have stp2:Stp [] γ γ' s { s' with heap:=h2,toks:=tk2 }:=((ci.stp.change (tk:=tk1) hk1 F.i0).change (tk:=tk2) hk2 F.z0)
  have lrs:LRel D γ' env c.slots h2 L:=lr.stp R0 stp2
  have l2:=tg.mkL γ' h2 l[i] L1 hL1 loc2 vw2 lrs ci.cnin ci.znin
  have iv2:Inv γ' (i+1) h2:=it.frame γ' γ' (i+1) h1 h2 iv1 ⟨[],by simp⟩ (fun b hb o e=>hk2 b o (fun q=>F.zf (q▸hb)) e) (fun a ws q=>k7 hk2 nt2 q)
  have fp2:∀ b∈fp,b∉γ'∧∃ o,h2.get? b=some o:=fun b hb=>by
   refine ⟨(ci.fps b hb).1,?_⟩
   refine e1_1 ((ci.fps b hb).2) fun o e=>?_
   by_cases hbI:b=I
   ·subst hbI;obtain ⟨o',e'⟩:=hI1;exact ⟨o',hk2 _ _ (Ne.symm hzI) e'⟩
   ·exact ⟨o,hk2 _ _ (fun q=>F.zf (q▸hb)) (hk1 _ _ hbI e)⟩
  refine e2_2 (ci.out) fun ys ny hy ry=>?_
  have ci2:CInv D var z γ s Dd C fp Inv (i+1) acc γ' H' { s' with heap:=h2,toks:=tk2 }:=⟨stp2,R2,⟨ys,ny,hk2 _ _ F.dz (hk1 _ _ hDI hy),Reps.mono ⟨[],by simp⟩ t2 ry⟩,ci.dnin,loc2,ci.cnin,v2,ci.znin,iv2,fp2⟩
  clear v1 nt2 R1 hk2 vw2 lrs t2 nt1 hk1 rv1 iv1 hI1 stp2 iv2 fp2 hy ry loc2 v2 ci
  obtain ⟨s3,hs3⟩:∃ s3:Shared,s3 = { s' with heap:=h2,toks:=tk2 }:=⟨_,rfl⟩
  rw [←hs3] at ci2 ⊢
  have hh:h2=s3.heap:=by rw [hs3]
  clear hs3
  subst hh
  have skip:∀ {γ4 H4 s4},CInv D var z γ s Dd C fp Inv (i+1) acc γ4 H4 s4→(st H4∧u7 (elW Φ ielt tst) st bd (l.drop (i+1)) (acc++(none:Option V).toList) H4 K)→∃ m,m<l.length-i∧J m s4:=fun {γ4 H4 s4} c4 q4=>⟨l.length-(i+1),by lia,J1 (i+1) acc γ4 H4 s4 hlt (by lia) c4 q4.1 (by have:=q4.2;rw [show acc++(none:Option V).toList=acc from List.append_nil acc] at this;exact this)⟩
  have run:∀ {γ3:List Addr} {H3:Hp} {s3:Shared},CInv D var z γ s Dd C fp Inv (i+1) acc γ3 H3 s3→LRel D γ3 cenv c'.slots s3.heap L1→(wp2 Φ ielt).E L1 H3 (fun v H2=>st H2∧u7 (elW Φ ielt tst) st bd (l.drop (i+1)) (acc++(some v:Option V).toList) H2 K) noX →
    wpAny D.M A (eval elt cenv) (fun x s₄=>wpAny D.M A (call (.builtin "list.append") [.ref Dd,x]) (fun _ s₅=>∃ m,m<l.length-i∧J m s₅) (notedBy D.M A cenv fun e s'=>Rr (.error e) s') s₄) (notedBy D.M A cenv fun e s'=>Rr (.error e) s') s3:=fun {γ3 H3 s3} c3 l3 w3=>by
   refine wpAny_mono ((ihe elt ielt hce).1 cenv A γ3 H3 s3 _ _ noX hE' hA c3.rel l3 w3) (fun y s4 p=>?_) (fun _ _ p=>p.no.elim)
   obtain ⟨γ4,Y,H4,st4,R4,ryv,q4⟩:=p
   have c4:=c3.run it tg st4 R4
   refine e2_2 (c4.out) fun ys ny hy4 ry4=>?_
   have hyl:=ry4.length
   refine wpAny_list_append_plain (items:=ys.toArray) ⟨ny,hy4⟩ (fun h5 hp5 hs5=>?_) (by rw [sizeLine_eq];show ys.length≤_;lia)
   have hk5:∀ b o,b≠Dd→s4.heap.get? b=some o→h5.get? b=some o:=fun b o hb e=>hs5.extBut b o hb e
   have nt5:=aB9 hy4
   have t5:∀ a ws,TupAt s4.heap a ws→TupAt h5 a ws:=fun a ws q=>k7 hk5 nt5 q
   refine e1_1 hp5 fun n5 e5=>?_
   have em:ys.toArray.push y=(ys++[y]).toArray:=by simp
   rw [em] at e5
   refine ⟨l.length-(i+1),by lia,J1 (i+1) (acc++[Y]) γ4 H4 _ hlt (by rw [List.length_append,List.length_singleton];lia) ?_ q4.1 q4.2⟩
   refine ⟨c4.stp.change (tk:=s4.toks) hk5 F.d0,R4.but hk5 c4.dnin hDB nt5 (.inr (.inr (R0.frs.ne F.d0))),⟨ys++[y],n5,e5,Reps.mono ⟨[],by simp⟩ t5 (ry4.append (Reps.one ryv))⟩,c4.dnin,?_,c4.cnin,tg.mv _ _ (.of fun o e=>hk5 _ o (Ne.symm F.dz) e) c4.var,c4.znin,?_,?_⟩
   ·refine e1_1 (c4.loc) fun m n=>?_
    exact ⟨m,n.at' fun o e=>hk5 _ o (Ne.symm F.dc) e⟩
   ·exact it.frame γ4 γ4 (i+1) s4.heap h5 c4.inv ⟨[],by simp⟩ (fun b hb o e=>hk5 b o (fun q=>F.df (q▸hb)) e) t5
   ·intro b hb
    obtain ⟨a,o,e⟩:=c4.fps b hb
    exact ⟨a,o,hk5 b o (fun q=>F.df (q▸hb)) e⟩
  rcases hts with ⟨rfl,rfl⟩|⟨te,ti,rfl,rfl,hct⟩
  ·exact wpAny_tests_nil (run ci2 l2 cg)
  ·refine wpAny_tests_one (wpAny_mono ((ihe te ti hct).2 cenv A γ' H' s3 L1 _ noX hE' hA ci2.rel l2 cg) (fun b s4 p=>?_) fun _ _ p=>p.no.elim)
   obtain ⟨γ4,H4,st4,R4,q4⟩:=p
   have c4:=ci2.run it tg st4 R4
   cases b with
   | true=>exact run c4 (l2.stp ci2.rel st4) q4
   | false=>exact skip c4 q4
 ·have hin:i=l.length:=by lia
  subst hin
  rw [List.drop_length] at cg
  exact it.done γ' H' s' _ _ ci.rel hst ci.inv fun h1 tk1 hk1=>fin γ' H' s' acc ci cg h1 tk1 hk1
end
end Mine
namespace Mine
open PySem PyProof.Rows
section
variable {D:Wd} {Φ:Orc} {k:Nat} {c:CC}
theorem ah7 {L:Lc}{n:Nat}{y v:V}(h:(L.set n (some y))[n]? = some (some v)):v=y:=by
 by_cases hn:n<L.length
 ·rw [List.getElem?_set_self hn] at h
  exact (Option.some.inj (Option.some.inj h)).symm
 ·rw [List.getElem?_eq_none_iff.mpr (by rw [List.length_set];exact Nat.le_of_not_lt hn)] at h;exact b9 h
theorem HRel.adoptList {γ:List Addr}{H:Hp}{vs:List Value}{l:List V}{h:Heap}{a:Addr}{n:Nat}(R:HRel D γ H h)(r:Reps D γ h vs l)(hz:l.length≤2000000)
  (hn:a∉γ) (hB:D.hB.get? a=none) (hf:∀ e∈D.fr,e.frame≠some a) (ha:h.get? a=some { cls:=.type "list",data:=.seq vs.toArray n }):HRel D (γ++[a]) (H++[.list l]) h :=
 R.adopt hn hB hf ⟨vs,n,ha,Reps.mono ⟨_,rfl⟩ (fun _ _ x=>x) r,by rw [r.length];exact hz⟩
theorem PostV.adopt {γ γ':List Addr}{H H':Hp}{s s':Shared}{Q:V→Hp→Prop}{vs:List Value}{l:List V}{h':Heap}{a:Addr}{n tk:Nat}(R0:HRel D γ H s.heap)(st:Stp [] γ γ' s { s' with heap:=h',toks:=tk })(R:HRel D γ' H' h')(r:Reps D γ' h' vs l)(hz:l.length≤2000000)
  (hn:a∉γ') (h0:s.heap.get? a=none) (hB:D.hB.get? a=none) (ha:h'.get? a=some { cls:=.type "list",data:=.seq vs.toArray n }) (h:Q (.ref H'.length) (H'++[.list l])) :
  PostV D γ s Q (.ref a) { s' with heap:=h',toks:=tk }:=by
 refine ⟨γ'++[a],.ref H'.length,H'++[.list l],⟨st.same,st.keepS,?_⟩,R.adoptList r hz hn hB (R0.frs.ne h0) ha,?_,h⟩
 ·refine e1_2 (st.ext) fun δ e f=>?_
  refine ⟨δ++[a],by rw [e];simp,fun b hb=>?_⟩
  rcases List.mem_append.mp hb with q|q
  ·exact f b q
  ·simp at q;subst q;exact h0
 ·exact Exists.intro _ ⟨by rw [List.getElem?_append_right (by rw [R.len];exact Nat.le_refl _)];simp [R.len],rfl⟩
structure au6 (c:CC)(scope:Scope)(x:Str):Prop where
 kind:scope.kind=.function
 locs:∀ y∈scope.names,y.2=.local→scope.names.lookup y.1=some .local
 frees:∀ y∈scope.names,y.2=.free→c.scope.names.lookup y.1=some .cell
 var:(scope.names.lookup x=some .local∧scope.names.filter I2=[])∨(scope.names.lookup x=some .cell∧scope.names.filter I2=[(x,.cell)])
 own:∀ y,(y,NameKind.local)∈scope.names→y=x∨c.slots.lookup y=none
 low:∀ y i,c.slots.lookup y=some i→i<c.nxt
noncomputable abbrev inner (c:CC)(scope:Scope)(x:Str):CC:=aH8 c scope x
theorem y6 {scope:Scope}{env:Env}(he:s8 c env):relabel scope env=aa9 scope c.scope:=by
 rw [←he.scope];rfl
theorem aS8 {scope:Scope}{x:Str}{env:Env}(he:s8 c env)(ok:au6 c scope x)(cl:List (Str × Addr))(C:Addr):s8 (inner c scope x) (compEnvC scope cl C env) :=
 ⟨y6 he,ok.kind,he.globals,he.builtins⟩
theorem aJ2 {scope:Scope}{x:Str}{env:Env}{L:Lc}{C z:Addr}{n:Nat}(he:s8 c env)(ok:au6 c scope x) :
  ∀ γ' h W v,(∃ m,h.Ns C m)→VOk (compEnvC scope (cellsFrom n scope.names (l8 env scope.names [])) C env) x z h (· = some v)→Rep D γ' h v W→LRel D γ' env c.slots h L→C∉γ'→z∉γ'→LRel D γ' (compEnvC scope (cellsFrom n scope.names (l8 env scope.names [])) C env) (inner c scope x).slots h (L.set c.nxt (some W)):=by
 intro γ' h W v hn hv rv lr hC hz
 have hrl:∀ y,(compEnvC scope (cellsFrom n scope.names (l8 env scope.names [])) C env).kindOf y=(aa9 scope c.scope).names.lookup y:=fun y=>by
  show (relabel scope env).names.lookup y=_
  rw [y6 he]
 have slot:∀ {y:Str} {i:Nat} {V:V},y=x→(inner c scope x).slots.lookup y=some i→(L.set c.nxt (some W))[i]? = some (some V)→V=W:=fun {y i V} e hs hL=>by
  have hs':((x,c.nxt)::c.slots).lookup y=some i:=hs
  rw [List.lookup_cons,beq_iff_eq.mpr e] at hs'
  obtain rfl:=Option.some.inj hs'
  exact ah7 hL
 have slotN:∀ {y:Str} {i:Nat},y≠x→(inner c scope x).slots.lookup y=some i→c.slots.lookup y=some i:=fun {y i} e hs=>by
  have hs':((x,c.nxt)::c.slots).lookup y=some i:=hs
  rw [List.lookup_cons,beq_eq_false_iff_ne.mpr e] at hs'
  exact hs'
 have own:∀ (m:Str→Option Value),h.Ns C m→((aa9 scope c.scope).names.lookup x=some .local→m x=some v)→LRel D γ' (compEnvC scope (cellsFrom n scope.names (l8 env scope.names [])) C env) (inner c scope x).slots h (L.set c.nxt (some W)):=fun m hm hx=>by
  refine ⟨⟨m,hm,fun y i V hy hs hL=>?_⟩,fun y hy=>?_,hC,lr.tp⟩
  ·rw [hrl] at hy
   by_cases hxy:y=x
   ·obtain rfl:=slot hxy hs hL
    rw [hxy] at hy ⊢
    exact ⟨v,hx hy,rv⟩
   ·rcases ok.own y (ag4 hy) with q|q
    ·exact absurd q hxy
    ·rw [slotN hxy hs] at q;exact b9 q.symm
  ·rw [hrl] at hy
   by_cases hxy:y=x
   ·subst hxy
    rcases hv with ⟨a,_⟩|⟨_,b,u,hu,rfl⟩
    ·rw [hrl,hy] at a;cases a
    ·exact ⟨z,some v,b,hu,hz,fun i V hs hL=>⟨v,rfl,slot rfl hs hL▸rv⟩⟩
   ·have nc:(y,NameKind.cell)∉scope.names:=fun hm=>by
     have hm':(y,NameKind.cell)∈scope.names.filter I2:=List.mem_filter.mpr ⟨hm,rfl⟩
     rcases ok.var with ⟨_,q⟩|⟨_,q⟩
     ·rw [q] at hm';exact nomatch hm'
     ·rw [q] at hm';exact hxy (congrArg Prod.fst (List.mem_singleton.mp hm'))
    refine j4 ((an4 hy).resolve_left nc) fun hf ho=>?_
    have hk:env.kindOf y=some .cell:=by unfold Env.kindOf;rw [he.scope];exact ho
    refine e2_4 (lr.cel y hk) fun ca u e1 e2 e3 e4=>?_
    have hcl:(cellsFrom n scope.names (l8 env scope.names [])).lookup y=some ca:=by
     rcases ok.var with ⟨_,q⟩|⟨_,q⟩
     ·rw [(O0 (h:=h) q).1];exact J4 hf e1
     ·rw [(W5 (h:=h) q).1,List.lookup_cons,beq_eq_false_iff_ne.mpr hxy];exact J4 hf e1
    refine ⟨ca,u,hcl,e2,e3,fun i V hs hL=>?_⟩
    have hs':=slotN hxy hs
    have hlt:=ok.low y i hs'
    rw [List.getElem?_set_ne (by lia)] at hL
    exact e4 i V hs' hL
 rcases id hv with ⟨a,b,m,hm,hmx⟩|⟨a,_,_⟩
 ·exact own m ((show z=C from b)▸hm) fun _=>hmx
 ·refine e1_1 hn fun m hm=>?_
  exact own m hm fun q=>by rw [hrl,q] at a;cases a
theorem a81 {M:Model}{A:Around}{E:Value→Shared→Prop}{s:Shared}{scope:Scope}{env:Env}{cl:List (Str × Addr)}{Q:Env→Shared→Prop}
  (h:Q { scope:=scope,locals:=s.heap.objs.size,globals:=env.globals,cells:=cellsFrom (s.heap.objs.size+1) scope.names cl,qual:=env.qual,func:=none,code:=env.code,frame:=env.frame,builtins:=env.builtins } { s with heap:=pushCells (s.heap.push { cls:=.type "dict",data:=.dict #[] }) scope.names }) :
  wpAny M A (newFunctionEnv scope env.globals cl [] env.qual none .none (some env)) Q E s:=by
 simp only [newFunctionEnv,Option.isSome_some,if_true]
 refine wpAny_bind (wpAny_alloc (wpAny_bind (wpAny_layCells _ (fun name kind cells=>by cases kind==NameKind.cell<;>simp) _ _ _ _ ?_)))
 rw [show ({ s with heap:=s.heap.push { cls:=.type "dict",data:=.dict #[] } }:Shared).heap.objs.size=s.heap.objs.size+1 from Heap.size_push ..]
 rw [List.forIn_nil]
 exact wpAny_bind (wpAny_pure (wpAny_pure h))
theorem aW3 {k:Nat}{A:Around}{scope:Scope}{x:Str}{px:Pos}{env:Env}{L:Lc}{C z:Addr}{n:Nat}(he:s8 c env)(ok:au6 c scope x) :
  bE2 D A env (compEnvC scope (cellsFrom n scope.names (l8 env scope.names [])) C env) c.slots (inner c scope x).slots (.Name x px) L (bd1 c.nxt L) C z
   (fun h=>VOk (compEnvC scope (cellsFrom n scope.names (l8 env scope.names [])) C env) x z h (fun _=>True)) (fun γ W h=>∃ v,VOk (compEnvC scope (cellsFrom n scope.names (l8 env scope.names [])) C env) x z h (· = some v)∧Rep D γ h v W) where
 mv:=fun _ _ hk v=>v.at hk
 there:=fun _ v=>v.there
 loc:=fun _ _ v v' hn hs=>v.loc v' hn hs
 asg:=fun γ s v W L1 Q E _ hv rv q=>wpAny_assign_Name (aY5 (by show (relabel scope env).kind=_;rw [y6 he];exact ok.kind) hv fun h2 tk2 v2 hk2=>q h2 tk2 v2.any ⟨v,v2,Rep.mono ⟨[],by simp⟩ (fun _ _ q=>k7 hk2 hv.there.2 q) rv⟩ hk2)
 mkL:=fun γ h W L1 hb hn hv lr hC hz=>by
  obtain rfl:=Option.some.inj hb
  refine e1_2 hv fun v hv rv=>?_
  exact aJ2 he ok γ h W v hn hv rv lr hC hz
 go:=fun _ _ _ _ _ _ _ _ _ _ _ q=>wpAny_pure q
structure at5 (c:CC)(scope:Scope)(x y:Str):Prop where
 kind:scope.kind=.function
 locs:∀ y∈scope.names,y.2=.local→scope.names.lookup y.1=some .local
 frees:∀ y∈scope.names,y.2=.free→c.scope.names.lookup y.1=some .cell
 vx:scope.names.lookup x=some .local
 vy:scope.names.lookup y=some .local
 ne:x≠y
 nocell:scope.names.filter I2=[]
 own:∀ w,(w,NameKind.local)∈scope.names→w=x∨w=y∨c.slots.lookup w=none
 low:∀ y i,c.slots.lookup y=some i→i<c.nxt
theorem W3 {i j:Nat}{L L1:Lc}{W:V}(h:bdp i j L W=some L1):∃ a b,W=.tup [a,b]∧L1=(L.set i (some a)).set j (some b):=by
 refine k8 h fun p hp=>?_
 refine j2 hp fun l hl h2=>?_
 rw [aU7 hl]
 cases l with
 | nil=>exact b9 h2
 | cons a r=>cases r with
  | nil=>exact b9 h2
  | cons b r=>cases r with
   | nil=>rw [←Option.some.inj h2];exact ⟨a,b,rfl,rfl⟩
   | cons _ _=>exact b9 h2
theorem aA7 {scope:Scope}{x y:Str}{env:Env}{L:Lc}{C:Addr}{n:Nat}{γ:List Addr}{h:Heap}{a b:V}{va vb:Value}{m:Str→Option Value}(he:s8 c env)(ok:at5 c scope x y)(hm:h.Ns C m)(hx:m x=some va)(hy:m y=some vb)(ra:Rep D γ h va a)(rb:Rep D γ h vb b)
  (lr:LRel D γ env c.slots h L) (hC:C∉γ):LRel D γ (compEnvC scope (cellsFrom n scope.names (l8 env scope.names [])) C env) (ah6 c scope x y).slots h ((L.set c.nxt (some a)).set (c.nxt+1) (some b)):=by
 have hrl:∀ y,(compEnvC scope (cellsFrom n scope.names (l8 env scope.names [])) C env).kindOf y=(aa9 scope c.scope).names.lookup y:=fun y=>by
  show (relabel scope env).names.lookup y=_
  rw [y6 he]
 have old:∀ {w:Str} {i:Nat},w≠x→w≠y→(ah6 c scope x y).slots.lookup w=some i→c.slots.lookup w=some i:=fun {w i} e1 e2 hs=>by
  have hs':((x,c.nxt)::(y,c.nxt+1)::c.slots).lookup w=some i:=hs
  rw [List.lookup_cons,beq_eq_false_iff_ne.mpr e1] at hs'
  have hs':((y,c.nxt+1)::c.slots).lookup w=some i:=hs'
  rw [List.lookup_cons,beq_eq_false_iff_ne.mpr e2] at hs'
  exact hs'
 refine ⟨⟨m,hm,fun w i V hw hs hL=>?_⟩,fun w hw=>?_,hC,lr.tp⟩
 ·rw [hrl] at hw
  by_cases hwx:w=x
  ·subst hwx
   have hs':((w,c.nxt)::(y,c.nxt+1)::c.slots).lookup w=some i:=hs
   rw [List.lookup_cons,beq_self_eq_true] at hs'
   obtain rfl:=Option.some.inj hs'
   rw [List.getElem?_set_ne (Nat.succ_ne_self _)] at hL
   obtain rfl:=ah7 hL
   exact ⟨va,hx,ra⟩
  ·by_cases hwy:w=y
   ·subst hwy
    have hs':((x,c.nxt)::(w,c.nxt+1)::c.slots).lookup w=some i:=hs
    rw [List.lookup_cons,beq_eq_false_iff_ne.mpr hwx] at hs'
    have hs':((w,c.nxt+1)::c.slots).lookup w=some i:=hs'
    rw [List.lookup_cons,beq_self_eq_true] at hs'
    obtain rfl:=Option.some.inj hs'
    obtain rfl:=ah7 hL
    exact ⟨vb,hy,rb⟩
   ·rcases ok.own w (ag4 hw) with q|q|q
    ·exact absurd q hwx
    ·exact absurd q hwy
    ·rw [old hwx hwy hs] at q;exact b9 q.symm
 ·rw [hrl] at hw
  have nc:(w,NameKind.cell)∉scope.names:=fun hm=>by
   have hm':(w,NameKind.cell)∈scope.names.filter I2:=List.mem_filter.mpr ⟨hm,rfl⟩
   rw [ok.nocell] at hm';exact nomatch hm'
  have hloc:∀ {z},scope.names.lookup z=some .local→w≠z:=fun hz e=>by
   rw [e,ap1 (by decide) hz] at hw;cases hw
  refine j4 ((an4 hw).resolve_left nc) fun hf ho=>?_
  have hk:env.kindOf w=some .cell:=by unfold Env.kindOf;rw [he.scope];exact ho
  refine e2_4 (lr.cel w hk) fun ca u e1 e2 e3 e4=>?_
  refine ⟨ca,u,?_,e2,e3,fun i V hs hL=>?_⟩
  ·show (cellsFrom n scope.names (l8 env scope.names [])).lookup w=_
   rw [(O0 (h:=h) ok.nocell).1];exact J4 hf e1
  ·have hs':=old (hloc ok.vx) (hloc ok.vy) hs
   have hlt:=ok.low w i hs'
   rw [List.getElem?_set_ne (by lia),List.getElem?_set_ne (by lia)] at hL
   exact e4 i V hs' hL
theorem bv2 {k:Nat}{A:Around}{scope:Scope}{x y:Str}{px py tp:Pos}{kk:Nat}{env:Env}{L:Lc}{C:Addr}{n:Nat}(hA:AOk D k A)(he:s8 c env)(ok:at5 c scope x y) :
  bE2 D A env (compEnvC scope (cellsFrom n scope.names (l8 env scope.names [])) C env) c.slots (ah6 c scope x y).slots (.Tuple [.Name x px,.Name y py] kk tp) L (bd2 c.nxt L) C C
   (fun h=>∃ m,h.Ns C m) (fun γ W h=>∃ m a b va vb,W=.tup [a,b]∧h.Ns C m∧m x=some va∧m y=some vb∧Rep D γ h va a∧Rep D γ h vb b) where
 mv:=fun _ _ hk ⟨m,hm⟩=>⟨m,hk.ns hm⟩
 there:=fun _ ⟨m,hm⟩=>⟨let ⟨o,_,_,e,_⟩:=hm; ⟨o,e⟩,A5 hm⟩
 loc:=fun _ _ _ v' _ _=>v'
 asg:=fun γ s v W L1 Q E hb ⟨m,hm⟩ rv q=>by
  refine e2_2 (W3 hb) fun a b e_182 e_183=>?_
  obtain rfl:=e_182
  obtain rfl:=e_183
  obtain ⟨T,vs,rfl,ta,va,r,rfl,ra,vb,r',rfl,rb,rfl⟩:=rv
  have hk2:(relabel scope env).kind=.function:=by rw [y6 he];exact ok.kind
  have kd:∀ {z},scope.names.lookup z=some .local→(compEnvC scope (cellsFrom n scope.names (l8 env scope.names [])) C env).kindOf z=some .local:=fun q=>by
   show (relabel scope env).names.lookup _=_
   rw [y6 he];exact ap1 (by decide) q
  refine W.kcp_assign hA.handled ta.isTuple (kd ok.vx) (kd ok.vy) (by show ((relabel scope env).kind==.class||((relabel scope env).kind==.module&&_))=false;rw [hk2];rfl) hm fun h' tk hn hk=>?_
  have mono:∀ {v V},Rep D γ s.heap v V→Rep D γ h' v V:=fun r=>Rep.mono ⟨[],by simp⟩ (fun _ _ q=>k7 hk (A5 hm) q) r
  exact q h' tk ⟨_,hn⟩ ⟨_,a,b,va,vb,rfl,hn,by rw [if_neg ok.ne,if_pos rfl],if_pos rfl,mono ra,mono rb⟩ hk
 mkL:=fun γ h W L1 hb _ hv lr hC _=>by
  obtain ⟨m,a,b,va,vb,rfl,hm,hx,hy,ra,rb⟩:=hv
  refine e2_2 (W3 hb) fun a' b' e e_189=>?_
  obtain rfl:=e_189
  cases e
  exact aA7 he ok hm hx hy ra rb lr hC
 go:=fun γ I s v W L1 Q E hb rv hown q=>by
  refine e2_2 (W3 hb) fun a b e_190 e_191=>?_
  obtain rfl:=e_190
  obtain rfl:=e_191
  refine e2_2 rv fun T vs e_192 _=>?_
  obtain rfl:=e_192
  exact hown _ _ _ _
structure aJ8 (D:Wd)(k:Nat)(c:CC)(scope:Scope)(tgt:Expr)(c':CC)(bdf:Lc→V→Option Lc):Prop where
 kind:scope.kind=.function
 locs:∀ y∈scope.names,y.2=.local→scope.names.lookup y.1=some .local
 frees:∀ y∈scope.names,y.2=.free→c.scope.names.lookup y.1=some .cell
 gok:GOk D c.G c.mts→GOk D c'.G c'.mts
 env:∀ env,s8 c env→∀ cl C,s8 c' (compEnvC scope cl C env)
 tg:∀ env A L,s8 c env→AOk D k A→∀ G2:Heap,(pushCells (G2.push { cls:=.type "dict",data:=.dict #[] }) scope.names).Ns G2.objs.size (fun _=>none)→∃ z var vw,bE2 D A env (compEnvC scope (cellsFrom (G2.objs.size+1) scope.names (l8 env scope.names [])) G2.objs.size env) c.slots c'.slots tgt L (bdf L) G2.objs.size z var vw∧var (pushCells (G2.push { cls:=.type "dict",data:=.dict #[] }) scope.names)∧G2.objs.size≤z
theorem aQ1 {scope:Scope}{x:Str}{px:Pos}(ok:au6 c scope x):aJ8 D k c scope (.Name x px) (inner c scope x) (bd1 c.nxt) where
 kind:=ok.kind
 locs:=ok.locs
 frees:=ok.frees
 gok:=fun g=>g
 env:=fun _ hE cl C=>aS8 hE ok cl C
 tg:=fun env A L hE _ G2 hns₁=>by
  have hrl:∀ {k},k≠.free→scope.names.lookup x=some k→(compEnvC scope (cellsFrom (G2.objs.size+1) scope.names (l8 env scope.names [])) G2.objs.size env).kindOf x=some k:=fun hk q=>by
   show (relabel scope env).names.lookup x=_
   rw [y6 hE];exact ap1 hk q
  rcases ok.var with ⟨q1,q2⟩|⟨q1,q2⟩
  ·exact ⟨G2.objs.size,_,_,aW3 (k:=k) hE ok,.inl ⟨hrl (by decide) q1,rfl,_,hns₁,trivial⟩,Nat.le_refl _⟩
  ·refine ⟨G2.objs.size+1,_,_,aW3 (k:=k) hE ok,.inr ⟨hrl (by decide) q1,?_,none,⟨{ cls:=.type "cell",data:=.cell none },?_,rfl⟩,trivial⟩,Nat.le_succ _⟩
   ·show (cellsFrom (G2.objs.size+1) scope.names (l8 env scope.names [])).lookup x=_
    rw [(W5 (h:=G2) q2).1,List.lookup_cons,beq_self_eq_true]
   ·rw [(W5 (n:=0) (acc:=[]) q2).2]
    have:=Heap.get?_push_size (G2.push { cls:=.type "dict",data:=.dict #[] }) (o:={ cls:=.type "cell",data:=.cell none }) rfl
    rw [Heap.size_push] at this
    exact this
theorem bp1 {scope:Scope}{x y:Str}{px py tp:Pos}{kt:Nat}(ok:at5 c scope x y):aJ8 D k c scope (.Tuple [.Name x px,.Name y py] kt tp) (ah6 c scope x y) (bd2 c.nxt) where
 kind:=ok.kind
 locs:=ok.locs
 frees:=ok.frees
 gok:=fun g=>g
 env:=fun _ hE cl C=>⟨y6 hE,ok.kind,hE.globals,hE.builtins⟩
 tg:=fun env A L hE hA G2 hns₁=>⟨_,_,_,bv2 hA hE ok,⟨_,hns₁⟩,Nat.le_refl _⟩
noncomputable def bk2 (Φ:Orc)(ss:IE)(kk:SrcK)(ielt:IE)(tst:Option IE)(bdf:Lc→V→Option Lc):ET:=.of fun L H Q X=>(wp2 Φ ss).E L H (fun v H1=>ac3 kk v H1 fun items st=>u7 (elW Φ ielt tst) st (bdf L) items [] H1 (fun ys H2=>ys.length≤1000000∧Q (.ref H2.length) (H2++[.list ys]))) X
theorem aI3 {n:Nat}{elt iter tgt:Expr}{ifs:List Expr}{tst:Option IE}{pos cp:Pos}{c':CC}{bdf:Lc→V→Option Lc}{scope:Scope}{ielt:IE}{kk:SrcK}{ss:IE}{env:Env}{A:Around}{X:XL}{L:Lc}{γ:List Addr}{H:Hp}{s:Shared}
  {Kf:List V→Hp→Prop} {use:Option (Value→Sem Unit)} {Qf:Value→Shared→Prop} (g:GOk D c.G c.mts) (ih:∀ c e ie,GOk D c.G c.mts→g8 n c e=some ie→Q0 D Φ k c e ie) (cg:aJ8 D k c scope tgt c' bdf)
  (hsrc:z8 (g8 n c) c iter=some (kk,ss)) (hce:g8 n c' elt=some ielt) (hts:bx7 n c' ifs tst) (hE:s8 c env) (hA:AOk D k A) (R:HRel D γ H s.heap)
  (lr:LRel D γ env c.slots s.heap L) (hset:∀ x,foldedSetIterable iter env x=pure x)
  (w:(wp2 Φ ss).E L H (fun v H1=>ac3 kk v H1 fun items st=>u7 (elW Φ ielt tst) st (bdf L) items [] H1 Kf) X)
  (fin:∀ γ' H' s' Dd C acc,Stp [] γ γ' s s'→HRel D γ' H' s'.heap→(∃ ys n,s'.heap.get? Dd=some { cls:=.type "list",data:=.seq ys.toArray n }∧Reps D γ' s'.heap ys acc)→Dd∉γ'→s.heap.get? Dd=none→(∃ m,s'.heap.Ns C m)→C∉γ'→s.heap.get? C=none→Dd≠C→Kf acc H' →
   compPost D.M A (PostX D γ s X) use Qf (.ref Dd) C (.ok .next) s') :
  wpAny D.M A (comprehension (.ListComp elt [⟨tgt,iter,ifs,0⟩] scope pos) scope env cp (newList []) false (eval iter env) use) Qf (PostX D γ s X) s:=by
 have hclos:closureFor scope env=pure (l8 env scope.names []):=ap2 fun y hy hf=>by
  have hk:env.kindOf y.1=some .cell:=by unfold Env.kindOf;rw [hE.scope];exact cg.frees y hy hf
  refine e2_2 (lr.cel y.1 hk) fun ca u e1 _=>?_
  exact ⟨ca,e1⟩
 refine wpAny_comprehension_free (use:=use) rfl hset hclos cg.kind cg.locs (wpAny_mono (bd9 (K:=fun l st H1=>u7 (elW Φ ielt tst) st (bdf L) l [] H1 Kf) g (fun e ie h=>(ih c e ie g h).1) hsrc hE hA R lr w)
  (fun xv s1 h1=>wpAny_mono h1 (fun it s2 h2=>?_) fun _ _ e=>e) fun _ _ e=>e)
 obtain ⟨γ2,H2,I,fp,l,st,Inv,rfl,stp2,R2,itr,iv,fps,hI0,hst,hlen,cgo⟩:=h2
 refine wpAny_newObj_type (hd:=by size_fits) (a81 ?_)
 dsimp only
 generalize hH2:s2.heap.push { cls:=.type "list",dict:=none,data:=.seq ([]:List Value).toArray } = G2
 have hC:G2.objs.size=s2.heap.objs.size+1:=by rw [←hH2,Heap.size_push]
 have hDC:s2.heap.objs.size≠G2.objs.size:=by rw [hC];exact Nat.ne_of_lt (Nat.lt_succ_self _)
 have fresh:∀ a,s2.heap.objs.size≤a→s2.heap.get? a=none:=fun a ha=>by
  cases e:s2.heap.get? a with
  | none=>rfl
  | some o'=>exact absurd (Heap.lt_size e) (Nat.not_lt.mpr ha)
 have fresh0:∀ a,s2.heap.objs.size≤a→s.heap.get? a=none:=fun a ha=>W8 stp2 R2 (fresh a ha)
 have nin2:∀ a,s2.heap.objs.size≤a→a∉γ2:=fun a ha=>(R2.nin (fresh a ha)).1
 have keep1:∀ b o,G2.get? b=some o→(pushCells (G2.push { cls:=.type "dict",data:=.dict #[] }) scope.names).get? b=some o:=fun b o e=>pushCells_keeps _ _ b o (Heap.get?_push_of_some _ e)
 have hns₁:(pushCells (G2.push { cls:=.type "dict",data:=.dict #[] }) scope.names).Ns G2.objs.size fun _=>none:=(Heap.Ns.new G2 (.type "dict")).keeps (pushCells_keeps _ _)
 refine e3_3 (cg.tg env A L hE hA G2 hns₁) fun z var vw tg hvar hz=>?_
 have hz:s2.heap.objs.size<z:=by rw [hC] at hz;exact hz
 generalize hh1:pushCells (G2.push { cls:=.type "dict",data:=.dict #[] }) scope.names=h₁ at keep1 hns₁ hvar ⊢
 have old:∀ b o,s2.heap.get? b=some o→h₁.get? b=some o:=fun b o e=>keep1 b o (hH2▸Heap.get?_push_of_some _ e)
 have hacc:h₁.get? s2.heap.objs.size=some { cls:=.type "list",data:=.seq ([]:List Value).toArray }:=keep1 _ _ (hH2▸Heap.get?_push_size _ rfl)
 have F:cj6 D s s2.heap.objs.size G2.objs.size I z fp:=by
  refine ⟨fresh0 _ (Nat.le_refl _),fresh0 _ (by rw [hC];exact Nat.le_succ _),hI0,hDC,fun hm=>?_,fun hm=>?_,fresh0 _ (Nat.le_of_lt hz),Nat.ne_of_lt hz,fun hm=>?_⟩
  ·obtain ⟨_,⟨o,e⟩,_⟩:=fps _ hm;exact absurd (Heap.lt_size e) (Nat.lt_irrefl _)
  ·obtain ⟨_,⟨o,e⟩,_⟩:=fps _ hm;exact absurd (Heap.lt_size e) (by rw [hC];exact Nat.not_lt.mpr (Nat.le_succ _))
  ·obtain ⟨_,⟨o,e⟩,_⟩:=fps _ hm;exact absurd (Heap.lt_size e) (Nat.not_lt.mpr (Nat.le_of_lt hz))
 have loop:∀ s3:Shared,s3 = { s2 with heap:=h₁ } →
   codeAny D.M A (.compLoop (.ListComp elt [⟨tgt,iter,ifs,0⟩] scope pos) 0 (.ref I) (.ref s2.heap.objs.size) (compEnvC scope (cellsFrom (G2.objs.size+1) scope.names (l8 env scope.names [])) G2.objs.size env))
    (compPost D.M A (PostX D γ s X) use Qf (.ref s2.heap.objs.size) G2.objs.size) s3:=by
  rintro s3 rfl
  have st3:Stp [] γ2 γ2 s2 { s2 with heap:=h₁ }:=C7 (tk:=s2.toks) old
  refine aY3 (env:=env) (c:=c) (c':=c') (st:=st) (Inv:=Inv) (l:=l) (K:=Kf) (fp:=fp) (L:=L) (bd:=bdf L) (γ:=γ) (H:=H) (s:=s) (C:=G2.objs.size)
   (cg.env env hE _ _) hA R lr (fun e ie h=>ih c' e ie (cg.gok g) h) hce hts F itr tg ?_ 0 [] γ2 H2 _ (Nat.zero_le _) (by simp) hlen ?_ hst cgo
  ·intro γ' H' s' acc ci hK h' tk hk
   refine e2_2 (ci.out) fun ys ny hy ry=>?_
   have hIg:I∉γ':=(ci.fps I itr.mem).1
   have nt:=fun ws=>itr.notTup γ' l.length s'.heap ws ci.inv
   refine fin γ' H' _ _ _ acc (ci.stp.change (tk:=tk) hk F.i0) (ci.rel.but hk hIg (r5 R F.i0) nt (.inr (.inr (R.frs.ne F.i0)))) ⟨ys,ny,hk _ _ (fun q=>F.df (q▸itr.mem)) hy,Reps.mono ⟨[],by simp⟩ (fun _ _ q=>k7 hk nt q) ry⟩ ci.dnin F.d0 ?_ ci.cnin F.c0 hDC hK
   refine e1_1 (ci.loc) fun m hm=>?_
   exact ⟨m,hm.at' fun o e=>hk _ o (fun q=>F.cf (q▸itr.mem)) e⟩
  ·refine ⟨stp2.trans0 R2 st3,R2.grow old,⟨[],0,hacc,(show Reps _ _ _ [] [] from rfl)⟩,nin2 _ (Nat.le_refl _),⟨_,hns₁⟩,nin2 _ (by rw [hC];exact Nat.le_succ _),hvar,nin2 _ (Nat.le_of_lt hz),?_,?_⟩
   ·exact itr.frame γ2 γ2 0 s2.heap h₁ iv ⟨[],by simp⟩ (fun b hb o e=>old b o e) (fun _ _ q=>j9 old q)
   ·intro b hb
    refine R8 (fps b hb) fun a e_194 _=>?_
    refine e1_1 e_194 fun o e=>?_
    exact ⟨a,o,old b o e⟩
 have iv1:Inv γ2 0 h₁:=itr.frame γ2 γ2 0 s2.heap h₁ iv ⟨[],by simp⟩ (fun b hb o e=>old b o e) (fun _ _ q=>j9 old q)
 exact codeAny_compStart_list (loop _ rfl) (itr.self γ2 0 _ _ _ iv1 (loop _ rfl))
theorem ba3 {n:Nat}{elt iter tgt:Expr}{ifs:List Expr}{tst:Option IE}{pos:Pos}{scope:Scope}{c':CC}{ielt:IE}{kk:SrcK}{ss ie:IE}{bdf:Lc→V→Option Lc}(g:GOk D c.G c.mts)(ih:∀ c e ie,GOk D c.G c.mts→g8 n c e=some ie→Q0 D Φ k c e ie)(cg:aJ8 D k c scope tgt c' bdf)
  (hsrc:z8 (g8 n c) c iter=some (kk,ss)) (hce:g8 n c' elt=some ielt) (hts:bx7 n c' ifs tst) (hset:∀ env x,foldedSetIterable iter env x=pure x) (hie:wp2 Φ ie=bk2 Φ ss kk ielt tst bdf) :
  Q0 D Φ k c (.ListComp elt [⟨tgt,iter,ifs,0⟩] scope pos) ie:=by
 refine i8 (fun env A γ H s L Q X hE hA R lr w=>?_) (by rw [hie];rfl) (fun _ _=>rfl)
 rw [hie] at w
 rw [eval_ListComp]
 refine aI3 (use:=none) (cp:=_) g ih cg hsrc hce hts hE hA R lr (hset env) w ?_
 intro γ' H' s' Dd C acc stp R' ho dn d0 hc cn c0 hdc hK
 refine e1_1 hc fun m hm=>?_
 refine ⟨m,hm,fun h' hs=>?_⟩
 have hk:∀ b o,b≠C→s'.heap.get? b=some o→h'.get? b=some o:=fun b o hb e=>hs.extBut b o hb e
 have nt:=A5 hm
 refine e2_2 ho fun ys ny hy ry=>?_
 have R'':HRel D γ' H' h':=R'.but hk cn (r5 R c0) nt (.inr (.inr (R.frs.ne c0)))
 have hy':=hk _ _ hdc hy
 have ry':Reps D γ' h' ys acc:=Reps.mono ⟨[],by simp⟩ (fun _ _ q=>k7 hk nt q) ry
 exact PostV.adopt (h':=h') (tk:=s'.toks) R (stp.change hk c0) R'' ry' (by have:=hK.1;lia) dn d0 (r5 R d0) hy' hK.2
end
end Mine
namespace Mine
open PySem PyProof.Rows
section
variable {D:Wd} {Φ:Orc} {k:Nat}
theorem ag6 {iter:Expr}{n:Nat}{c:CC}{p:SrcK × IE}(h:z8 (g8 n c) c iter=some p):∀ env x,foldedSetIterable iter env x=pure x:=by
 intro env x
 cases iter<;>first|rfl|(cases n<;>exact b9 h)
theorem aI1 {lo:Option Expr}{il:Option IE}{n:Nat}{c:CC}{env:Env}{A:Around}{γ:List Addr}{H:Hp}{s:Shared}{L:Lc}{Q:V→Hp→Prop}{X:XL}(ih:∀ e ie,g8 n c e=some ie→SE D Φ k c e ie)(h:bR4 (g8 n c) lo=some il)
  (hE:s8 c env) (hA:AOk D k A) (R:HRel D γ H s.heap) (lr:LRel D γ env c.slots s.heap L) (w:wpO Φ il L H Q X):wpAny D.M A (evalPart lo env) (PostV D γ s Q) (PostX D γ s X) s:=by
 cases lo with
 | none=>obtain rfl:=Option.some.inj h;exact wpAny_evalPart_none (PostV.here (V:=.none) R (show Rep _ _ _ _ .none from rfl) w)
 | some e =>
  revert w;refine k8 h fun a ha w=>?_
  exact wpAny_evalPart_some (ih _ _ ha env A γ H s L Q X hE hA R lr w)
theorem bt1 {o:Expr}{p pos:Pos}{lo hi:Option Expr}{n:Nat}{c:CC}{io:IE}{il ih':Option IE}(ih:∀ e ie,g8 n c e=some ie→SE D Φ k c e ie)(ho:g8 n c o=some io)(hl:bR4 (g8 n c) lo=some il)(hh:bR4 (g8 n c) hi=some ih') :
  Q0 D Φ k c (.Subscript o (.Slice lo hi none p) pos) (.slice io il ih'):=by
 refine i8 (fun env A γ H s L Q X hE hA R lr w=>?_) rfl (fun _ _=>rfl)
 refine Subscript_ (q7 (ih _ _ ho env A γ H s L _ X hE hA R lr w) ?_)
 intro vo s1 γ1 Vo H1 st1 R1 ro q1
 refine wpAny_Slice (ae7 st1 R1 (aI1 ih hl hE hA R1 (lr.stp R st1) q1) ?_)
 intro vl s2 γ2 Vl H2 st2 R2 rl q2
 have st02:=st1.trans0 R1 st2
 refine ae7 st02 R2 (aI1 ih hh hE hA R2 (lr.stp R st02) q2) ?_
 intro vh s3 γ3 Vh H3 st3 R3 rh q3
 rw [evalPart_none]
 refine wpAny_pure ?_
 exact wpAny_mono (a61 R3 ((ro.stp0 R1 st2).stp0 R2 st3) (rl.stp0 R2 st3) rh q3) (fun _ _ x=>x.back (st02.trans0 R2 st3) R3) (fun _ _ x=>x)
theorem bT2 {o e:Expr}{p pos:Pos}{c:CC}{io:IE}{two:Bool}(ho:SE D Φ k c o io)(he:aF3 e bD8=some two):Q0 D Φ k c (.Subscript o (.Slice none none (some e) p) pos) (.rev io two):=by
 refine i8 (fun env A γ H s L Q X hE hA R lr w=>?_) rfl (fun _ _=>rfl)
 refine aV2 he fun kc n p1 p2 hk=>?_
 cases kc with
 | int i =>
  have hi:-i=bH0 two:=by
   have hk:(if i=1 then some false else if i=2 then some true else none)=some two:=hk
   by_cases h1:i=1
   ·rw [if_pos h1] at hk;rw [←Option.some.inj hk,h1];rfl
   ·rw [if_neg h1] at hk
    by_cases h2:i=2
    ·rw [if_pos h2] at hk;rw [←Option.some.inj hk,h2];rfl
    ·rw [if_neg h2] at hk;exact b9 hk
  refine Subscript_ (q7 (ho env A γ H s L _ X hE hA R lr w) ?_)
  intro vo s1 γ1 Vo H1 st1 R1 ro q1
  refine wpAny_Slice (wpAny_evalPart_none (wpAny_evalPart_none (wpAny_evalPart_some (UnaryOp_ (wpAny_Constant_int (neg_int ?_))))))
  have st2:Stp [] γ1 γ1 s1 { s1 with toks:=s1.toks+1+1 }:=C7 fun _ _ e=>e
  rw [hi]
  exact wpAny_mono (bP1 (s:={ s1 with toks:=s1.toks+1+1 }) R1 ro (.int _ _) q1) (fun _ _ x=>(x.back st2 R1).back st1 R1) (fun _ _ x=>x)
 | _=>exact b9 hk
theorem u9 {K:Type}[DecidableEq K](a:K)(b:Value)(r:List (K × Value))(y:K):valueAt ((a,b)::r) y=if a=y then some b else valueAt r y:=by
 unfold valueAt
 rw [List.find?_cons]
 by_cases h:a=y
 ·rw [if_pos h,decide_eq_true h];rfl
 ·rw [if_neg h,decide_eq_false h]
theorem T7 {K:Type}[DecidableEq K](k:K)(v:Value)(y:K):∀ kvs:List (K × Value),valueAt (kvs.map fun kv=>if kv.1=k then (kv.1,v) else kv) y=if y=k∧(kvs.any fun kv=>kv.1=k)=true then some v else valueAt kvs y
 | []=>by rw [if_neg (fun h=>nomatch h.2)];rfl
 | (a,b)::r=>by
  rw [List.map_cons,List.any_cons]
  by_cases ha:a=k
  ·rw [show (if (a,b).1=k then ((a,b).1,v) else (a,b))=(a,v) from if_pos ha,u9,u9,T7 k v y r,show decide ((a,b).1=k)=true from decide_eq_true ha]
   by_cases hy:y=k
   ·rw [if_pos (ha.trans hy.symm),if_pos ⟨hy,rfl⟩]
   ·have hay:¬ a=y:=fun q=>hy (q.symm.trans ha)
    rw [if_neg hay,if_neg (fun h=>hy h.1),if_neg (fun h=>hy h.1),if_neg hay]
  ·rw [show (if (a,b).1=k then ((a,b).1,v) else (a,b))=(a,b) from if_neg ha,u9,u9,T7 k v y r,show decide ((a,b).1=k)=false from decide_eq_false ha,Bool.false_or]
   by_cases hay:a=y
   ·have hy:¬ y=k:=fun q=>ha (hay.trans q)
    rw [if_pos hay,if_pos hay,if_neg (fun h=>hy h.1)]
   ·rw [if_neg hay,if_neg hay]
theorem ae4 {K:Type}[DecidableEq K](k:K)(v:Value)(y:K):∀ kvs:List (K × Value),(kvs.any fun kv=>kv.1=k)=false→valueAt (kvs++[(k,v)]) y=if y=k then some v else valueAt kvs y
 | [],_=>by
  rw [List.nil_append,u9]
  by_cases hy:y=k
  ·rw [if_pos hy.symm,if_pos hy]
  ·rw [if_neg (fun q=>hy q.symm),if_neg hy]
 | (a,b)::r,h=>by
  rw [List.any_cons,Bool.or_eq_false_iff] at h
  have ha:¬ a=k:=of_decide_eq_false h.1
  rw [List.cons_append,u9,u9,ae4 k v y r h.2]
  by_cases hay:a=y
  ·rw [if_pos hay,if_pos hay,if_neg (fun q=>ha (hay.trans q))]
  ·rw [if_neg hay,if_neg hay]
theorem Q2 {K:Type}[DecidableEq K](kvs:List (K × Value))(k:K)(v:Value)(y:K):valueAt (stored kvs k v) y=if y=k then some v else valueAt kvs y:=by
 unfold stored
 cases h:kvs.any fun kv=>kv.1=k with
 | true =>
  rw [if_pos rfl,T7,h]
  by_cases hy:y=k
  ·rw [if_pos ⟨hy,rfl⟩,if_pos hy]
  ·rw [if_neg (fun q=>hy q.1),if_neg hy]
 | false=>rw [if_neg Bool.false_ne_true];exact ae4 k v y kvs h
theorem FsRep.cons {γ:List Addr}{h:Heap}{fs:List (Str × V)}{m:Str→Option Value}{x:Str}{v:Value}{W:V}(f:FsRep D γ h fs m)(r:Rep D γ h v W):FsRep D γ h ((x,W)::fs) (fun y=>if y=x then some v else m y):=by
 refine ⟨fun y V hy=>?_,fun y hy=>?_⟩
 ·rw [List.lookup_cons] at hy
  by_cases hxy:y=x
  ·rw [beq_iff_eq.mpr hxy] at hy
   obtain rfl:=Option.some.inj hy
   exact ⟨v,if_pos hxy,r⟩
  ·rw [beq_eq_false_iff_ne.mpr hxy] at hy
   refine e1_2 (f.1 y V hy) fun u hu ru=>?_
   exact ⟨u,(if_neg hxy).trans hu,ru⟩
 ·rw [List.lookup_cons] at hy
  by_cases hxy:y=x
  ·rw [beq_iff_eq.mpr hxy] at hy;exact b9 hy.symm
  ·rw [beq_eq_false_iff_ne.mpr hxy] at hy
   exact (if_neg hxy).trans (f.2 y hy)
theorem ao8 {γ:List Addr}{h:Heap}:∀ (sk:List Str) {vals:List Value} {Vs:List V} {acc:List (Str × Value)} {es:List (Str × V)},Reps D γ h vals Vs→FsRep D γ h es (valueAt acc)→acc.length≤es.length →
  FsRep D γ h ((sk.zip Vs).reverse++es) (valueAt (merged acc (sk.zip vals)))∧(merged acc (sk.zip vals)).length≤((sk.zip Vs).reverse++es).length
 | [],vals,Vs,acc,es,_,f,z=>⟨f,z⟩
 | x::sk,vals,[],acc,es,r,f,z=>by obtain rfl:=r;exact ⟨f,z⟩
 | x::sk,vals,V::Vs,acc,es,r,f,z=>by
  refine e2_3 r fun v rs e_195 rv r2=>?_
  obtain rfl:=e_195
  have f2:FsRep D γ h ((x,V)::es) (valueAt (stored acc x v)):=by
   rw [show valueAt (stored acc x v)=fun y=>if y=x then some v else valueAt acc y from funext fun y=>Q2 acc x v y]
   exact f.cons rv
  have m:=ao8 sk r2 f2 (Nat.le_trans (stored_length_le _ _ _) (Nat.succ_le_succ z))
  rw [show ((x::sk).zip (V::Vs)).reverse++es=(sk.zip Vs).reverse++(x,V)::es by rw [List.zip_cons_cons,List.reverse_cons,List.append_assoc];rfl]
  exact m
theorem aG3 {c:CC}{n:Nat}(ih:∀ e ie,g8 n c e=some ie→SE D Φ k c e ie){env:Env}{A:Around}{X:XL}(he:s8 c env)(hA:AOk D k A){L:Lc}{pos:Pos}:∀ (ks:List (Option Expr)) (vs:List Expr) (sk:List Str) (ies:List IE) (γ:List Addr) (H:Hp) (s:Shared) (Q:List V→Hp→Prop),
  K6 bS0 ks=some sk→K6 (g8 n c) vs=some ies→ks.length=vs.length→HRel D γ H s.heap→LRel D γ env c.slots s.heap L→O9 Φ ies L H Q X →
  wpAny D.M A (evalPairs (pairTrees ks vs env pos)) (fun ps s1=>∃ vals,Carries (strKind D.prog D.w) ps (sk.zip vals)∧PostL D γ s Q vals s1) (PostX D γ s X) s
 | [],[],sk,ies,γ,H,s,Q,hm,hv,_,R,_,h=>by
  rw [C6 hv] at h
  rw [C6 hm]
  exact pairTrees_nil_walk ⟨[],trivial,γ,[],H,Stp.refl,R,(show Reps _ _ _ [] [] from rfl),h⟩
 | [],_::_,_,_,_,_,_,_,_,_,hl,_,_,_=>Nat.noConfusion hl
 | _::_,[],_,_,_,_,_,_,_,_,hl,_,_,_=>Nat.noConfusion hl
 | ke::ks,e::vs,sk,ies,γ,H,s,Q,hm,hv,hl,R,l,h=>by
  refine e2_3 (r8 hv) fun b bs e_196 h1 h2=>?_
  obtain rfl:=e_196
  refine e2_3 (r8 hm) fun x xs e_197 k1 k2=>?_
  obtain rfl:=e_197
  refine e1_2 (Option.bind_eq_some_iff.mp k1) fun ce e_198 k1=>?_
  obtain rfl:=e_198
  refine O2 k1 fun kc m p k1=>?_
  cases kc with
  | str y =>
   refine f0 k1 fun hs k1=>?_
   obtain rfl:=Option.some.inj k1
   rw [Bool.and_eq_true] at hs
   refine pairTrees_cons_walk (Calls.Constant_str ?_)
   have st0:Stp [] γ γ s { s with toks:=s.toks+1 }:=C7 fun _ _ e=>e
   refine wpAny_mono (ih e b h1 env A γ H { s with toks:=s.toks+1 } L _ X he hA R l h) (fun v s1 p=>?_) fun _ _ x=>x.back st0 R
   obtain ⟨γ1,V,H1,st,R1,rv,q⟩:=p
   have st1:=Stp.trans0 (s1:={ s with toks:=s.toks+1 }) R st0 st
   refine wpAny_mono (aG3 ih he hA ks vs xs bs γ1 H1 s1 _ k2 h2 (Nat.succ.inj hl) R1 (l.stp R st1) q) (fun ps s2 p=>?_) (fun _ _ x=>x.back st1 R1)
   obtain ⟨vals,hc,γ2,Vs,H2,st2,R2,rvs,q2⟩:=p
   exact ⟨v::vals,⟨beq_self_eq_true y,rfl,hc⟩,γ2,V::Vs,H2,st1.trans0 R1 st2,R2,Exists.intro v ⟨vals,rfl,rv.stp0 R1 st2,rvs⟩,q2⟩
  | _=>exact b9 k1
theorem aU4:∀ {ks:List (Option Expr)} {sk:List Str},K6 bS0 ks=some sk→ks.all (·.isSome)=true
 | [],_,_=>rfl
 | ke::ks,_,hm=>by
  refine e2_3 (r8 hm) fun x xs e_199 k1 k2=>?_
  obtain rfl:=e_199
  refine e1_2 (Option.bind_eq_some_iff.mp k1) fun ce e_200 k1=>?_
  obtain rfl:=e_200
  rw [List.all_cons,aU4 k2];rfl
theorem bE3 {n:Nat}{c:CC}{ks:List (Option Expr)}{vs:List Expr}{pos:Pos}{ie:IE}(ih:∀ e ie,g8 n c e=some ie→SE D Φ k c e ie)(h:by0 (g8 n c) ks vs=some ie):Q0 D Φ k c (.Dict ks vs pos) ie:=by
 cases ks with
 | nil =>
  refine f0 ((show g9 vs.isEmpty (some IE.dct)=some ie from h)) fun h0 h=>?_
  obtain rfl:=List.isEmpty_iff.mp h0
  obtain rfl:=Option.some.inj h
  exact cf6
 | cons k0 kr =>
  refine f0 ((show g9 _ (am7 IE.dctL (K6 bS0 (k0::kr)) (K6 (g8 n c) vs))=some ie from h)) fun h0 h=>?_
  refine w9 h fun sk ies hm hv=>?_
  rw [Bool.and_eq_true] at h0
  have hl:=Nat.eq_of_beq_eq_true h0.1
  refine i8 (fun env A γ H s L Q X hE hA R lr w=>?_) rfl (fun _ _=>rfl)
  refine wpAny_Dict_walk (knd:=strKind D.prog D.w) (aU4 hm) hl (fun q=>nomatch q) (Nat.ble_eq.mp h0.2) ?_
  have hk:∀ b o,s.heap.get? b=some o→(s.heap.push { cls:=.type "dict",data:=.dict #[] }).get? b=some o:=fun _ _ e=>Heap.get?_push_of_some _ e
  have st1:Stp [] γ (γ++[s.heap.objs.size]) s { s with heap:=s.heap.push { cls:=.type "dict",data:=.dict #[] } }:=Stp.add (tk:=s.toks) hk (y3 _)
  have R1:=R.add (o:=.dict []) (H:=H) hk (y3 _) ⟨[],Heap.DictOf.new _,⟨fun _ _ h=>b9 h,fun _ _=>rfl⟩,Nat.le_refl _⟩
  refine wpAny_mono (aG3 ih hE hA (k0::kr) vs sk ies _ _ { s with heap:=s.heap.push { cls:=.type "dict",data:=.dict #[] } } _ hm hv hl R1 (lr.stp R st1) w) (fun ps s2 p=>?_) fun _ _ x=>x.back st1 R1
  obtain ⟨vals,hc,γ2,Vs,H2,st2,R2,rvs,hd,q⟩:=p
  have ha:γ2[H.length]? = some s.heap.objs.size:=getElem?_ext (let ⟨δ,e,_⟩:=st2.ext; ⟨δ,e⟩) (by rw [←R.len,List.getElem?_concat_length])
  refine e1_3 (R2.dict ha hd) fun kvs d0 hf hz=>?_
  obtain rfl:kvs=[]:=List.length_eq_zero_iff.mp (Nat.le_zero.mp hz)
  refine ⟨sk.zip vals,hc,d0,fun h' hd' hs=>?_⟩
  have hk':∀ b o',b≠s.heap.objs.size→s2.heap.get? b=some o'→h'.get? b=some o':=fun b o' hb q=>hs.extBut b o' hb q
  have st4:=ad2 (s:=s2) (tk:=s2.toks+ps.length) ha hk'
  refine ⟨γ2,.ref H.length,_,st1.trans0 R1 (st2.trans0 R2 st4),R2.setObj (o:=.dict (sk.zip Vs).reverse) ha hk' fun ht=>⟨_,hd',?_⟩,Exists.intro _ ⟨ha,rfl⟩,q⟩
  have m:=ao8 sk (Reps.mono ⟨[],(List.append_nil γ2).symm⟩ ht rvs) (hf.mono ⟨[],(List.append_nil γ2).symm⟩ ht) hz
  rw [List.append_nil] at m
  exact m
theorem ax5 {scope outer:Scope}(hok:aG9 scope outer=true):scope.kind=.function∧(∀ y∈scope.names,y.2=.local→scope.names.lookup y.1=some .local)∧(∀ y∈scope.names,y.2=.free→outer.names.lookup y.1=some .cell):=by
 unfold aG9 at hok
 simp only [Bool.and_eq_true,beq_iff_eq,List.all_eq_true,Bool.or_eq_true,bne_iff_ne,ne_eq] at hok
 exact ⟨hok.1,fun y hy hl=>(hok.2 y hy).1.resolve_left fun q=>q hl,fun y hy hf=>((hok.2 y hy).2.resolve_left fun q=>q hf).2⟩
theorem aY8 {c:CC}{scope:Scope}{x:Str}{a:Int}(hs:okC c scope x a=true):a=0∧au6 c scope x:=by
 unfold okC bE4 at hs
 simp only [Bool.and_eq_true,Bool.or_eq_true] at hs
 refine j4 hs fun e_201 hlow=>?_
 refine j4 e_201 fun e_202 hown=>?_
 refine j4 e_202 fun e_203 hvar=>?_
 refine j4 e_203 fun ha hok=>?_
 refine R8 (ax5 hok) fun k1 k3 k4=>?_
 rw [List.all_eq_true] at hown hlow
 refine ⟨eq_of_beq ha,k1,k3,k4,hvar.imp (fun h=>⟨eq_of_beq h.1,List.isEmpty_iff.mp h.2⟩) (fun h=>⟨eq_of_beq h.1,eq_of_beq h.2⟩),fun y hy=>?_,fun y i hl=>of_decide_eq_true (hlow (y,i) (mem_of_lookup hl))⟩
 have:=hown (y,.local) hy
 simp only [Bool.or_eq_true,bne_iff_ne,ne_eq,beq_iff_eq,Option.isNone_iff_eq_none] at this
 rcases this with (q|q)|q
 ·exact absurd trivial q
 ·exact .inl q
 ·exact .inr q
theorem aL9 {c:CC}{scope:Scope}{x y:Str}{a:Int}(hs:b81 c scope x y a=true):a=0∧at5 c scope x y:=by
 unfold b81 at hs
 simp only [Bool.and_eq_true] at hs
 refine j4 hs fun e_204 hlow=>?_
 refine j4 e_204 fun e_205 hown=>?_
 refine j4 e_205 fun e_206 e_207=>?_
 refine j4 e_206 fun ha hok=>?_
 refine j4 e_207 fun e_208 hnc=>?_
 refine j4 e_208 fun e_209 hne=>?_
 refine j4 e_209 fun hx hy=>?_
 refine R8 (ax5 hok) fun k1 k3 k4=>?_
 rw [List.all_eq_true] at hown hlow
 refine ⟨eq_of_beq ha,k1,k3,k4,eq_of_beq hx,eq_of_beq hy,fun q=>?_,List.isEmpty_iff.mp hnc,fun w hw=>?_,fun y i hl=>of_decide_eq_true (hlow (y,i) (mem_of_lookup hl))⟩
 ·rw [q,beq_self_eq_true] at hne;exact Bool.noConfusion hne
 ·have:=hown (w,.local) hw
  simp only [Bool.or_eq_true,bne_iff_ne,ne_eq,beq_iff_eq,Option.isNone_iff_eq_none] at this
  rcases this with ((q|q)|q)|q
  ·exact absurd trivial q
  ·exact .inl q
  ·exact .inr (.inl q)
  ·exact .inr (.inr q)
@[elab_as_elim] theorem be2 {n:Nat}{c:CC}{elt:Expr}{gens:List Comprehension}{scope:Scope}{ie:IE}{R:List Comprehension→Prop}(h:cLc (g8 n) c elt gens scope=some ie)
  (K:∀ tgt iter ifs kk ss ielt tst c' bdf,aJ8 D k c scope tgt c' bdf→z8 (g8 n c) c iter=some (kk,ss)→g8 n c' elt=some ielt→bx7 n c' ifs tst→wp2 Φ ie=bk2 Φ ss kk ielt tst bdf→R [⟨tgt,iter,ifs,0⟩]):R gens:=by
 refine ad3 h fun g h=>?_
 obtain ⟨tgt,iter,ifs,a⟩:=g
 have h:b19 (g8 n) c elt scope tgt iter ifs a=some ie:=h
 unfold b19 at h
 cases ht:a69 tgt with
 | true =>
  rw [ht] at h
  refine aF8 h fun es kt tp h=>?_
  refine aU2 h fun tx ty h=>?_
  refine t0 h fun x px h=>?_
  refine t0 h fun y py h=>?_
  refine f0 h fun hs h2=>?_
  clear h
  rw [Bool.and_eq_true] at hs
  refine j4 (aL9 hs.1) fun e_210 ok=>?_
  obtain rfl:=e_210
  refine aE6 hs.2 ?_
  revert K;refine w9 h2 fun ks e k1 k2 K=>?_
  exact K _ iter _ ks.1 ks.2 e none _ _ (bp1 ok) k1 k2 (.inl ⟨rfl,rfl⟩) rfl
 | false =>
  rw [ht] at h
  refine t0 h fun x px h=>?_
  refine f0 h fun hs h2=>?_
  clear h
  refine j4 (aY8 hs) fun e_211 ok=>?_
  obtain rfl:=e_211
  cases ifs with
  | nil =>
   revert K;refine w9 h2 fun ks e k1 k2 K=>?_
   exact K _ iter [] ks.1 ks.2 e none _ _ (aQ1 ok) k1 k2 (.inl ⟨rfl,rfl⟩) rfl
  | cons te r =>
   refine f0 h2 fun h6 h3=>?_
   clear h2
   refine aE6 h6 ?_
   revert K;refine C1 h3 fun ks e ti k1 k2 k3 K=>?_
   exact K _ iter [te] ks.1 ks.2 e (some ti) _ _ (aQ1 ok) k1 k2 (.inr ⟨te,ti,rfl,rfl,k3⟩) rfl
theorem cm8 {n:Nat}{c:CC}{elt:Expr}{gens:List Comprehension}{scope:Scope}{pos:Pos}{ie:IE}(g:GOk D c.G c.mts)(ih:∀ c e ie,GOk D c.G c.mts→g8 n c e=some ie→Q0 D Φ k c e ie)(h:cLc (g8 n) c elt gens scope=some ie):Q0 D Φ k c (.ListComp elt gens scope pos) ie :=
 be2 (D:=D) (Φ:=Φ) (k:=k) h fun _ _ _ _ _ _ _ _ _ cg h1 h2 ht hie=>ba3 g ih cg h1 h2 ht (ag6 h1) hie
theorem aW8 {o:Option V}(h:cb6 o=true):o=some .bk:=by
 cases o with
 | none=>exact Bool.noConfusion h
 | some v=>cases v with
  | bk=>rfl
  | _=>exact Bool.noConfusion h
theorem cm1 {n:Nat}{c:CC}{fn:Expr}{args:List Expr}{p:Pos}{ie:IE}(hO:g7 D k Φ)(g:GOk D c.G c.mts)(ihE:∀ e ie,g8 n c e=some ie→SE D Φ k c e ie)(h:bD5 (g8 n c) c fn args p=some ie):Q0 D Φ k c (.Call fn args [] p) ie:=by
 refine f0 h fun hs h=>?_
 rw [Bool.and_eq_true,Bool.not_eq_true'] at hs
 cases hn:fn.ctorIdx==23 with
 | true =>
  rw [hn] at h
  refine t0 h fun x px h=>?_
  cases hb:cb6 (U8 c x) with
  | true =>
   rw [hb] at h
   refine f0 h fun h0 h=>?_
   obtain rfl:=Option.some.inj h
   exact aE6 h0 (bW2 g hO (aW8 hb))
  | false =>
   rw [hb] at h
   exact w9 h fun a b h1 h2=>bQ5 g hO ihE hs.1 h1 h2
 | false =>
  rw [hn] at h
  refine aU8 h fun o name apos h=>?_
  refine f0 h fun hs2 h=>?_
  rw [Bool.and_eq_true] at hs2
  have hl:=Nat.eq_of_beq_eq_true hs2.2
  cases hm:b31 name with
  | some m =>
   rw [hm] at h
   rw [aP3 hm]
   have h:bt5 (g8 n c) m args (g8 n c o)=some ie:=h
   unfold bt5 at h
   cases hone:m.one with
   | true =>
    rw [hone] at h
    have hst:=hs.1
    revert hst;refine ad3 h fun a h hst=>?_
    rw [List.any_cons,Bool.or_eq_false_iff] at hst
    exact w9 h fun v ia ho hia=>bI1 (ihE _ _ ho) (ihE _ _ hia) hs2.1 hl hst.1 hone
   | false =>
    rw [hone] at h
    refine f0 h fun h0 h=>?_
    exact aE6 h0 (k8 h fun v ho=>bq0 (ihE _ _ ho) hs2.1 hl hone)
  | none =>
   rw [hm] at h
   refine f0 h fun hc h=>?_
   exact w9 h fun v as ho ha=>bu6 g hO ihE (ihE _ _ ho) hc hs2.1 hl hs.1 (Nat.ble_eq.mp hs.2) ha
theorem cl3 {n:Nat}{c:CC}{l:Expr}{ops:List CmpOp}{rs:List Expr}{p:Pos}{ie:IE}(ihE:∀ e ie,g8 n c e=some ie→SE D Φ k c e ie)(h:ci3 (g8 n c) (g8 n c l) ops rs=some ie):Q0 D Φ k c (.Compare l ops rs p) ie:=by
 cases ops with
 | nil=>exact b9 h
 | cons op ops =>
  cases ops with
  | nil =>
   refine ad3 ((show on1 rs _=some ie from h)) fun r h=>?_
   refine w9 h fun a b h1 h2=>?_
   exact ce8 (ihE _ _ h1) (ihE _ _ h2) (aR6 h2)
  | cons op2 ops =>
   refine f0 ((show g9 _ _=some ie from h)) fun hl h=>?_
   refine aU2 h fun r r' h=>?_
   refine C1 h fun a b d h1 h2 h3=>?_
   cases ops with
   | nil=>exact bL0 (ihE _ _ h1) (ihE _ _ h2) (ihE _ _ h3) (aR6 h3)
   | cons _ _=>exact Bool.noConfusion hl
theorem aO8 (hO:g7 D k Φ):∀ (n:Nat) (c:CC) (e:Expr) (ie:IE),GOk D c.G c.mts→g8 n c e=some ie→Q0 D Φ k c e ie:=by
 intro n
 induction n with
 | zero=>intro c e ie g h;exact b9 h
 | succ n ih =>
  intro c e ie g h
  have ihB:∀ e ie,g8 n c e=some ie→Q0 D Φ k c e ie:=fun e ie h=>ih c e ie g h
  have ihE:∀ e ie,g8 n c e=some ie→SE D Φ k c e ie:=fun e ie h=>(ihB e ie h).1
  cases e with
  | Constant kk a b =>
   refine k8 h fun W hW=>?_;exact bl5 hW
  | Name x p=>exact bC9 g h
  | BinOp l op r p=>refine w9 h fun a b h1 h2=>?_;exact b82 (ihE _ _ h1) (ihE _ _ h2)
  | UnaryOp op x p =>
   cases op with
   | USub=>refine k8 h fun a ha=>?_;exact bY2 (ihE _ _ ha)
   | Not=>refine k8 h fun a ha=>?_;exact ce3 (ihB _ _ ha)
   | _=>exact b9 h
  | BoolOp op vs p =>
   refine j2 h fun ies h1 h2=>?_
   cases op with
   | And=>exact bO6 ihB h1 h2
   | Or=>exact cj7 ihB h1 h2
  | IfExp t a b p=>refine C1 h fun a b d h1 h2 h3=>?_;exact bY1 (ihB _ _ h1) (ihB _ _ h2) (ihB _ _ h3)
  | Compare l ops rs p=>exact cl3 ihE h
  | Tuple es a p =>
   refine f0 h fun hs h=>?_
   refine k8 h fun a ha=>?_
   exact bV0 ihE (aF7 hs) ha
  | List es p =>
   refine f0 h fun hs h=>?_
   refine k8 h fun a ha=>?_
   exact cc4 ihE (aF7 hs) ha
  | Call f args kw p =>
   refine f0 h fun hs h=>?_
   obtain rfl:kw=[]:=List.isEmpty_iff.mp hs
   exact cm1 hO g ihE h
  | Subscript o i p =>
   have h:bT3 (g8 n c) o i=some ie:=h
   unfold bT3 at h
   cases hi:i.ctorIdx==26 with
   | true =>
    rw [hi] at h
    refine aL4 h fun lo hi st sp h=>?_
    cases st with
    | none=>exact C1 h fun a b d h1 h2 h3=>bt1 ihE h1 h2 h3
    | some e =>
     refine f0 h fun h0 h=>?_
     rw [Bool.and_eq_true] at h0
     obtain rfl:=Option.isNone_iff_eq_none.mp h0.1
     obtain rfl:=Option.isNone_iff_eq_none.mp h0.2
     exact w9 h fun a b h1 h2=>bT2 (ihE _ _ h1) h2
   | false =>
    rw [hi] at h
    exact w9 h fun a b h1 h2=>b67 (ihE _ _ h1) (ihE _ _ h2) (be3 h2)
  | ListComp elt gens scope pos=>exact cm8 g ih h
  | Attribute o x p =>
   refine f0 h fun hc h=>?_
   rw [Bool.and_eq_true] at hc
   refine k8 h fun a ha=>?_
   exact bA3 g (ihE _ _ ha) hc.1 hc.2
  | Dict ks vs p=>exact bE3 ihE h
  | _=>exact b9 h
end
end Mine
namespace Mine
open PySem PyProof.Rows
noncomputable def ac6 (env:Env):List Addr:=env.locals::env.cells.map (·.2)
structure FRel (D:Wd)(γ:List Addr)(env:Env)(slots:List (Str × Nat))(h:Heap)(L:Lc):Prop where
 l:LRel D γ env slots h L
 own:∀ a∈ac6 env,a∉γ∧D.hB.get? a=none∧(∃ o,h.get? a=some o)∧∀ ws,¬ TupAt h a ws
 apart:env.cells.Pairwise fun x y=>x.2≠y.2
 above:∀ p∈env.cells,p.2≠env.locals
 top:∃ outer,D.fr=env::outer∧env.frame=some env.locals
noncomputable def b12 (mg:Wd)(γ:List Addr)(h:Heap)(fl:Flow)(F:Fl):Prop:=match F with
 | .next=>fl=.next
 | .ret V=>∃ v,fl=.ret v∧Rep mg γ h v V
inductive PostF (D:Wd)(γ:List Addr)(s:Shared)(env:Env)(slots:List (Str × Nat))(Q:QS)(fl:Flow)(s':Shared):Prop where
 | mk:∀ γ' H' L' F,Stp (ac6 env) γ γ' s s'→HRel D γ' H' s'.heap→FRel D γ' env slots s'.heap L'→b12 D γ' s'.heap fl F→Q F L' H'→PostF D γ s env slots Q fl s'
inductive PostE (D:Wd)(γ:List Addr)(s:Shared)(env:Env)(slots:List (Str × Nat))(X:XS)(e:Value)(s':Shared):Prop where
 | mk:∀ γ' H' L' x,Stp (ac6 env) γ γ' s s'→HRel D γ' H' s'.heap→FRel D γ' env slots s'.heap L'→((XNew D γ' s s'.heap e x∨XFly D γ' s s'.heap e x)∧(x.cls,x.ups)∈D.ex)→X x L' H'→PostE D γ s env slots X e s'
theorem PostE.no {D:Wd}{γ:List Addr}{s:Shared}{env:Env}{slots:List (Str × Nat)}{e:Value}{s':Shared}(h:PostE D γ s env slots aR0 e s'):False:=by
 obtain ⟨_,_,_,_,_,_,_,_,x⟩:=h;exact x
structure K9 (c:CC):Prop where
 inj:∀ (x y:Str) (i:Nat),c.slots.lookup x=some i→c.slots.lookup y=some i→x=y
section
variable {D:Wd} {Φ:Orc} {k:Nat} {γ γ1:List Addr} {H H1:Hp} {s s1:Shared} {env:Env} {slots:List (Str × Nat)} {L:Lc}
theorem FRel.stp (f:FRel D γ env slots s.heap L)(R:HRel D γ H s.heap)(t:Stp [] γ γ1 s s1):FRel D γ1 env slots s1.heap L where
 l:=f.l.stp R t
 own:=fun a ha=>by
  refine a95 (f.own a ha) fun h1 h2 e_212 h3=>?_
  refine e1_1 e_212 fun o e=>?_
  refine e1_2 (t.keepS _ _ h1 (fun h=>nomatch h) e) fun sl e' hs=>?_
  refine ⟨E1 t h1 e,h2,⟨_,e'⟩,fun ws q=>h3 ws ?_⟩
  refine e1_2 q fun n q1 q2=>?_
  rw [e'] at q1
  have hd:o.data=.seq ws.toArray n:=congrArg Obj.data (Option.some.inj q1)
  rw [hs (O7 hd)] at q1
  exact ⟨n,e.trans q1,q2⟩
 apart:=f.apart
 above:=f.above
 top:=f.top
theorem Stp.transF {wr γ2:List Addr}{s2:Shared}(R1:HRel D γ1 H1 s1.heap)(a:Stp wr γ γ1 s s1)(b:Stp wr γ1 γ2 s1 s2)(hw:∀ x∈wr,∃ o',s1.heap.get? x=some o'):Stp wr γ γ2 s s2 :=
 a.trans R1 b (fun x hx _ _=>hw x hx)
theorem FRel.alive (f:FRel D γ env slots s.heap L):∀ x∈ac6 env,∃ o',s.heap.get? x=some o':=fun x hx=>by
 obtain ⟨_,_,e,_⟩:=f.own x hx;exact e
theorem PostF.back {Q:QS}{fl:Flow}{s':Shared}{L1:Lc}(t:Stp (ac6 env) γ γ1 s s1)(R:HRel D γ1 H1 s1.heap)(f:FRel D γ1 env slots s1.heap L1)(h:PostF D γ1 s1 env slots Q fl s'):PostF D γ s env slots Q fl s':=by
 obtain ⟨γ',H',L',F,a,b,c,d,e⟩:=h
 exact ⟨γ',H',L',F,t.transF R a f.alive,b,c,d,e⟩
theorem T5 {wr:List Addr}(t:Stp wr γ γ1 s s1)(R:HRel D γ1 H1 s1.heap)(hw:∀ x∈wr,∃ o',s1.heap.get? x=some o'){a:Addr}(h:s1.heap.get? a=none):s.heap.get? a=none:=by
 cases e:s.heap.get? a with
 | none=>rfl
 | some o =>
  by_cases hg:a∈γ
  ·refine e1_2 (t.ext) fun δ e1 _=>?_
   obtain ⟨⟨o',e'⟩,_⟩:=R.alive (a:=a) (by rw [e1];exact List.mem_append_left _ hg)
   rw [h] at e';exact b9 e'
  ·by_cases hx:a∈wr
   ·refine e1_1 (hw a hx) fun o' e'=>?_
    rw [h] at e';exact b9 e'
   ·refine e1_1 (t.live hg hx e) fun o' e'=>?_
    rw [h] at e';exact b9 e'
theorem PostE.back {X:XS}{e:Value}{s':Shared}{L1:Lc}(t:Stp (ac6 env) γ γ1 s s1)(R:HRel D γ1 H1 s1.heap)(f:FRel D γ1 env slots s1.heap L1)(h:PostE D γ1 s1 env slots X e s'):PostE D γ s env slots X e s':=by
 obtain ⟨γ',H',L',x,a,b,c,⟨d,m⟩,q⟩:=h
 have fb:∀ a,s1.heap.get? a=none→s.heap.get? a=none:=fun a=>T5 t R f.alive
 exact ⟨γ',H',L',x,t.transF R a f.alive,b,c,⟨d.imp (·.from fb) (·.from fb),m⟩,q⟩
theorem PostX.toE {X:XS}{e:Value}{s':Shared}(f:FRel D γ env slots s.heap L)(R:HRel D γ H s.heap)(h:PostX D γ s (fun x=>X x L) e s'):PostE D γ s env slots X e s':=by
 obtain ⟨γ',H',x,a,b,⟨c,m⟩,q⟩:=h
 exact ⟨γ',H',L,x,a.weak,b,f.stp R a,⟨.inr c,m⟩,q⟩
theorem E6 {x:Str}{c:Addr}(h:env.cells.lookup x=some c):c∈ac6 env:=List.mem_cons_of_mem _ (List.mem_map.mpr ⟨(x,c),mem_of_lookup h,rfl⟩)
theorem af1 {h:Heap}{c:Addr}{u:Option Value}(x:h.IsCell c u)(ws:List Value):¬ TupAt h c ws:=fun q=>by
 refine e1_2 x fun o e d=>?_
 refine e1_2 q fun n e' _=>?_
 rw [e] at e';cases e';cases d
theorem J0 {h h':Heap}{a:Addr}{o:Obj}(e:h.get? a=some o)(e':h'.get? a=some o)(q:∀ ws,¬ TupAt h a ws)(ws:List Value):¬ TupAt h' a ws:=fun x=>by
 refine e1_2 x fun n q1 q2=>?_
 rw [e'] at q1;cases q1
 exact q ws ⟨n,e,q2⟩
theorem N5 {c:CC}{A:Around}{E:Value→Shared→Prop}{x:Str}{i:Nat}{v:Value}{W:V}(hE:s8 c env)(so:K9 c)(R:HRel D γ H s.heap)(f:FRel D γ env c.slots s.heap L)(hs:ag9 c x=some i)(rv:Rep D γ s.heap v W) :
  wpAny D.M A (storeName env x v) (fun _ s'=>Stp (ac6 env) γ γ s s'∧HRel D γ H s'.heap∧FRel D γ env c.slots s'.heap (L.set i (some W))) E s:=by
 have hkf:env.scope.kind=.function:=by rw [hE.scope];exact hE.kind
 have hkind:∀ y,env.kindOf y=c.scope.names.lookup y:=fun y=>by unfold Env.kindOf;rw [hE.scope]
 refine j2 hs fun kk hk hs=>?_
 have hk':env.kindOf x=some kk:=(hkind x).trans hk
 cases kk with
 | «local» =>
  have hs:c.slots.lookup x=some i:=hs
  refine e1_2 (f.l.ns) fun m hn fm=>?_
  refine a95 (f.own env.locals List.mem_cons_self) fun lg lB _ cL=>?_
  refine wpAny_storeName_local hk' hn (fun h' hn' hs'=>?_) (by rw [hkf];rfl)
  have hkk:∀ b o,b≠env.locals→s.heap.get? b=some o→h'.get? b=some o:=fun b o hb e=>hs'.extBut b o hb e
  have tt:∀ a ws,TupAt s.heap a ws→TupAt h' a ws:=fun a ws q=>k7 hkk cL q
  refine ⟨Stp.of ⟨_,_,rfl⟩ (fun b o _ hb e=>hkk b o (fun q=>hb (q▸List.mem_cons_self)) e) ⟨[],by simp,by simp⟩,R.but hkk lg lB cL (.inr (.inl (bd8 hn'))),⟨⟨⟨_,hn',?_⟩,?_,lg,f.l.tp⟩,?_,f.apart,f.above,f.top⟩⟩
  ·intro y j V hy hj hL
   by_cases hxy:y=x
   ·subst hxy
    rw [hs] at hj;obtain rfl:=Option.some.inj hj
    obtain rfl:=ah7 hL
    exact ⟨v,by simp,Rep.mono ⟨[],by simp⟩ tt rv⟩
   ·have hij:i≠j:=fun q=>hxy (so.inj y x i (q▸hj) hs)
    rw [List.getElem?_set_ne hij] at hL
    refine e1_2 (fm y j V hy hj hL) fun u hu ru=>?_
    exact ⟨u,by simp [hxy,hu],Rep.mono ⟨[],by simp⟩ tt ru⟩
  ·intro y hy
   refine e2_4 (f.l.cel y hy) fun ca u e1 e2 e3 e4=>?_
   refine ⟨ca,u,e1,e2.sameBut hs' (f.above (y,ca) (mem_of_lookup e1)),e3,fun j V hj hL=>?_⟩
   have hij:i≠j:=fun q=>by
    have:=so.inj y x i (q▸hj) hs
    subst this;rw [hy] at hk';cases hk'
   rw [List.getElem?_set_ne hij] at hL
   refine e1_2 (e4 j V hj hL) fun w hw rw_=>?_
   exact ⟨w,hw,Rep.mono ⟨[],by simp⟩ tt rw_⟩
  ·intro a ha
   refine a95 (f.own a ha) fun a1 a2 e_215 a3=>?_
   refine e1_1 e_215 fun o e=>?_
   by_cases hal:a=env.locals
   ·subst hal
    exact ⟨a1,a2,(let ⟨o',_,_,eo,_⟩:=hn'; ⟨o',eo⟩),A5 hn'⟩
   ·exact ⟨a1,a2,⟨o,hkk _ _ hal e⟩,J0 e (hkk _ _ hal e) a3⟩
 | cell =>
  have hs:c.slots.lookup x=some i:=hs
  refine e2_4 (f.l.cel x hk') fun ca u e1 e2 e3 e4=>?_
  refine a95 (f.own ca (E6 e1)) fun lg lB _ cL=>?_
  have hcl:ca≠env.locals:=f.above (x,ca) (mem_of_lookup e1)
  refine wpAny_storeName_cell hkf hk' e1 e2 (fun h' hc' hs'=>?_)
  have hkk:∀ b o,b≠ca→s.heap.get? b=some o→h'.get? b=some o:=fun b o hb e=>hs'.extBut b o hb e
  have tt:∀ a ws,TupAt s.heap a ws→TupAt h' a ws:=fun a ws q=>k7 hkk cL q
  refine e1_2 (f.l.ns) fun m hn fm=>?_
  refine ⟨Stp.of ⟨_,s.toks,rfl⟩ (fun b o _ hb e=>hkk b o (fun q=>hb (q▸E6 e1)) e) ⟨[],by simp,by simp⟩,R.but hkk lg lB cL (.inl (let ⟨o,e,d⟩:=e2; ⟨o,e,fun es n q=>by rw [d] at q;cases q⟩)),⟨⟨⟨m,hn.sameBut hs' (Ne.symm hcl),?_⟩,?_,f.l.nin,f.l.tp⟩,?_,f.apart,f.above,f.top⟩⟩
  ·intro y j V hy hj hL
   have hij:i≠j:=fun q=>by
    have:=so.inj y x i (q▸hj) hs
    subst this;rw [hy] at hk';cases hk'
   rw [List.getElem?_set_ne hij] at hL
   refine e1_2 (fm y j V hy hj hL) fun w hw rw_=>?_
   exact ⟨w,hw,Rep.mono ⟨[],by simp⟩ tt rw_⟩
  ·intro y hy
   by_cases hxy:y=x
   ·subst hxy
    refine ⟨ca,some v,e1,hc',e3,fun j V hj hL=>?_⟩
    rw [hs] at hj;obtain rfl:=Option.some.inj hj
    obtain rfl:=ah7 hL
    exact ⟨v,rfl,Rep.mono ⟨[],by simp⟩ tt rv⟩
   ·refine e2_4 (f.l.cel y hy) fun cb u' f1 f2 f3 f4=>?_
    have hne:cb≠ca:=fun q=>hxy (name_of_addr f.apart (mem_of_lookup f1) (q▸mem_of_lookup e1))
    refine ⟨cb,u',f1,f2.sameBut hs' hne,f3,fun j V hj hL=>?_⟩
    have hij:i≠j:=fun q=>hxy (so.inj y x i (q▸hj) hs)
    rw [List.getElem?_set_ne hij] at hL
    refine e1_2 (f4 j V hj hL) fun w hw rw_=>?_
    exact ⟨w,hw,Rep.mono ⟨[],by simp⟩ tt rw_⟩
  ·intro a ha
   refine a95 (f.own a ha) fun a1 a2 e_216 a3=>?_
   refine e1_1 e_216 fun o e=>?_
   by_cases hal:a=ca
   ·subst hal
    exact ⟨a1,a2,(let ⟨o',eo,_⟩:=hc'; ⟨o',eo⟩),af1 hc'⟩
   ·exact ⟨a1,a2,⟨o,hkk _ _ hal e⟩,J0 e (hkk _ _ hal e) a3⟩
 | _=>exact b9 hs
end
section
variable {D:Wd} {γ γ1 γ0:List Addr} {H H1 H0:Hp} {s s1:Shared} {env:Env} {slots:List (Str × Nat)} {L:Lc} {ex:List Addr} {h h':Heap}
theorem FRel.butN {h h':Heap}{I:Addr}(f:FRel D γ env slots h L)(hk:∀ b o,b≠I→h.get? b=some o→h'.get? b=some o)(hI:I∉ac6 env)(nt:∀ ws,¬ TupAt h I ws):FRel D γ env slots h' L where
 l:={
  ns:=by
   refine e1_2 (f.l.ns) fun m n r=>?_
   refine ⟨m,n.at' fun o e=>hk _ o (fun q=>hI (q▸List.mem_cons_self)) e,fun x i V a b c=>?_⟩
   refine e1_2 (r x i V a b c) fun v e q=>?_
   exact ⟨v,e,Rep.mono ⟨[],by simp⟩ (fun _ _ q=>k7 hk nt q) q⟩
  cel:=fun x hx=>by
   refine e2_4 (f.l.cel x hx) fun c u a e_217 hc r=>?_
   refine e1_2 e_217 fun o ho hd=>?_
   refine ⟨c,u,a,⟨o,hk _ _ (fun q=>hI (q▸E6 a)) ho,hd⟩,hc,fun i V b d=>?_⟩
   refine e1_2 (r i V b d) fun v e q=>?_
   exact ⟨v,e,Rep.mono ⟨[],by simp⟩ (fun _ _ q=>k7 hk nt q) q⟩
  nin:=f.l.nin
  tp:=f.l.tp }
 own:=fun a ha=>by
  refine a95 (f.own a ha) fun a1 a2 e_218 a3=>?_
  refine e1_1 e_218 fun o e=>?_
  have e':=hk a o (fun q=>hI (q▸ha)) e
  exact ⟨a1,a2,⟨o,e'⟩,J0 e e' a3⟩
 apart:=f.apart
 above:=f.above
 top:=f.top
theorem Stp.butF {wr:List Addr}{h':Heap}{tk:Nat}{z:Addr}(t:Stp wr γ γ1 s s1)(hk:∀ b o,b≠z→s1.heap.get? b=some o→h'.get? b=some o)(hz:s.heap.get? z=none):Stp wr γ γ1 s { s1 with heap:=h',toks:=tk }:=by
 refine ⟨?_,fun b o hb hw e=>let ⟨sl,e',q⟩:=t.keepS b o hb hw e; ⟨sl,hk b _ (by rintro rfl;rw [hz] at e;exact b9 e) e',q⟩,t.ext⟩
 refine e2_1 (t.same) fun h1 t1 e_219=>?_
 obtain rfl:=e_219
 exact ⟨_,_,rfl⟩
theorem Land.frel (l:Land ex h h')(R:HRel D γ H h)(X:ExF D γ s h ex)(alive:∀ a∈ac6 env,∃ o,s.heap.get? a=some o)(f:FRel D γ env slots h L):FRel D γ env slots h' L where
 l:={
  ns:=by
   refine e1_2 (f.l.ns) fun m n r=>?_
   refine ⟨m,l.up.ns n,fun x i V a b c=>?_⟩
   refine e1_2 (r x i V a b c) fun v e q=>?_
   exact ⟨v,e,l.rep R.frs X q⟩
  cel:=fun x hx=>by
   refine e2_4 (f.l.cel x hx) fun c u a e_220 hc r=>?_
   refine e1_2 e_220 fun o ho hd=>?_
   refine ⟨c,u,a,⟨o,l.same R.frs X (fun es n q=>by rw [hd] at q;cases q) (fun vs q=>by rw [hd] at q;cases q) ho,hd⟩,hc,fun i V b d=>?_⟩
   refine e1_2 (r i V b d) fun v e q=>?_
   exact ⟨v,e,l.rep R.frs X q⟩
  nin:=f.l.nin
  tp:=f.l.tp }
 own:=fun a ha=>by
  refine a95 (f.own a ha) fun a1 a2 e_221 a3=>?_
  refine e1_1 e_221 fun o e=>?_
  by_cases hx:a∈ex
  ·rcases X.each a hx with q|⟨q,_⟩
   ·obtain ⟨_,o',e',d⟩:=R.frs.at q
    rw [e] at e';cases e'
    refine e1_1 (l.up a o e fun vs q=>d (m5 q)) fun sl e2=>?_
    refine ⟨a1,a2,⟨_,e2⟩,fun ws t=>d ?_⟩
    refine e1_2 t fun n t1 _=>?_
    rw [e2] at t1
    have hd:o.data=.seq ws.toArray n:=congrArg Obj.data (Option.some.inj t1)
    exact O7 hd
   ·refine e1_1 (alive a ha) fun o' e'=>?_
    rw [e'] at q;cases q
  ·have e2:=l.stays a o hx e
   exact ⟨a1,a2,⟨o,e2⟩,J0 e e2 a3⟩
 apart:=f.apart
 above:=f.above
 top:=f.top
theorem bE1 {a:Addr}(R:HRel D γ H h)(X:ExF D γ s h ex)(ha:a∈ex):a∉γ:=by
 rcases X.each a ha with q|⟨_,_,q,_⟩
 ·exact (R.frs.at q).1.2
 ·exact q
theorem aV8 {A:Around}{X:XS}{e:Value}{k:Nat}(hA:AOk D k A)(R0:HRel D γ H s.heap)(alive:∀ a∈ac6 env,∃ o,s.heap.get? a=some o)(p:PostE D γ s env slots X e s1) :
  notedBy D.M A env (fun e s'=>cameBackBy D.M A env (PostE D γ s env slots X) e s') e s1:=by
 obtain ⟨γ',H',L',x,st,R1,fr1,⟨hx,hex⟩,q⟩:=p
 refine e1_2 (fr1.top) fun outer htop hfr=>?_
 refine ar8 hA.frames R0 R1 htop hfr hx fun a C a0 ex h' e1 hmg hn hax XF up hh=>?_
 subst e1
 refine cl0 hh fun h2 hh2 up2=>?_
 obtain ⟨k1,k2,k3,fl,k4⟩:=hh2
 have land:Land ex s1.heap h2:=Land.of k1 (up.trans up2)
 exact ⟨γ',H',L',x,land.stp R1.frs XF st,land.rel R1 XF,land.frel R1 XF alive fr1,⟨.inr (a98 (fun b=>T5 st R1 fr1.alive) R1.frs (fun b hb=>(R1.nin hb).1) (bE1 R1 XF hax) XF land hmg hn k4),hex⟩,q⟩
end
end Mine
set_option maxRecDepth 100000
namespace Mine
open PySem
open Sem (wp)
section
variable {prog:Program} {w:World} {A:Around} {E:Value→Shared→Prop} {h:Heap} {g:Array GenState} {d:Drawn} {t:Nat} {os:OsState} {a C:Addr} {o:Obj} {bm:List Value}
theorem aH2 {M:Model}{base:Value}{Q:Bool→Shared→Prop}(hC:ClsAt h C bm)(hq:Q ((Value.ref C::bm).contains base) ⟨h,g,d,t,os⟩):wpAny M A (isSubtype (.ref C) base) Q E ⟨h,g,d,t,os⟩:=by
 obtain ⟨N,nm,q,bs,hdct,sn,sub,ab,col,dd,k0,k1,k2,k3,k5,mN,hC,hN,hmN,T⟩:=hC
 exact wpAny_isSubtype_exc hC hq
theorem co7 (hC:ClsAt h C bm){X:String}{b:Bool}(hb:bmV.contains (.type X)=b):(Value.ref C::bm).contains (.type X)=b:=by
 obtain ⟨N,nm,q,bs,hdct,sn,sub,ab,col,dd,k0,k1,k2,k3,k5,mN,hC,hN,hmN,T⟩:=hC
 rw [List.contains_cons,T.hasType hb];rfl
theorem bv5 (hC:ClsAt h C bm):∃ oC cd,h.get? C=some oC∧oC.cls=.type "type"∧oC.data=.cls cd:=by
 obtain ⟨N,nm,q,bs,hdct,sn,sub,ab,col,dd,k0,k1,k2,k3,k5,mN,hC,hN,hmN,T⟩:=hC
 exact ⟨_,_,hC,rfl,rfl⟩
theorem a45 {M:Model}{Cy:Addr}{bmy:List Value}{Q:Bool→Shared→Prop}{s:Shared}(hC:ClsAt s.heap C bm)(hCy:ClsAt s.heap Cy bmy)(hx:s.heap.get? a=some o)(hc:o.cls=.ref C)
  (hq:Q ((Value.ref C::bm).contains (.ref Cy)) s):wpAny M A (excMatches (.ref a) (.ref Cy)) Q E s:=by
 obtain ⟨h,g,d,t,os⟩:=s
 refine e2_3 (bv5 hCy) fun oy cdy hy1 hy2 hy3=>?_
 have hcB:(Value.ref Cy::bmy).contains (.type "BaseException")=true:=co7 hCy rfl
 have f:=tc_notTuple
 unfold excMatches
 cases hb:(Value.ref C::bm).contains (.ref Cy) with
 | true =>
  rw [hb] at hq
  repeat (any_goals (first|assumption|(with_reducible refine wpAny_loadPart_at hx ?_;rw [hc])|(with_reducible refine wpAny_loadPart_at hy1 ?_;rw [hy2])|(with_reducible refine wpAny_loadPart_at hy1 ?_;rw [hy3])|(with_reducible refine aH2 hCy ?_;rw [hcB])|(with_reducible refine aH2 hC ?_;rw [hb])|wp_step))
 | false =>
  rw [hb] at hq
  repeat (any_goals (first|assumption|(with_reducible refine wpAny_loadPart_at hx ?_;rw [hc])|(with_reducible refine wpAny_loadPart_at hy1 ?_;rw [hy2])|(with_reducible refine wpAny_loadPart_at hy1 ?_;rw [hy3])|(with_reducible refine aH2 hCy ?_;rw [hcB])|(with_reducible refine aH2 hC ?_;rw [hb])|wp_step))
end
end Mine
namespace Mine
open PySem PyProof.Rows
noncomputable def SS (D:Wd)(Φ:Orc)(k:Nat)(c:CC)(st:Stmt)(is:IS):Prop:=∀ env A γ H s L Q X,s8 c env→AOk D k A→HRel D γ H s.heap→FRel D γ env c.slots s.heap L →
 wpS Φ is L H Q X→wpAny D.M A (exec st env) (PostF D γ s env c.slots Q) (PostE D γ s env c.slots X) s
noncomputable def SSs (D:Wd)(Φ:Orc)(k:Nat)(c:CC)(sts:List Stmt)(iss:List IS):Prop:=∀ env A γ H s L Q X,s8 c env→AOk D k A→HRel D γ H s.heap→FRel D γ env c.slots s.heap L →
 j1 Φ iss L H Q X→wpAny D.M A (execs sts env) (PostF D γ s env c.slots Q) (PostE D γ s env c.slots X) s
section
variable {D:Wd} {Φ:Orc} {k:Nat} {c:CC}
theorem aT1 {f:Stmt→Option IS}(ih:∀ st is,f st=some is→SS D Φ k c st is):∀ (sts:List Stmt) (iss:List IS),K6 f sts=some iss→SSs D Φ k c sts iss
 | [],iss,hm=>by
  rw [C6 hm]
  intro env A γ H s L Q X hE hA R fr w
  exact wpAny_execs_nil ⟨γ,H,L,.next,Stp.refl,R,fr,rfl,w⟩
 | st::r,iss,hm=>by
  refine e2_3 (r8 hm) fun b bs e_223 h1 h2=>?_
  obtain rfl:=e_223
  intro env A γ H s L Q X hE hA R fr w
  refine wpAny_execs_cons (wpAny_mono (ih st b h1 env A γ H s L _ X hE hA R fr w) (fun fl s1 p=>?_) fun _ _ x=>x)
  obtain ⟨γ1,H1,L1,F,st1,R1,fr1,hf,q⟩:=p
  cases F with
  | next =>
   obtain rfl:=hf
   exact wpAny_mono (aT1 ih r bs h2 env A γ1 H1 s1 L1 Q X hE hA R1 fr1 q) (fun _ _ x=>x.back st1 R1 fr1) fun _ _ x=>x.back st1 R1 fr1
  | ret V =>
   refine e1_2 hf fun v e_224 rv=>?_
   obtain rfl:=e_224
   exact ⟨γ1,H1,L1,.ret V,st1,R1,fr1,⟨v,rfl,rv⟩,q⟩
theorem ca3 {env:Env}(hE:s8 c env):env.scope.kind=.function:=by rw [hE.scope];exact hE.kind
theorem bz8 {e:Expr}{pos:Pos}{ie:IE}(h:SE D Φ k c e ie)(hc:aF5 e=false):SS D Φ k c (.Expr e pos) (.expr ie):=by
 intro env A γ H s L Q X hE hA R fr w
 have hk:=ca3 hE
 refine wpAny_Expr_any (wpAny_mono (h env A γ H s L _ _ hE hA R fr.l w) (fun v s1 p=>?_) fun _ _ x=>x.toE fr R) (by unfold interactive;rw [hk];rfl) (by cases e<;>first|rfl|exact Bool.noConfusion hc)
 obtain ⟨γ1,V,H1,st,R1,rv,q⟩:=p
 exact ⟨γ1,H1,L,.next,st.weak,R1,fr.stp R st,rfl,q⟩
theorem b76 {e:Expr}{pos:Pos}{ie:IE}(h:SE D Φ k c e ie):SS D Φ k c (.Return (some e) pos) (.ret ie):=by
 intro env A γ H s L Q X hE hA R fr w
 refine wpAny_Return_some (wpAny_mono (h env A γ H s L _ _ hE hA R fr.l w) (fun v s1 p=>?_) fun _ _ x=>x.toE fr R)
 obtain ⟨γ1,V,H1,st,R1,rv,q⟩:=p
 exact ⟨γ1,H1,L,.ret V,st.weak,R1,fr.stp R st,⟨v,rfl,rv⟩,q⟩
theorem a65 {e:Expr}{x:Str}{px pos:Pos}{ie:IE}{i:Nat}(so:K9 c)(h:SE D Φ k c e ie)(hs:ag9 c x=some i)(hw:∀ env,s8 c env→swapsWith e (some (.Name x px)) pos.line env=pure false) :
  SS D Φ k c (.Assign [.Name x px] e pos) (.assign i ie):=by
 intro env A γ H s L Q X hE hA R fr w
 refine wpAny_Assign_Name (wpAny_mono (h env A γ H s L _ _ hE hA R fr.l w) (fun v s1 p=>?_) fun _ _ x=>x.toE fr R) (hw env hE)
 obtain ⟨γ1,V,H1,st,R1,rv,q⟩:=p
 refine wpAny_mono (N5 hE so R1 (fr.stp R st) hs rv) (fun _ s2 p=>?_) fun _ _ x=>x
 refine R8 p fun st2 R2 fr2=>?_
 exact ⟨γ1,H1,_,.next,st.weak.transF R1 st2 (fr.stp R st).alive,R2,fr2,rfl,q⟩
theorem b47 {o i value:Expr}{pos' pos:Pos}{io ii iv:IE}(hv:SE D Φ k c value iv)(ho:SE D Φ k c o io)(hi:SE D Φ k c i ii)(hw:∀ env,swapsWith value (some (.Subscript o i pos')) pos.line env=pure false) :
  SS D Φ k c (.Assign [.Subscript o i pos'] value pos) (.setItem io ii iv):=by
 intro env A γ H s L Q X hE hA R fr w
 refine wpAny_Assign_Subscript (wpAny_mono (hv env A γ H s L _ _ hE hA R fr.l w) (fun v s1 p=>?_) fun _ _ x=>x.toE fr R) (hw env)
 obtain ⟨γ1,V,H1,st,R1,rv,q⟩:=p
 have fr1:=fr.stp R st
 refine wpAny_mono (ho env A γ1 H1 s1 L _ _ hE hA R1 fr1.l q) (fun ov s2 p=>?_) fun _ _ x=>(x.toE fr1 R1).back st.weak R1 fr1
 obtain ⟨γ2,Vo,H2,st2,R2,ro,q2⟩:=p
 have fr2:=fr1.stp R1 st2
 refine wpAny_mono (hi env A γ2 H2 s2 L _ _ hE hA R2 fr2.l q2) (fun iv s3 p=>?_) fun _ _ x=>(x.toE fr2 R2).back (st.trans0 R1 st2).weak R2 fr2
 obtain ⟨γ3,Vi,H3,st3,R3,ri,q3⟩:=p
 have fr3:=fr2.stp R2 st3
 have st03:=(st.trans0 R1 st2).trans0 R2 st3
 have rv3:=(rv.stp0 R1 st2).stp0 R2 st3
 have ro3:=ro.stp0 R2 st3
 refine e1_2 (d8 q3) fun j hj q3=>?_
 rw [q8 hj] at ro3
 refine e1_2 ro3 fun a ha e_225=>?_
 obtain rfl:=e_225
 cases Vi with
 | int m =>
  refine e1_3 (d8 q3) fun l hl hb q4=>?_
  refine e1_1 ri fun u e_226=>?_
  obtain rfl:=e_226
  refine e2_3 (R3.list ha hl) fun vs n e rs z=>?_
  have hlen:=rs.length
  refine PySem.W.ki_setAt (items:=vs.toArray) (n:=n) e hb.1 (by lia) (by rw [List.size_toArray];lia) ?_
  have e':=IsL.update e fun xs=>xs.setIfInBounds m.toNat v
  have em:vs.toArray.setIfInBounds m.toNat v=(vs.set m.toNat v).toArray:=by apply Array.toList_inj.mp;simp
  simp only [em] at e'
  have rs':Reps D γ3 s3.heap (vs.set m.toNat v) (l.set m.toNat V):=by
   refine Reps.of_get (by rw [List.length_set,List.length_set,hlen]) fun y w W h1 h2=>?_
   by_cases hy:m.toNat=y
   ·subst hy
    rw [List.getElem?_set_self (by lia)] at h1 h2
    obtain rfl:=Option.some.inj h1
    obtain rfl:=Option.some.inj h2
    exact rv3
   ·rw [List.getElem?_set_ne hy] at h1 h2
    refine e1_2 (rs.get h2) fun w' hw' rw'=>?_
    rw [h1] at hw';obtain rfl:=Option.some.inj hw';exact rw'
  have hk:∀ b o',b≠a→s3.heap.get? b=some o'→(s3.heap.update a (Obj.mapSeq fun xs=>xs.setIfInBounds m.toNat v)).get? b=some o':=fun b o' hb q=>(Heap.SameBut.update ..).extBut b o' hb q
  have st4:=ad2 (s:=s3) (tk:=s3.toks) ha hk
  exact ⟨γ3,_,L,.next,(st03.trans0 R3 st4).weak,R3.setList ha rs' (by rw [List.length_set,←hlen];exact z) e' hk,fr3.stp R3 st4,rfl,q4⟩
 | str x =>
  refine e1_3 (d8 q3) fun es he hb q4=>?_
  refine e1_2 ri fun u e_227 _=>?_
  obtain rfl:=e_227
  refine e1_3 (R3.dict ha he) fun kvs hd hf hz=>?_
  refine wpAny_setItem_pairs (knd:=strKind D.prog D.w) (k:=x) (bJ7 (t:=u)) hd (fun h' hd' hs=>?_) (by rw [sizeLine_eq];lia)
  have hk:∀ b o',b≠a→s3.heap.get? b=some o'→h'.get? b=some o':=fun b o' hb q=>hs.extBut b o' hb q
  have st4:=ad2 (s:=s3) (tk:=s3.toks+1) ha hk
  refine ⟨γ3,_,L,.next,(st03.trans0 R3 st4).weak,R3.setObj (o:=.dict ((x,V)::es)) ha hk fun ht=>⟨_,hd',?_,?_⟩,fr3.stp R3 st4,rfl,q4⟩
  ·rw [show valueAt (stored kvs x v)=fun y=>if y=x then some v else valueAt kvs y from funext fun y=>Q2 kvs x v y]
   exact (hf.mono ⟨[],by simp⟩ ht).cons (Rep.mono ⟨[],by simp⟩ ht rv3)
  ·exact Nat.le_trans (stored_length_le _ _ _) (Nat.succ_le_succ hz)
 | _=>exact q3.elim
theorem aY2 {o value:Expr}{x:Str}{pos' pos:Pos}{io iv:IE}(g:GOk D c.G c.mts)(hx:X9 x=true)(hv:SE D Φ k c value iv)(ho:SE D Φ k c o io)(hw:∀ env,swapsWith value (some (.Attribute o x pos')) pos.line env=pure false) :
  SS D Φ k c (.Assign [.Attribute o x pos'] value pos) (.setAttr io x iv):=by
 intro env A γ H s L Q X hE hA R fr w
 refine plainObj_wpAny_Assign_Attribute (wpAny_mono (hv env A γ H s L _ _ hE hA R fr.l w) (fun v s1 p=>?_) fun _ _ x=>x.toE fr R) (hw env)
 obtain ⟨γ1,V,H1,st,R1,rv,q⟩:=p
 have fr1:=fr.stp R st
 refine wpAny_mono (ho env A γ1 H1 s1 L _ _ hE hA R1 fr1.l q) (fun ov s2 p=>?_) fun _ _ x=>(x.toE fr1 R1).back st.weak R1 fr1
 obtain ⟨γ2,Vo,H2,st2,R2,ro,q2⟩:=p
 have fr2:=fr1.stp R1 st2
 have st02:=st.trans0 R1 st2
 have rv2:=rv.stp0 R1 st2
 refine e1_2 (d8 q2) fun i hi q3=>?_
 rw [q8 hi] at ro
 refine e1_3 (d8 q3) fun pr hp hb q4=>?_
 refine e1_2 ro fun a ha e_228=>?_
 obtain rfl:=e_228
 first|refine e6_4 (y5 R2 ha hp) fun o' dx m e hc hd hj I hf hno=>?_|refine e5_5 (y5 R2 ha hp) fun o' dx m e hc hd hj I hf hno=>?_|refine e4_6 (y5 R2 ha hp) fun o' dx m e hc hd hj I hf hno=>?_|refine e3_7 (y5 R2 ha hp) fun o' dx m e hc hd hj I hf hno=>?_|obtain ⟨o',dx,m,e,hc,hd,hj,I,hf,hno⟩:=y5 R2 ha hp
 obtain ⟨N,nm,qn,bs,sn,sub,col,dd,k0,k1,k2,k3,k5,hC,hN⟩:=g.bk.cls
 have hne:a≠D.bk:=fun q=>by
  have:=R2.fresh a (List.mem_of_getElem? ha)
  rw [q,hC] at this;exact b9 this.symm
 have hwi:PySem.Within m (pr.2.map (·.1)):=fun y hy=>by
  cases hl:pr.2.lookup y with
  | none=>exact absurd (hf.2 y hl) hy
  | some V=>exact List.mem_map.mpr ⟨(y,V),mem_of_lookup hl,rfl⟩
 obtain ⟨hh,gg,d,t,os⟩:=s2
 refine store_attr F.store_object (R2.base _ _ hC) (hN.keeps R2.base) g.bk.noS (g.bk.noF x hx) (aO6 hx) hne I (fun h' tk' I' hk hsame=>?_) hwi (by rw [List.length_map,sizeLine_eq];lia)
 obtain ⟨o1,e1,c1,d1,s1',dd1⟩:=hsame o' e
 have eo:o1=o':=by
  obtain ⟨a1,a2,a3,a4⟩:=o1
  obtain ⟨b1,b2,b3,b4⟩:=o'
  obtain rfl:a1=b1:=c1
  obtain rfl:a3=b3:=d1
  obtain rfl:a4=b4:=s1'
  obtain rfl:b2=some dx:=hd
  rw [show a2=some dx from dd1 dx rfl]
 rw [eo] at e1
 have hk2:∀ b ob,b≠dx→hh.get? b=some ob→h'.get? b=some ob:=fun b ob hb eb=>by
  by_cases hba:b=a
  ·subst hba
   rw [e1,←e];exact eb
  ·exact hk b ob hba (fun o₀ dy h1 h2=>by
    rw [e] at h1
    obtain rfl:=Option.some.inj h1
    rw [hd] at h2
    obtain rfl:=Option.some.inj h2
    exact hb) eb
 have st4:=ad2 (s:=⟨hh,gg,d,t,os⟩) (tk:=tk') hj hk2
 refine ⟨γ2,_,L,.next,(st02.trans0 R2 st4).weak,R2.setObj hj hk2 fun ht=>?_,fr2.stp R2 st4,rfl,q4⟩
 refine e1_4 I' fun o2 e2 _ _ hd2=>?_
 rw [e1] at e2
 obtain rfl:=Option.some.inj e2
 rcases hd2 with ⟨q,_⟩|⟨d',q,_,hn'⟩
 ·rw [hd] at q;exact b9 q.symm
 rw [hd] at q
 obtain rfl:=Option.some.inj q
 refine ⟨_,hn',(hf.mono ⟨[],by simp⟩ ht).cons (Rep.mono ⟨[],by simp⟩ ht rv2),fun y hy=>?_⟩
 have hxy:y≠x:=fun q=>by rw [q,hx] at hy;exact Bool.noConfusion hy
 rw [if_neg hxy];exact hno y hy
theorem aq9 {n:Nat}{elt iter tgt:Expr}{ifs:List Expr}{tst:Option IE}{y:Str}{py pos spos:Pos}{scope:Scope}{ielt:IE}{kk:SrcK}{ss ie:IE}{i:Nat}{c':CC}{bdf:Lc→V→Option Lc}(g:GOk D c.G c.mts)(so:K9 c)
  (ih:∀ c e ie,GOk D c.G c.mts→g8 n c e=some ie→Q0 D Φ k c e ie) (cg:aJ8 D k c scope tgt c' bdf)
  (hsrc:z8 (g8 n c) c iter=some (kk,ss)) (hce:g8 n c' elt=some ielt) (hts:bx7 n c' ifs tst) (hset:∀ env x,foldedSetIterable iter env x=pure x) (hs:ag9 c y=some i) (hie:wp2 Φ ie=bk2 Φ ss kk ielt tst bdf) :
  SS D Φ k c (.Assign [.Name y py] (.ListComp elt [⟨tgt,iter,ifs,0⟩] scope pos) spos) (.assign i ie):=by
 intro env A γ H s L Q X hE hA R fr w
 have hsw:∃ b,swapsWith (.ListComp elt [⟨tgt,iter,ifs,0⟩] scope pos) (some (.Name y py)) spos.line env=pure b:=⟨_,rfl⟩
 refine e1_1 hsw fun b hb=>?_
 cases b with
 | false =>
  refine wpAny_Assign_Name (wpAny_mono ((ba3 g ih cg hsrc hce hts hset hie).1 env A γ H s L _ _ hE hA R fr.l w) (fun v s1 p=>?_) fun _ _ x=>x.toE fr R) hb
  obtain ⟨γ1,V,H1,st,R1,rv,q⟩:=p
  refine wpAny_mono (N5 hE so R1 (fr.stp R st) hs rv) (fun _ s2 p=>?_) fun _ _ x=>x
  refine R8 p fun st2 R2 fr2=>?_
  exact ⟨γ1,H1,_,.next,st.weak.transF R1 st2 (fr.stp R st).alive,R2,fr2,rfl,q⟩
 | true =>
  have w:(wp2 Φ ie).E L H (fun v H1=>Q .next (L.set i (some v)) H1) (fun x=>X x L):=w
  rw [hie] at w
  rw [exec_Assign_Name_used _ _ _ _ hb]
  refine wpAny_bind (wpAny_standAt (wpAny_bind ?_))
  show wpAny _ A (do let _ ← comprehension (.ListComp elt [⟨tgt,iter,ifs,0⟩] scope pos) scope env _ (newList []) false (eval iter env) (some (assign (.Name y py) env))) _ _ s
  refine wpAny_bind (wpAny_mono (aI3 (use:=some (assign (.Name y py) env)) (Qf:=fun _ s'=>PostF D γ s env c.slots Q .next s') g ih cg hsrc hce hts hE hA R fr.l (hset env) w ?_) (fun _ s' hq=>wpAny_pure (wpAny_pure hq)) fun _ _ x=>x.toE fr R)
  intro γ' H' s' Dd C acc stp R' ho dn d0 hc cn c0 hdc hK
  refine e2_2 ho fun ys ny hy ry=>?_
  refine e1_1 hc fun m hm=>?_
  have dB:=r5 R d0
  have R2:=R'.adoptList ry (by have:=hK.1;lia) dn dB (R.frs.ne d0) hy
  have fr':=fr.stp R stp
  have stp2:Stp [] γ (γ'++[Dd]) s s':=by
   refine ⟨stp.same,stp.keepS,?_⟩
   refine e1_2 (stp.ext) fun δ e f=>?_
   refine ⟨δ++[Dd],by rw [e];simp,fun b hb=>?_⟩
   rcases List.mem_append.mp hb with q|q
   ·exact f b q
   ·simp at q;subst q;exact d0
  have fr2:FRel D (γ'++[Dd]) env c.slots s'.heap L:=fr.stp R stp2
  show wpAny D.M A (assign (.Name y py) env (.ref Dd)) _ _ s'
  refine wpAny_assign_Name (wpAny_mono (N5 (W:=.ref H'.length) hE so R2 fr2 hs (Exists.intro _ ⟨by rw [List.getElem?_append_right (by rw [R'.len];exact Nat.le_refl _)];simp [R'.len],rfl⟩)) (fun _ s2 p=>?_) fun _ _ x=>x)
  refine R8 p fun st3 R3 fr3=>?_
  have hCown:C∉ac6 env:=fun hm'=>by
   refine e1_1 (fr.alive C hm') fun o e=>?_
   rw [c0] at e;cases e
  have cn2:C∉γ'++[Dd]:=by
   intro q
   rcases List.mem_append.mp q with q|q
   ·exact cn q
   ·exact hdc (List.mem_singleton.mp q).symm
  have hm3:s2.heap.Ns C m:=st3.ns cn2 hCown hm
  refine ⟨m,hm3,fun h' hs'=>?_⟩
  have hk:∀ b o,b≠C→s2.heap.get? b=some o→h'.get? b=some o:=fun b o hb e=>hs'.extBut b o hb e
  have nt:=A5 hm3
  have fr4:FRel D (γ'++[Dd]) env c.slots h' (L.set i (some (.ref H'.length))):=fr3.butN hk hCown nt
  refine ⟨γ'++[Dd],_,_,.next,?_,R3.but hk cn2 (r5 R c0) nt (.inr (.inr (R.frs.ne c0))),fr4,rfl,hK.2⟩
  have st4:=stp2.weak.transF R2 st3 fr2.alive
  refine ⟨?_,fun b o hb hw e=>let ⟨sl,e',q⟩:=st4.keepS b o hb hw e; ⟨sl,hk b _ (by rintro rfl;rw [c0] at e;exact b9 e) e',q⟩,st4.ext⟩
  refine e2_1 (st4.same) fun h4 t4 e4=>?_
  rw [e4];exact ⟨_,_,rfl⟩
theorem cp9 {t:Expr}{a b:List Stmt}{pos:Pos}{it:IE}{ia ib:List IS}(ht:ST D Φ k c t it)(ha:SSs D Φ k c a ia)(hb:SSs D Φ k c b ib):SS D Φ k c (.If t a b pos) (.ite it ia ib):=by
 intro env A γ H s L Q X hE hA R fr w
 refine wpAny_If (wpAny_mono (ht env A γ H s L _ _ hE hA R fr.l w) (fun v s1 p=>?_) fun _ _ x=>x.toE fr R)
 obtain ⟨γ1,H1,st,R1,q⟩:=p
 cases v with
 | true=>exact wpAny_mono (ha env A γ1 H1 s1 L Q X hE hA R1 (fr.stp R st) q) (fun _ _ x=>x.back st.weak R1 (fr.stp R st)) fun _ _ x=>x.back st.weak R1 (fr.stp R st)
 | false=>exact wpAny_mono (hb env A γ1 H1 s1 L Q X hE hA R1 (fr.stp R st) q) (fun _ _ x=>x.back st.weak R1 (fr.stp R st)) fun _ _ x=>x.back st.weak R1 (fr.stp R st)
theorem bk1 {t:Expr}{b:List Stmt}{pos:Pos}{it:IE}{ib:List IS}(ht:ST D Φ k c t it)(hb:SSs D Φ k c b ib):SS D Φ k c (.While t b [] pos) (.while it ib):=by
 intro env A γ H s L Q X hE hA R fr w
 refine e1_1 w fun n w=>?_
 obtain ⟨Iv,hIv⟩:∃ Iv:Nat→Shared→Prop,Iv=fun m s'=>∃ γ' H' L',Stp (ac6 env) γ γ' s s'∧HRel D γ' H' s'.heap∧FRel D γ' env c.slots s'.heap L' ∧
  z5 (fun L' H' K=>(wp2 Φ it).T L' H' K noX) (fun L' H' K=>j1 Φ ib L' H' K aR0) m L' H' Q:=⟨_,rfl⟩
 refine wpAny_While (codeAny_whileLoop Iv ?_ n (by rw [hIv];exact ⟨γ,H,L,Stp.refl,R,fr,w⟩))
 intro m s' hI
 rw [hIv] at hI
 refine e3_4 hI fun γ' H' L' st R' fr' w=>?_
 cases m with
 | zero=>exact w.elim
 | succ m =>
  refine wpAny_mono (ht env A γ' H' s' L' _ _ hE hA R' fr'.l w) (fun v s1 p=>?_) fun _ _ x=>x.no.elim
  obtain ⟨γ1,H1,st1,R1,q⟩:=p
  have st01:Stp (ac6 env) γ γ1 s s1:=st.transF R' st1.weak fr'.alive
  have fr1:=fr'.stp R' st1
  cases v with
  | true =>
   refine wpAny_mono (hb env A γ1 H1 s1 L' _ aR0 hE hA R1 fr1 q) (fun fl s2 p=>?_) fun _ _ x=>x.no.elim
   obtain ⟨γ2,H2,L2,F,st2,R2,fr2,hf,q2⟩:=p
   have st02:=st01.transF R1 st2 fr1.alive
   cases F with
   | next=>obtain rfl:=hf;exact ⟨m,Nat.lt_succ_self _,by rw [hIv];exact ⟨γ2,H2,L2,st02,R2,fr2,q2⟩⟩
   | ret V=>obtain ⟨v,rfl,rv⟩:=hf;exact ⟨γ2,H2,L2,.ret V,st02,R2,fr2,⟨v,rfl,rv⟩,q2⟩
  | false=>exact wpAny_execs_nil ⟨γ1,H1,L',.next,st01,R1,fr1,rfl,q⟩
structure bm1 (D:Wd)(c:CC)(A:Around)(env:Env)(tgt:Expr)(bdf:Lc→V→Option Lc):Prop where
 asg:∀ γ H (s:Shared) L v W L1 (Q:Unit→Shared→Prop) (E:Value→Shared→Prop),HRel D γ H s.heap→FRel D γ env c.slots s.heap L→Rep D γ s.heap v W→bdf L W=some L1 →
  (∀ s3,Stp (ac6 env) γ γ s s3→HRel D γ H s3.heap→FRel D γ env c.slots s3.heap L1→Q () s3)→wpAny D.M A (assign tgt env v) Q E s
 go:∀ γ (s:Shared) (I:Addr) v W L L1 (Q:Unit→Shared→Prop) (E:Value→Shared→Prop),bdf L W=some L1→Rep D γ s.heap v W →
  (∀ T elts x1 pos,wpAny D.M A (letOwnedTupleGo (.Tuple elts x1 pos) (.ref I) (.ref T)) Q E s)→Q () s→wpAny D.M A (letOwnedTupleGo tgt (.ref I) v) Q E s
theorem bi0 {x:Str}{px:Pos}{i:Nat}{env:Env}{A:Around}(so:K9 c)(hs:ag9 c x=some i)(hE:s8 c env):bm1 D c A env (.Name x px) (bd1 i) where
 asg:=fun γ H s L v W L1 Q E R fr rv hb q=>by
  obtain rfl:=Option.some.inj hb
  refine wpAny_assign_Name (wpAny_mono (N5 hE so R fr hs rv) (fun _ s3 p=>?_) fun _ _ x=>x)
  exact q s3 p.1 p.2.1 p.2.2
 go:=fun γ s I v W L L1 Q E _ _ _ q=>wpAny_pure q
theorem bq7 {x y:Str}{px py tp:Pos}{kk i j:Nat}{env:Env}{A:Around}(so:K9 c)(hx:ag9 c x=some i)(hy:ag9 c y=some j)(hE:s8 c env)(hA:AOk D k A):bm1 D c A env (.Tuple [.Name x px,.Name y py] kk tp) (bdp i j) where
 asg:=fun γ H s L v W L1 Q E R fr rv hb q=>by
  refine e2_2 (W3 hb) fun a b e_229 e_230=>?_
  obtain rfl:=e_229
  obtain rfl:=e_230
  obtain ⟨T,vs,rfl,ta,va,r,rfl,ra,vb,r',rfl,rb,rfl⟩:=rv
  refine wpAny_assign_Tuple hA.handled ta.isTuple rfl rfl fun h' hx'=>?_
  have hk:∀ b o,s.heap.get? b=some o→h'.get? b=some o:=fun b o e=>hx' b o (Nat.ne_of_lt (Heap.lt_size e)) e
  have st1:Stp [] γ γ s { s with heap:=h' }:=C7 (tk:=s.toks) hk
  have R1:=R.grow hk
  have fr1:=fr.stp R st1
  show wpAny _ A (do holding [vb] (assign (.Name x px) env va);do holding [] (assign (.Name y py) env vb);pure ()) _ _ _
  refine wpAny_bind (wpAny_holding (wpAny_assign_Name (wpAny_mono (N5 (s:={ s with heap:=h' }) hE so R1 fr1 hx (ra.stp0 R st1)) (fun _ s2 p=>?_) fun _ _ x=>x)))
  refine R8 p fun st2 R2 fr2=>?_
  refine wpAny_bind (wpAny_holding (wpAny_assign_Name (wpAny_mono (N5 hE so R2 fr2 hy (Rep.stp (s:={ s with heap:=h' }) R1 st2 (fun x hx=>(fr1.own x hx).2.2.2) (rb.stp0 R st1))) (fun _ s3 p=>?_) fun _ _ x=>x)))
  refine R8 p fun st3 R3 fr3=>?_
  exact wpAny_pure (q s3 ((st1.weak.transF (s1:={ s with heap:=h' }) R1 st2 (FRel.alive (s:={ s with heap:=h' }) fr1)).transF R2 st3 fr2.alive) R3 fr3)
 go:=fun γ s I v W L L1 Q E hb rv hown q=>by
  refine e2_2 (W3 hb) fun a b e_235 e_236=>?_
  obtain rfl:=e_235
  obtain rfl:=e_236
  refine e2_2 rv fun T vs e_237 _=>?_
  obtain rfl:=e_237
  exact hown _ _ _ _
theorem bO5 {n:Nat}{tgt:Expr}{pos:Pos}{iter:Expr}{b:List Stmt}{kk:SrcK}{ss:IE}{ib:List IS}{is:IS}{bdf:Lc→V→Option Lc}(g:GOk D c.G c.mts)(ih:∀ e ie,g8 n c e=some ie→SE D Φ k c e ie)(tg:∀ env A,s8 c env→AOk D k A→bm1 D c A env tgt bdf)
  (hsrc:z8 (g8 n c) c iter=some (kk,ss)) (hb:SSs D Φ k c b ib)
  (hw:∀ L H Q X,wpS Φ is L H Q X→(wp2 Φ ss).E L H (fun v H1=>ac3 kk v H1 fun items st=>I6 (fun L' H' K=>j1 Φ ib L' H' K X) st bdf items L H1 Q) (fun x=>X x L)):SS D Φ k c (.For tgt iter b [] pos) is:=by
 intro env A γ H s L Q X hE hA R fr w
 refine wpAny_For (wpAny_mono (bd9 (K:=fun l st H1=>I6 (fun L' H' K=>j1 Φ ib L' H' K X) st bdf l L H1 Q) g ih hsrc hE hA R fr.l (hw L H Q X w)) (fun xv s1 h1=>wpAny_mono h1 (fun it s2 h2=>?_) fun _ _ x=>x.toE fr R) fun _ _ x=>x.toE fr R) (ag6 hsrc env)
 obtain ⟨γ2,H2,I,fp,l,st,Inv,rfl,stp2,R2,itr,iv,fps,hI0,hst,hlen,w2⟩:=h2
 have fr2:=fr.stp R stp2
 have IB:=r5 R hI0
 have fpo:∀ b∈fp,b∉ac6 env:=fun b hb hm=>by
  rcases (fps b hb).2.2 with q|⟨ws,q⟩
  ·subst q;obtain ⟨o,e⟩:=fr.alive _ hm;rw [hI0] at e;cases e
  ·exact (fr2.own b hm).2.2.2 ws q
 obtain ⟨Iv,hIv⟩:∃ Iv:Nat→Shared→Prop,Iv=fun m s'=>∃ j γ' H' L',m=l.length-j∧j≤l.length∧Stp (ac6 env) γ γ' s s'∧HRel D γ' H' s'.heap∧FRel D γ' env c.slots s'.heap L'∧Inv γ' j s'.heap∧st H'∧(∀ b∈fp,b∉γ'∧∃ o,s'.heap.get? b=some o) ∧
  I6 (fun L' H' K=>j1 Φ ib L' H' K X) st bdf (l.drop j) L' H' Q:=⟨_,rfl⟩
 refine codeAny_forLoop_any Iv ?_ l.length (by rw [hIv];exact ⟨0,γ2,H2,L,rfl,Nat.zero_le _,stp2.weak,R2,fr2,iv,hst,fun b hb=>⟨(fps b hb).1,(fps b hb).2.1⟩,w2⟩)
 intro m s' hI
 rw [hIv] at hI
 obtain ⟨j,γ',H',L',rfl,hj,st',R',fr',iv',hst',fp',w'⟩:=hI
 have hIg:I∉γ':=(fp' I itr.mem).1
 have nt:=fun ws=>itr.notTup γ' j s'.heap ws iv'
 have hIo:I∉ac6 env:=fpo I itr.mem
 have change:∀ {h1:Heap} {tk:Nat},(∀ b o,b≠I→s'.heap.get? b=some o→h1.get? b=some o)→Stp (ac6 env) γ γ' s { s' with heap:=h1,toks:=tk }∧HRel D γ' H' h1∧FRel D γ' env c.slots h1 L':=by
  intro h1 tk hk
  exact ⟨st'.butF hk hI0,R'.but hk hIg IB nt (.inr (.inr (R.frs.ne hI0))),fr'.butN hk hIo nt⟩
 by_cases hlt:j<l.length
 ·have hW:l[j]? = some l[j]:=by simp [hlt]
  rw [List.drop_eq_getElem_cons hlt] at w'
  refine itr.next γ' H' s' j _ _ _ hW R' hIg hst' iv' fun v h1 tk1 hI1 hk1 iv1 rv1=>?_
  refine R8 (change (tk:=tk1) hk1) fun stc Rc frc=>?_
  refine e1_2 (d8 w') fun L1 hb1 w'=>?_
  have T:=tg env A hE hA
  show wpAny D.M A (letOwnedTupleGo tgt (.ref I) v) _ _ _
  refine (fun q=>T.go γ' { s' with heap:=h1,toks:=tk1 } I v _ L' L1 _ _ hb1 rv1 (fun _ _ _ _=>itr.own γ' (j+1) { s' with heap:=h1,toks:=tk1 } _ _ _ _ _ _ iv1 q) q) ?_
  refine T.asg γ' H' { s' with heap:=h1,toks:=tk1 } L' v _ L1 _ _ Rc frc rv1 hb1 fun s3 st3 R3 fr3=>?_
  have stc3:Stp (ac6 env) γ γ' s s3:=stc.transF (s1:={ s' with heap:=h1,toks:=tk1 }) Rc st3 (FRel.alive (s:={ s' with heap:=h1,toks:=tk1 }) frc)
  have tt3:∀ a ws,TupAt h1 a ws→TupAt s3.heap a ws:=fun a ws q=>TupAt.stp (s:={ s' with heap:=h1,toks:=tk1 }) Rc st3 (fun x hx=>(frc.own x hx).2.2.2) q
  have fp1:∀ b∈fp,b∉γ'∧∃ o,h1.get? b=some o:=fun b hb=>by
   refine ⟨(fp' b hb).1,?_⟩
   by_cases hbI:b=I
   ·subst hbI;exact hI1
   ·obtain ⟨o,e⟩:=(fp' b hb).2;exact ⟨o,hk1 _ _ hbI e⟩
  have fp3:∀ b∈fp,b∉γ'∧∃ o,s3.heap.get? b=some o:=fun b hb=>by
   obtain ⟨a,o,e⟩:=fp1 b hb
   exact ⟨a,o,st3.keep b o a (fpo b hb) (itr.nd γ' (j+1) h1 iv1 b hb o e) e⟩
  have iv3:Inv γ' (j+1) s3.heap:=itr.frame γ' γ' (j+1) h1 s3.heap iv1 ⟨[],by simp⟩ (fun b hb o e=>st3.keep b o (fp1 b hb).1 (fpo b hb) (itr.nd γ' (j+1) h1 iv1 b hb o e) e) tt3
  refine wpAny_mono (hb env A γ' H' s3 _ _ X hE hA R3 fr3 w') (fun fl s4 p=>?_) fun _ _ x=>aV8 hA R fr.alive (x.back stc3 R3 fr3)
  obtain ⟨γ4,H4,L4,F,st4,R4,fr4,hf,q4⟩:=p
  have stc4:=stc3.transF R3 st4 fr3.alive
  have ext4:∃ δ,γ4=γ'++δ:=let ⟨δ,e,_⟩:=st4.ext; ⟨δ,e⟩
  have tt4:∀ a ws,TupAt s3.heap a ws→TupAt s4.heap a ws:=fun a ws q=>TupAt.stp R3 st4 (fun x hx=>(fr3.own x hx).2.2.2) q
  have go:st H4∧I6 (fun L' H' K=>j1 Φ ib L' H' K X) st bdf (l.drop (j+1)) L4 H4 Q→∃ m,m<l.length-j∧Iv m s4:=fun q=>by
   refine ⟨l.length-(j+1),by lia,?_⟩
   rw [hIv]
   refine ⟨j+1,γ4,H4,L4,rfl,hlt,stc4,R4,fr4,?_,q.1,?_,q.2⟩
   ·exact itr.frame γ' γ4 (j+1) s3.heap s4.heap iv3 ext4 (fun b hb o e=>st4.keep b o (fp3 b hb).1 (fpo b hb) (itr.nd γ' (j+1) s3.heap iv3 b hb o e) e) tt4
   ·intro b hb
    obtain ⟨a,o,e⟩:=fp3 b hb
    have e':=st4.keep b o a (fpo b hb) (itr.nd γ' (j+1) s3.heap iv3 b hb o e) e
    refine ⟨?_,o,e'⟩
    refine e1_2 (st4.ext) fun δ ed fd=>?_
    subst ed
    intro q
    rcases List.mem_append.mp q with q|q
    ·exact a q
    ·rw [fd b q] at e;cases e
  cases F with
  | next=>obtain rfl:=hf;exact go q4
  | ret V=>obtain ⟨v,rfl,rv⟩:=hf;exact ⟨γ4,H4,L4,.ret V,stc4,R4,fr4,⟨v,rfl,rv⟩,q4⟩
 ·have hin:j=l.length:=by lia
  subst hin
  rw [List.drop_length] at w'
  refine itr.done γ' H' s' _ _ R' hst' iv' fun h1 tk1 hk1=>?_
  refine R8 (change (tk:=tk1) hk1) fun stc Rc frc=>?_
  exact wpAny_execs_nil ⟨γ',H',L',.next,stc,Rc,frc,rfl,w'⟩
end
end Mine
namespace Mine
open PySem PyProof.Rows
section
variable {D:Wd} {γ γ0:List Addr} {H H0:Hp} {s s1:Shared} {env:Env} {outer:List Env} {A:Around} {E:Value→Shared→Prop} {v:Value} {x:Exc} {La:Addr} {Q:Unit→Shared→Prop}
theorem aW9 (hfr:A.frames=some D.fr)(R0:HRel D γ0 H0 s.heap)(R:HRel D γ H s1.heap)(htop:D.fr=env::outer)(hf:env.frame=some La)(hx:XNew D γ s s1.heap v x∨XFly D γ s s1.heap v x)
  (h:∀ a C a0 ex h',v=.ref a→D.mg x.cls=some (.ref C)→s.heap.get? a=none→a∈ex→ExF D γ s s1.heap ex→Land ex s1.heap h'→h'.TracedW (PySem.W.hideAll s1.heap ex) a (.ref C) a0→Q () { s1 with heap:=h' }) :
  wpAny D.M A (leaving env v) Q E s1:=by
 unfold leaving
 refine wpAny_bind (ar8 hfr R0 R htop hf hx fun a C a0 ex h' e1 hm hn hax X up hh=>?_)
 subst e1
 exact bR5 hh fun h2 ⟨k1,k2,k3,k4⟩ up2=>h a C a0 ex h2 rfl hm hn hax X (Land.of k1 (up.trans up2)) k4
end
end Mine
namespace Mine
open PySem PyProof.Rows PySem.Spec
theorem aW0 {D:Wd}{c:CC}{env:Env}{A:Around}{γ:List Addr}{H:Hp}{s:Shared}{Q:Value→Shared→Prop}{E:Value→Shared→Prop}{x:Str}{pos:Pos}{W:V}(g:GOk D c.G c.mts)(he:s8 c env)(R:HRel D γ H s.heap)
  (hc:U8 c x=some W) (h:∀ v,Rep D γ s.heap v W→Q v s):wpAny D.M A (eval (.Name x pos) env) Q E s:=by
 refine j2 hc fun kk hk hc=>?_
 refine f0 hk fun hd hk=>?_
 have hkf:env.scope.kind=.function:=by rw [he.scope];exact he.kind
 have hk':env.kindOf x=some kk:=by unfold Env.kindOf;rw [he.scope];exact hk
 cases kk with
 | globalImplicit =>
  refine e1_2 (g.val x W hc) fun v hv rv=>?_
  refine Calls.Name_function_global hkf hk' ?_ (aF7 hd)
  have rr:Rep D γ s.heap v W:=Rep.mono ⟨[],by simp⟩ (fun _ _=>j9 R.base) (rv γ)
  rcases hv with hv|⟨hv1,hv2⟩
  ·exact Calls.loadGlobal_global (by rw [he.globals];exact g.gns.keeps R.base) hv (h v rr)
  ·exact Calls.loadGlobal_builtin (by rw [he.globals];exact g.gns.keeps R.base) hv1 (by rw [he.builtins];exact g.bns.keeps R.base) hv2 (h v rr)
 | _=>exact b9 hc
theorem aa1 {c:CC}{x:Str}{W:V}(hz:U8 c x=some W):c.G.lookup x=some W:=by
 refine j2 hz fun kk _ h=>?_
 cases kk with
 | globalImplicit=>exact h
 | _=>exact b9 h
theorem au7 {c:CC}{y:Str}{ups:List Str}(h:bS5 c y=some ups):U8 c y=some (.cls y ups):=by
 refine j2 h fun u h1 h=>?_
 refine j2 h1 fun V hV h1=>?_
 refine f0 h fun h2 h=>?_
 cases V with
 | cls z us =>
  obtain rfl:=Option.some.inj h1
  obtain rfl:=Option.some.inj h
  rw [hV,←eq_of_beq h2]
 | _=>exact b9 h1
end Mine
namespace Mine
open PySem PyProof.Rows
section
variable {D:Wd} {Φ:Orc} {k:Nat} {c:CC}
theorem bi2 (g:GOk D c.G c.mts){x:Str}{np cpos pos kp:Pos}{kk:Const}{kn:Nat}{W:V}{ups:List Str}(hg:U8 c x=some (.cls x ups))(hk:an2 kk=some W) :
  SS D Φ k c (.Raise (some (.Call (.Name x np) [.Constant kk kn kp] [] cpos)) none pos) (.raise x ups):=by
 intro env A γ H s L Q X hE hA R fr w
 have hex:(x,ups)∈D.ex:=g.cls x x ups (aa1 hg)
 refine e2_3 (g.exs _ _ hex) fun C bm hmg hat hcon=>?_
 obtain ⟨N,nm,q,bs,hdct,sn,sub,ab,col,dd,k0,k1,k2,k3,k5,mN,hC,hN,hmN,T⟩:=id hat
 have e1:backTo cpos (starEach [.Constant kk kn kp] env)=[(false,eval (.Constant kk kn kp) env)]:=by rw [r4 (by rfl)];rfl
 refine wpAny_Raise_call_subT (nm:=nm) (q:=q) (C:=C) (N:=N) (bs:=bs) (hdct:=hdct) (sn:=sn) (sub:=sub) (ab:=ab) (col:=col) (dd:=dd) (k0:=k0) (k1:=k1) (k2:=k2) (k3:=k3) (k5:=k5) F.excBase_ValueError (T.hasType rfl) hA.handled (by rw [e1];rfl) (hmN) (aW0 g hE R hg fun v r=>?_)
 refine e1_2 r fun C' e_240 hC'=>?_
 obtain rfl:=e_240
 rw [hmg] at hC';cases hC'
 refine ⟨rfl,?_⟩
 rw [e1]
 refine Calls.evalArgs_plain (Calls.spliced_cons (wpAny_mono (as3 (Q:=fun _ H'=>H'=H) (X:=fun x=>X x L) R hk rfl) (fun v s1 p=>Calls.spliced_nil ?_) fun _ _ p=>p.toE fr R))
 obtain ⟨γ1,V,H1,st,R1,rv,rfl⟩:=p
 refine ⟨rfl,by rw [sizeLine_eq];simp,R1.base _ _ hC,hN.keeps R1.base,T.keeps R1.base,fun h' e hm=>?_⟩
 refine e1_3 (hm.there) fun t ht _ _=>?_
 have st2:Stp [] γ1 γ1 s1 { s1 with heap:=h' }:=C7 (tk:=s1.toks) hm.keeps
 have st3:=st.trans0 R1 st2
 exact ⟨γ1,_,L,⟨x,ups⟩,st3.weak,R1.grow hm.keeps,fr.stp R st3,⟨.inl ⟨e,_,_,C,.ref t,rfl,an3 st R1 hm.new,ht,rfl,hmg,rfl,rfl,rfl,(R1.nin hm.new).1⟩,hex⟩,w⟩
theorem bH2 {env:Env}{A:Around}{E:Value→Shared→Prop}{γ:List Addr}{H:Hp}{s:Shared}{L:Lc}{e:Expr}{ie:IE}{V:V}(hE:s8 c env)(R:HRel D γ H s.heap)(f:FRel D γ env c.slots s.heap L)(hc:a20 c e=some ie)(hv:evR L ie=some V) :
  wpAny D.M A (eval e env) (PostV D γ s fun V' H'=>V'=V∧H'=H) E s:=by
 unfold a20 at hc
 cases hn:ch8 e with
 | true =>
  rw [hn] at hc
  refine t0 ((show D5 e _=some ie from hc)) fun x p hc=>?_
  refine f0 hc fun h0 hc=>?_
  revert hv;refine k8 hc fun i hi hv=>?_
  rw [Bool.and_eq_true] at h0
  refine j2 ((show L[i]?.bind id=some V from hv)) fun o0 hL hv=>?_
  have hL:L[i]? = some (some V):=by rw [hL];exact congrArg some hv
  have hkf:env.scope.kind=.function:=by rw [hE.scope];exact hE.kind
  have hk':env.kindOf x=some .local:=by unfold Env.kindOf;rw [hE.scope];exact eq_of_beq h0.1
  refine e1_2 (f.l.ns) fun m hm fm=>?_
  refine e1_2 (fm x i _ hk' hi hL) fun v hv rv=>?_
  exact wpAny_Name (wpAny_loadName_local hkf hk' hm hv (PostV.here R rv ⟨rfl,rfl⟩)) (aF7 h0.2)
 | false =>
  rw [hn] at hc
  refine O2 ((show L5 e _=some ie from hc)) fun kc n p hc=>?_
  revert hv;refine k8 hc fun W hW hv=>?_
  obtain rfl:=Option.some.inj (show some W=some V from hv)
  exact wpAny_mono (as3 (Q:=fun V' H'=>V'=W∧H'=H) (X:=noX) R hW ⟨rfl,rfl⟩) (fun _ _ p=>p) fun _ _ p=>p.no.elim
theorem aX2 {h:ExceptHandler}{ih:Str × IE}(hc:a90 c h=some ih) :
  ∃ yp hp ups e rp,U8 c ih.1=some (.cls ih.1 ups)∧h=.ExceptHandler (some (.Name ih.1 yp)) none [.Return (some e) rp] hp∧a20 c e=some ih.2:=by
 obtain ⟨ty,nm,body,p⟩:=h
 refine f0 ((show g9 nm.isNone _=some ih from hc)) fun h0 hc=>?_
 obtain rfl:=Option.isNone_iff_eq_none.mp h0
 refine e1_2 (Option.bind_eq_some_iff.mp hc) fun t e_242 hc=>?_
 obtain rfl:=e_242
 refine t0 hc fun y yp hc=>?_
 refine j2 hc fun ups hu hc=>?_
 refine ad3 hc fun st hc=>?_
 refine a14 hc fun e rp hc=>?_
 refine k8 hc fun ie h1=>?_
 exact ⟨yp,p,ups,e,rp,au7 hu,rfl,h1⟩
theorem ay6 {env:Env}{A:Around}{E:Value→Shared→Prop}{γ γ1:List Addr}{H1:Hp}{s s1:Shared}{L1:Lc}{Q:QS}{x:Exc}{a C:Addr}{a0:Value}{ex:List Addr}{h2:Heap}(g:GOk D c.G c.mts)(hE:s8 c env)
  (alive:∀ a∈ac6 env,∃ o,s.heap.get? a=some o) (st:Stp (ac6 env) γ γ1 s s1) (R1:HRel D γ1 H1 s1.heap) (f1:FRel D γ1 env c.slots s1.heap L1) (hex:(x.cls,x.ups)∈D.ex) (hmg:D.mg x.cls=some (.ref C)) (XF:ExF D γ1 s s1.heap ex)
  (land:Land ex s1.heap h2) (fl:Heap.FlyingW (PySem.W.hideAll s1.heap ex) D.fr a (.ref C) a0 h2) :
  ∀ (hds:List ExceptHandler) (bs:List (Str × IE)),K6 (a90 c) hds=some bs→bD0 x L1 H1 Q bs →
   wpAny D.M A (handleBy (.ref a) env hds) (PostF D γ s env c.slots Q) E { s1 with heap:=h2 }
 | [],bs,hb,w=>by obtain rfl:=Option.some.inj hb;exact w.elim
 | hd::hds,bs,hb,w=>by
  refine e2_3 (r8 hb) fun b bs' e_243 hb1 hb2=>?_
  obtain rfl:=e_243
  refine e5_3 (aX2 hb1) fun yp hp ups e rp hy e_244 hcr=>?_
  obtain rfl:=e_244
  refine e2_3 (g.exs _ _ hex) fun C' bm hmg' hat hcon=>?_
  rw [hmg] at hmg';cases hmg'
  have hexy:=g.cls _ _ _ (aa1 hy)
  refine e2_3 (g.exs _ _ hexy) fun Cy bmy hmgy haty _=>?_
  have R2:=land.rel R1 XF
  refine e1_2 (fl.there) fun oe he hc=>?_
  refine wpAny_handleBy_cons (codeAny_handlers_test (aW0 g hE R2 hy fun v rv=>?_)) (by intro q;cases q)
  refine e1_2 rv fun Cy' e_245 hy'=>?_
  obtain rfl:=e_245
  rw [hmgy] at hy';cases hy'
  refine a45 (s:={ s1 with heap:=h2 }) (hat.keeps R2.base) (haty.keeps R2.base) he hc ?_
  rw [hcon _ ups Cy hexy hmgy]
  have w:ifP (x.ups.contains b.1) (oK (evR L1 b.2) fun v=>Q (.ret v) L1 H1) (bD0 x L1 H1 Q bs'):=w
  cases hu:x.ups.contains b.1 with
  | false=>rw [hu] at w;exact ay6 g hE alive st R1 f1 hex hmg XF land fl hds bs' hb2 w
  | true =>
   rw [hu] at w
   refine e1_2 (d8 w) fun V hV w=>?_
   refine codeAny_handlers_suite (lands_againW fl fun h3 fl3 up3=>?_)
   have land3:Land ex s1.heap h3:=Land.of fl3.1 (land.up.trans up3)
   have R3:=land3.rel R1 XF
   have f3:=land3.frel R1 XF alive f1
   refine wpAny_execs_cons (wpAny_Return_some (wpAny_mono (bH2 (s:={ s1 with heap:=h3 }) hE R3 f3 hcr hV) (fun v s4 p=>?_) fun _ _ q=>q))
   obtain ⟨γ4,V4,H4,st4,R4,rv,rfl,rfl⟩:=p
   exact ⟨γ4,_,L1,.ret _,(land3.stp R1.frs XF st).transF R3 st4.weak f3.alive,R4,f3.stp R3 st4,⟨v,rfl,rv⟩,w⟩
theorem ch0 {b:List Stmt}{ib:List IS}{hd:ExceptHandler}{hds:List ExceptHandler}{hs:List (Str × IE)}{pos:Pos}(g:GOk D c.G c.mts)(hb:SSs D Φ k c b ib)(hh:K6 (a90 c) (hd::hds)=some hs) :
  SS D Φ k c (.Try b (hd::hds) [] [] pos) (.tryR ib hs):=by
 intro env A γ H s L Q X hE hA R fr w
 refine wpAny_Try_except (wpAny_mono (hb env A γ H s L Q _ hE hA R fr w) (fun fl s1 p=>?_) fun v s1 p=>?_)
 ·cases fl<;>first|exact p|exact wpAny_execs_nil p
 ·obtain ⟨γ1,H1,L1,x,st,R1,fr1,⟨hx,hex⟩,q⟩:=p
  refine e1_2 (fr1.top) fun outer htop hfr=>?_
  refine ar8 hA.frames R R1 htop hfr hx fun a C a0 ex h' e1 hmg hn hax XF up hh'=>?_
  subst e1
  refine bR5 hh' fun h2 fl up2=>?_
  exact ay6 g hE fr.alive st R1 fr1 hex hmg XF (Land.of fl.1 (up.trans up2)) fl (hd::hds) hs hh q
end
end Mine
namespace Mine
open PySem PyProof.Rows
section
variable {D:Wd} {Φ:Orc} {k:Nat}
theorem bd6 {e:Expr}{n:Nat}{c:CC}{ie:IE}(h:g8 n c e=some ie)(hl:∀ a b d f,e≠.ListComp a b d f)(t:Option Expr)(l:Nat)(env:Env):swapsWith e t l env=pure false:=by
 cases e<;>first|rfl|exact absurd rfl (hl _ _ _ _)|(cases n<;>exact b9 h)
theorem ax4 (hO:g7 D k Φ){n:Nat}{c:CC}(g:GOk D c.G c.mts)(so:K9 c){x:Str}{px pos:Pos}{e:Expr}{i:Nat}{ie:IE}(h1:ag9 c x=some i)(h2:g8 n c e=some ie):SS D Φ k c (.Assign [.Name x px] e pos) (.assign i ie):=by
 by_cases hl:∃ a b d f,e=.ListComp a b d f
 ·obtain ⟨elt,gens,scope,pos',rfl⟩:=hl
  cases n with
  | zero=>exact b9 h2
  | succ n =>
   exact be2 (D:=D) (Φ:=Φ) (k:=k) (R:=fun gens=>SS D Φ k c (.Assign [.Name x px] (.ListComp elt gens scope pos') pos) (.assign i ie)) (show cLc (g8 n) c elt gens scope=some ie from h2) fun tgt iter ifs kk ss ielt tst c' bdf cg e1 e2 ht hie=>aq9 g so (fun c e ie g h=>aO8 hO n c e ie g h) cg e1 e2 ht (ag6 e1) h1 hie
 ·exact a65 so (aO8 hO n c e ie g h2).1 h1 (fun env _=>bd6 h2 (fun a b d f q=>hl ⟨a,b,d,f,q⟩) _ _ env)
theorem bI0 (hO:g7 D k Φ):∀ (n:Nat) (c:CC) (st:Stmt) (is:IS),GOk D c.G c.mts→K9 c→aN1 n c st=some is→SS D Φ k c st is:=by
 intro n
 induction n with
 | zero=>intro c st is g so h;exact b9 h
 | succ n ih =>
  intro c st is g so h
  have ihE:∀ e ie,g8 n c e=some ie→Q0 D Φ k c e ie:=fun e ie h=>aO8 hO n c e ie g h
  have ihS:=aT1 (f:=aN1 n c) (fun st is h=>ih c st is g so h)
  cases st with
  | Expr e p =>
   refine f0 h fun hc h=>?_
   refine k8 h fun a ha=>?_
   exact bz8 (ihE _ _ ha).1 (aF7 hc)
  | Assign ts e p =>
   refine ad3 ((show on1 ts _=some is from h)) fun t h=>?_
   cases t with
   | Name x px =>
    refine w9 ((show am7 IS.assign _ _=some is from h)) fun a b h1 h2=>?_
    exact ax4 hO g so h1 h2
   | Subscript o i p' =>
    refine C1 ((show Q5 _ _ _ _=some is from h)) fun a b d h1 h2 h3=>?_
    exact b47 (ihE _ _ h1).1 (ihE _ _ h2).1 (ihE _ _ h3).1 (fun env=>by cases e<;>rfl)
   | Attribute o x p' =>
    refine f0 ((show g9 (!aF5 e&&X9 x) _=some is from h)) fun hc h=>?_
    rw [Bool.and_eq_true] at hc
    refine w9 h fun a b h1 h2=>?_
    exact aY2 g hc.2 (ihE _ _ h1).1 (ihE _ _ h2).1 (fun env=>bd6 h1 (fun a b d f q=>by subst q;exact Bool.noConfusion hc.1) _ _ env)
   | _=>exact b9 h
  | Return e p =>
   refine e1_2 (Option.bind_eq_some_iff.mp h) fun e e_250 h=>?_
   obtain rfl:=e_250
   refine k8 h fun a ha=>?_;exact b76 (ihE _ _ ha).1
  | If t a b p=>refine C1 h fun t a b h1 h2 h3=>?_;exact cp9 (ihE _ _ h1).2 (ihS _ _ h2) (ihS _ _ h3)
  | While t b e p =>
   refine f0 h fun h0 h=>?_
   obtain rfl:e=[]:=List.isEmpty_iff.mp h0
   refine w9 h fun t b h1 h2=>?_;exact bk1 (ihE _ _ h1).2 (ihS _ _ h2)
  | For t iter b e p =>
   refine f0 h fun h0 h=>?_
   obtain rfl:e=[]:=List.isEmpty_iff.mp h0
   have h:bT0 (g8 n c) c t iter (K6 (aN1 n c) b)=some is:=h
   unfold bT0 at h
   cases ht:a69 t with
   | true =>
    rw [ht] at h
    refine aF8 h fun es kt tp h=>?_
    refine aU2 h fun tx ty h=>?_
    refine t0 h fun x px h=>?_
    refine t0 h fun y py h=>?_
    refine f0 h fun _ h=>?_
    refine j2 h fun i h1 h=>?_
    refine C1 h fun j ks b h2 h3 h4=>?_
    exact bO5 g (fun e ie h=>(ihE e ie h).1) (fun _ _ hE hA=>bq7 so h1 h2 hE hA) h3 (ihS _ _ h4) fun _ _ _ _ w=>w
   | false =>
    rw [ht] at h
    refine t0 h fun x px h=>?_
    refine C1 h fun i ks b h1 h2 h3=>?_
    exact bO5 g (fun e ie h=>(ihE e ie h).1) (fun _ _ hE _=>bi0 so h1 hE) h2 (ihS _ _ h3) fun _ _ _ _ w=>w
  | Raise e d p =>
   refine e1_2 (Option.bind_eq_some_iff.mp (show (aA5 e d).bind _=some is from h)) fun u hr h1=>?_
   clear h
   revert h1;refine aL7 hr fun x kk np kn kp cp h1=>?_
   refine f0 h1 fun h0 h2=>?_
   refine e1_1 (Option.isSome_iff_exists.mp h0) fun W hW=>?_
   refine k8 ((show (bS5 c x).map _=some is from h2)) fun ups hu=>?_
   exact bi2 g (au7 hu) hW
  | Try b hs o f p =>
   refine f0 h fun h0 h'=>?_
   clear h
   rw [Bool.and_eq_true,Bool.and_eq_true] at h0
   obtain rfl:o=[]:=List.isEmpty_iff.mp h0.1.1
   obtain rfl:f=[]:=List.isEmpty_iff.mp h0.1.2
   refine w9 h' fun a u h1 h2=>?_
   cases hs with
   | nil=>exact Bool.noConfusion h0.2
   | cons hd hs=>exact ch0 g (ihS _ _ h1) h2
  | _=>exact b9 h
theorem A7:∀ (names:List Str) (k:Nat) (x:Str) (i:Nat),(Y0 names k).lookup x=some i→∃ j,i=k+j∧names[j]? = some x
 | [],_,_,_,h=>by simp [Y0] at h
 | y::r,k,x,i,h=>by
  simp only [Y0,List.lookup_cons] at h
  cases hxy:x==y with
  | true =>
   rw [hxy] at h
   simp only [Option.some.injEq] at h
   exact ⟨0,by lia,by simp;exact (by simpa using hxy:x=y).symm⟩
  | false =>
   rw [hxy] at h
   refine e1_2 (A7 r (k+1) x i h) fun j e1 e2=>?_
   exact ⟨j+1,by lia,by simpa using e2⟩
theorem an9 {kindOf:Str→Option NameKind}:∀ (binds:List (Str × Value)) (m:Str→Option Value) (x:Str),kindOf x=some .local→(binds.map (·.1)).Nodup→bindL kindOf binds m x=(binds.lookup x).or (m x)
 | [],m,x,_,_=>by simp [bindL]
 | (n,v)::r,m,x,hx,hn=>by
  simp only [List.map_cons,List.nodup_cons] at hn
  rw [bindL,an9 r _ x hx hn.2,List.lookup_cons]
  cases hxn:x==n with
  | true =>
   have:x=n:=by simpa using hxn
   subst this
   have hr:r.lookup x=none:=by
    rw [List.lookup_eq_none_iff]
    intro p hp
    have:x≠p.1:=fun q=>hn.1 (q▸List.mem_map_of_mem hp)
    simpa using this
   simp [hr,hx]
  | false =>
   have hne:x≠n:=by simpa using hxn
   congr 1
   split
   ·simp [hne]
   ·rfl
theorem an5 {kindOf:Str→Option NameKind}:∀ (binds:List (Str × Value)) (m:Str→Option Value) (x:Str),kindOf x≠some .local→(binds.map (·.1)).Nodup→bindC kindOf binds m x=(binds.lookup x).or (m x)
 | [],m,x,_,_=>by simp [bindC]
 | (n,v)::r,m,x,hx,hn=>by
  simp only [List.map_cons,List.nodup_cons] at hn
  rw [bindC,an5 r _ x hx hn.2,List.lookup_cons]
  cases hxn:x==n with
  | true =>
   have:x=n:=by simpa using hxn
   subst this
   have hr:r.lookup x=none:=by
    rw [List.lookup_eq_none_iff]
    intro p hp
    have:x≠p.1:=fun q=>hn.1 (q▸List.mem_map_of_mem hp)
    simpa using this
   simp [hr,hx]
  | false =>
   have hne:x≠n:=by simpa using hxn
   congr 1
   split
   ·rfl
   ·simp [hne]
theorem an1:∀ (ps:List Str) (vals:List Value) (i:Nat) (x:Str) (v:Value),ps.Nodup→ps[i]? = some x→vals[i]? = some v→(ps.zip vals).lookup x=some v
 | p::ps,[],i,x,v,_,_,h=>by simp at h
 | p::ps,w::vals,0,x,v,hn,h1,h2=>by
  simp at h1 h2;subst h1;subst h2;simp [List.lookup_cons]
 | p::ps,w::vals,i+1,x,v,hn,h1,h2=>by
  simp only [List.nodup_cons] at hn
  simp at h1 h2
  have hne:(x==p)=false:=by
   have:x≠p:=fun q=>hn.1 (q▸List.mem_of_getElem? h1)
   simpa using this
  rw [List.zip_cons_cons,List.lookup_cons,hne]
  exact an1 ps vals i x v hn.2 h1 h2
 | [],_,_,_,_,_,h,_=>by simp at h
theorem M7:∀ (names:List (Str × NameKind)) (n:Nat) (acc:List (Str × Addr)) (x:Str),x∈(cellsFrom n names acc).map (·.1)→x∈acc.map (·.1)∨(x,NameKind.cell)∈names
 | [],_,_,_,h=>.inl h
 | (y,kd)::r,n,acc,x,h=>by
  unfold cellsFrom at h
  split at h
  ·rename_i hk
   rcases M7 r _ _ x h with q|q
   ·simp only [List.map_cons,List.mem_cons] at q
    rcases q with q|q
    ·subst q
     have:kd=.cell:=by simpa using hk
     subst this
     exact .inr List.mem_cons_self
    ·exact .inl q
   ·exact .inr (List.mem_cons_of_mem _ q)
  ·rcases M7 r _ _ x h with q|q
   ·exact .inl q
   ·exact .inr (List.mem_cons_of_mem _ q)
theorem E3:∀ (names:List (Str × NameKind)) (n:Nat) (acc:List (Str × Addr)),(names.map (·.1)).Nodup→(acc.map (·.1)).Nodup→(∀ x∈acc.map (·.1),x∉names.map (·.1))→((cellsFrom n names acc).map (·.1)).Nodup
 | [],_,_,_,h,_=>h
 | (y,kd)::r,n,acc,hn,ha,hd=>by
  simp only [List.map_cons,List.nodup_cons] at hn
  unfold cellsFrom
  split
  ·refine E3 r _ _ hn.2 ?_ ?_
   ·simp only [List.map_cons,List.nodup_cons]
    exact ⟨fun q=>hd y q (by simp),ha⟩
   ·intro x hx
    simp only [List.map_cons,List.mem_cons] at hx
    rcases hx with q|q
    ·subst q;exact hn.1
    ·exact fun q'=>hd x q (by simp at q' ⊢; exact .inr q')
  ·exact E3 r _ _ hn.2 ha (fun x hx q'=>hd x hx (by simp at q' ⊢; exact .inr q'))
theorem L6:∀ {l:List (Str × Addr)} {n:Str} {a:Addr},(l.map (·.1)).Nodup→(n,a)∈l→l.lookup n=some a
 | (m,b)::r,n,a,hn,h=>by
  simp only [List.map_cons,List.nodup_cons] at hn
  rw [List.lookup_cons]
  rcases List.mem_cons.mp h with q|q
  ·cases q;simp
  ·have:(n==m)=false:=by
    have:n≠m:=fun e=>hn.1 (e▸List.mem_map_of_mem q)
    simpa using this
   rw [this]
   exact L6 hn.2 q
inductive bx1 (D:Wd)(G:List (Str × V))(mts:List Str)(x:Str)(f:Fn):Prop where
 | mk:∀ a o name qual params body scope pm cd doc ps,D.fa x=some a→D.hB.get? a=some o→o.data=.func (methDef name qual params body scope pm cd doc)→D.hB.CodeRec cd qual →
  bb9 G mts ps body scope=some f→(∀ vals:List Value,vals.length=ps.length→bindArgs (methDef name qual params body scope pm cd doc) ⟨vals,[]⟩=pure (ps.zip vals)) →
  ps.Nodup→(scope.names.map (·.1)).Nodup→(∀ p∈ps,scope.names.lookup p=some .local∨scope.names.lookup p=some .cell)→scope.isCoroutine=false→scope.isGenerator=false→scope.kind=.function→bx1 D G mts x f
noncomputable abbrev Wd.on (D:Wd)(fr:List Env):Wd:={ D with fr:=fr }
mutual
theorem Rep.on {D:Wd}{fr fr':List Env}{γ:List Addr}{h:Heap}{v:Value}:∀ {V:V},Rep (D.on fr) γ h v V→Rep (D.on fr') γ h v V
 | .none,x=>x
 | .bool _,x=>x
 | .int _,x=>x
 | .str _,x=>x
 | .tup l,x=>by
  refine e2_3 x fun a vs e t r=>?_
  exact Exists.intro a ⟨vs,e,t,Reps.on r⟩
 | .ref _,x=>x
 | .fn _,x=>x
 | .ty _,x=>x
 | .bi _,x=>x
 | .scr _,x=>x
 | .bk,x=>x
 | .cls _ _,x=>x
 | .opq _,x=>x
theorem Reps.on {D:Wd}{fr fr':List Env}{γ:List Addr}{h:Heap}{vs:List Value}:∀ {l:List V},Reps (D.on fr) γ h vs l→Reps (D.on fr') γ h vs l
 | [],x=>x
 | V::l,x=>by
  refine e2_3 x fun v r e a b=>?_
  exact Exists.intro v ⟨r,e,Rep.on a,Reps.on b⟩
end
theorem FsRep.on {D:Wd}{fr fr':List Env}{γ:List Addr}{h:Heap}{fs:List (Str × V)}{m:Str→Option Value}(x:FsRep (D.on fr) γ h fs m):FsRep (D.on fr') γ h fs m :=
 ⟨fun y V e=>let ⟨v,q,r⟩:=x.1 y V e; ⟨v,q,r.on⟩,x.2⟩
theorem HRel.on {D:Wd}{fr fr':List Env}{γ:List Addr}{H:Hp}{h:Heap}(R:HRel (D.on fr) γ H h)(F:FrsOk (D.on fr') γ h):HRel (D.on fr') γ H h where
 len:=R.len
 nodup:=R.nodup
 objs:=fun i a o e1 e2=>by
  have:=R.objs i a o e1 e2
  cases o with
  | list xs=>obtain ⟨vs,n,e,r,z⟩:=this;exact ⟨vs,n,e,r.on,z⟩
  | inst j=>exact this
  | ns fs=>obtain ⟨m,n,r,q⟩:=this;exact ⟨m,n,r.on,q⟩
  | dict es=>obtain ⟨kvs,n,r,q⟩:=this;exact ⟨kvs,n,r.on,q⟩
 fresh:=R.fresh
 base:=R.base
 frs:=F
theorem GOk.on {D:Wd}{G:List (Str × V)}{mts:List Str}(g:GOk D G mts)(fr:List Env):GOk (D.on fr) G mts where
 gns:=g.gns
 bns:=g.bns
 val:=fun x V h=>by
  refine e1_2 (g.val x V h) fun v hv r=>?_
  exact ⟨v,hv,fun γ=>Rep.on (D:=D) (fr:=D.fr) (fr':=fr) (r γ)⟩
 lim:=g.lim
 bk:=by
  obtain ⟨N,nm,q,bs,sn,sub,col,dd,k0,k1,k2,k3,k5,h1,h2⟩:=g.bk.cls
  exact ⟨⟨N,nm,q,bs,sn,sub,col,dd,k0,k1,k2,k3,k5,h1,h2⟩,g.bk.noG,g.bk.noH,g.bk.noS,g.bk.noF,fun m hm=>by
   first|refine e4_5 (g.bk.mts m hm) fun a b c d e f i j k=>?_|obtain ⟨a,b,c,d,e,f,i,j,k⟩:=g.bk.mts m hm
   exact ⟨a,b,c,d,e,f,i,j,k⟩,g.bk.init⟩
 cls:=g.cls
 exs:=g.exs
theorem XFly.on {f f':List Env}{γ:List Addr}{s:Shared}{h:Heap}{v:Value}{x:Exc}(q:XFly (D.on f) γ s h v x):XFly (D.on f') γ s h v x:=by
 obtain ⟨a,oe,vs,C,a0,T,oT,ts,h1,h2,h3,h4,h5,h6,h7,h8,h9,h10,h11,h12,h13,h14,h15⟩:=q
 exact ⟨a,oe,vs,C,a0,T,oT,ts,h1,h2,h3,h4,h5,h6,h7,h8,h9,h10,h11,h12,h13,h14,h15⟩
theorem b99 {G:List (Str × V)}{mts:List Str}(g0:GOk D G mts)(hO:g7 D k Φ){x:Str}{f:Fn}(fo:bx1 D G mts x f):∀ fr vs H Q X,v8 Φ f vs H Q X→∀ A γ s vals a,AOkC (D.on fr) (k+1) A→HRel (D.on fr) γ H s.heap→Reps (D.on fr) γ s.heap vals vs→D.fa x=some a →
  (∃ o fd,D.hB.get? a=some o∧o.data=.func fd)∧wpAny D.M A (call (.ref a) vals) (PostV (D.on fr) γ s Q) (PostX (D.on fr) γ s X) s:=by
 intro fr vs H Q X w A γ s vals a hA R rv hxa
 obtain ⟨a',o,name,qual,params,body,scope,pm,cd,doc,ps,hx,ho,hd,hcd,hf,hb,hps,hnn,hk,hco,hgen,hkind⟩:=fo
 rw [hxa] at hx;obtain rfl:=Option.some.inj hx
 refine ⟨⟨o,_,ho,hd⟩,?_⟩
 revert w;refine k8 hf fun ib hib w=>?_
 refine j4 w fun hlen w=>?_
 simp only at hlen
 have hvl:vals.length=ps.length:=by rw [rv.length,hlen]
 have hz:(ps.zip vals).map (·.1)=ps:=by rw [List.map_fst_zip];lia
 have hzn:((ps.zip vals).map (·.1)).Nodup:=by rw [hz];exact hps
 have kinds:∀ y∈ps.zip vals,scope.names.lookup y.1=some .local∨(scope.names.lookup y.1=some .cell∧((cellsFrom (s.heap.objs.size+1) scope.names []).lookup y.1).isSome=true):=fun y hy=>by
  have:y.1∈ps:=by rw [←hz];exact List.mem_map_of_mem hy
  rcases hk y.1 this with q|q
  ·exact .inl q
  ·exact .inr ⟨q,PySem.W.cellsFrom_some _ _ _ (.inl q)⟩
 refine wpAny_call (codeAny_call_cells (fd:=methDef name qual params body scope pm cd doc) (body:=body) (binds:=ps.zip vals) (Nat.lt_of_lt_of_le (Nat.lt_of_le_of_lt (Nat.le_add_right _ _) hA.depth) (by decide)) (R.base _ _ ho) hd (g0.lim.keeps R.base) (hcd.keeps R.base) rfl (hb vals hvl) rfl kinds (fun s1 ic=>?_) hco hgen hkind)
 generalize henv:callEnvC (methDef name qual params body scope pm cd doc) s.heap.objs.size a=env at ic ⊢
 have hko:∀ y,env.kindOf y=scope.names.lookup y:=fun y=>by subst henv;rfl
 have hloc:env.locals=s.heap.objs.size:=by subst henv;rfl
 have hcells:env.cells=cellsFrom (s.heap.objs.size+1) scope.names []:=by subst henv;rfl
 let c:CC:={ G,mts,scope,slots:=Y0 (N9 ps scope) 0,nxt:=(N9 ps scope).length }
 have g:GOk (D.on (env::fr)) G mts:=g0.on _
 have hE:s8 c env:=⟨by subst henv;rfl,hkind,by subst henv;rfl,by subst henv;rfl⟩
 have so:K9 c:=⟨fun y z i h1 h2=>by
  refine e1_2 (A7 _ _ _ _ h1) fun j e1 e2=>?_
  refine e1_2 (A7 _ _ _ _ h2) fun j' e1' e2'=>?_
  have:j=j':=by lia
  subst this
  rw [e2] at e2';cases e2';rfl⟩
 have new:∀ b,s.heap.objs.size≤b→b∉γ∧D.hB.get? b=none:=fun b hb=>by
  have e:s.heap.get? b=none:=by
   cases q:s.heap.get? b with
   | none=>rfl
   | some o=>exact absurd (Heap.lt_size q) (Nat.not_lt.mpr hb)
  exact R.nin e
 have keep:=ic.toInCall.keep
 have tt:∀ a ws,TupAt s.heap a ws→TupAt s1.heap a ws:=fun _ _ q=>j9 keep q
 have cn:((env.cells).map (·.1)).Nodup:=by rw [hcells];exact E3 _ _ _ hnn (by simp) (by simp)
 have ini:∀ (y:Str) (i:Nat) (V:V),c.slots.lookup y=some i→(E2 { names:=(N9 ps scope).length+3,params:=ps.length,body:=ib } vs)[i]? = some (some V)→∃ v,(ps.zip vals).lookup y=some v∧Rep (D.on (env::fr)) γ s1.heap v V:=by
  intro y i V hs hL
  refine e1_2 (A7 _ _ _ _ hs) fun j e1 e2=>?_
  have hij:i=j:=by lia
  subst hij
  unfold E2 at hL
  have hi:i<vs.length:=by
   apply Classical.byContradiction
   intro hn
   rw [List.getElem?_append_right (by simp;lia),List.getElem?_replicate] at hL
   split at hL<;>cases hL
  rw [List.getElem?_append_left (by simpa using hi),List.getElem?_map] at hL
  simp only [Option.map_eq_some_iff,Option.some.injEq,exists_eq_right] at hL
  refine e1_2 (rv.get hL) fun v hv rvv=>?_
  have hpi:ps[i]? = some y:=by
   unfold N9 at e2
   rw [List.getElem?_append_left (by lia)] at e2
   exact e2
  exact ⟨v,an1 ps vals i y v hps hpi hv,(Rep.mono ⟨[],by simp⟩ tt rvv).on⟩
 have frl:FRel (D.on (env::fr)) γ env c.slots s1.heap (E2 { names:=(N9 ps scope).length+3,params:=ps.length,body:=ib } vs):=by
  refine ⟨⟨⟨_,ic.toInCall.ns,?_⟩,?_,?_,⟨env,fr,rfl,rfl⟩⟩,?_,ic.apart,?_,⟨fr,rfl,by subst henv;rfl⟩⟩
  ·intro y i V hy hs hL
   refine e1_2 (ini y i V hs hL) fun v hv r=>?_
   exact ⟨v,by rw [an9 _ _ _ hy hzn,hv];rfl,r⟩
  ·intro y hy
   have hc':(env.cells.lookup y).isSome=true:=by rw [hcells];exact PySem.W.cellsFrom_some _ _ _ (.inl (by rw [←hko];exact hy))
   refine e1_1 (Option.isSome_iff_exists.mp hc') fun ca hca=>?_
   have habove:=ic.above y ca (mem_of_lookup hca)
   rw [hloc] at habove
   refine ⟨ca,_,hca,ic.cell y ca hca,(new ca (Nat.le_of_lt habove)).1,fun i V hs hL=>?_⟩
   refine e1_2 (ini y i V hs hL) fun v hv r=>?_
   exact ⟨v,by rw [an5 _ _ _ (by rw [hy];intro q;cases q) hzn,hv];rfl,r⟩
  ·exact (new _ (by rw [hloc];exact Nat.le_refl _)).1
  ·intro b hb
   rcases List.mem_cons.mp hb with q|q
   ·subst q
    have n1:=new env.locals (by rw [hloc];exact Nat.le_refl _)
    exact ⟨n1.1,n1.2,(let ⟨o,_,_,e,_⟩:=ic.toInCall.ns; ⟨o,e⟩),A5 ic.toInCall.ns⟩
   ·refine e1_2 (List.mem_map.mp q) fun e_251 hm e_252=>?_
    obtain ⟨y,ca⟩:=e_251
    obtain rfl:=e_252
    have habove:=ic.above y ca hm
    rw [hloc] at habove
    have n1:=new ca (Nat.le_of_lt habove)
    have hcell:=ic.cell y ca (L6 cn hm)
    exact ⟨n1.1,n1.2,(let ⟨o,e,_⟩:=hcell; ⟨o,e⟩),af1 hcell⟩
  ·intro p hp
   exact Nat.ne_of_gt (ic.above p.1 p.2 hp)
 have own0:∀ b∈ac6 env,s.heap.get? b=none:=fun b hb=>by
  have hge:s.heap.objs.size≤b:=by
   rcases List.mem_cons.mp hb with q|q
   ·rw [q,hloc];exact Nat.le_refl _
   ·refine e1_2 (List.mem_map.mp q) fun e_253 hm e_254=>?_
    obtain ⟨y,ca⟩:=e_253
    obtain rfl:=e_254
    have habove:=ic.above y ca hm
    rw [hloc] at habove
    exact Nat.le_of_lt habove
  cases q:s.heap.get? b with
  | none=>rfl
  | some o=>exact absurd (Heap.lt_size q) (Nat.not_lt.mpr hge)
 have fresh0:∀ b,s1.heap.get? b=none→s.heap.get? b=none:=fun b hb=>by
  cases q:s.heap.get? b with
  | none=>rfl
  | some o=>rw [keep b o q] at hb;cases hb
 have stp0:∀ {γ2:List Addr} {s2:Shared},Stp (ac6 env) γ γ2 s1 s2→Stp [] γ γ2 s s2:=fun {γ2 s2} st2=>by
  refine ⟨?_,fun b o hb _ e=>st2.keepS b o hb (fun q=>by rw [own0 b q] at e;exact b9 e) (keep b o e),?_⟩
  ·refine e2_1 (ic.toInCall.same) fun h1 t1 e1=>?_
   refine e2_1 (st2.same) fun h2 t2 e2=>?_
   rw [e2,e1];exact ⟨_,_,rfl⟩
  ·refine e1_2 (st2.ext) fun δ e f=>?_
   exact ⟨δ,e,fun b hb=>fresh0 b (f b hb)⟩
 have frs1:FrsOk (D.on (env::fr)) γ s1.heap:=fun e he=>by
  rcases List.mem_cons.mp he with q|q
  ·subst q
   refine e1_2 (bd8 ic.toInCall.ns) fun o e1 e2=>?_
   have n1:=new e.locals (by rw [hloc];exact Nat.le_refl _)
   exact ⟨by rw [hE.scope];exact hkind,_,o,(by subst henv;rfl),n1.2,n1.1,e1,e2⟩
  ·exact (R.frs.grow keep) e q
 have R1:HRel (D.on (env::fr)) γ H s1.heap:=(R.grow keep).on frs1
 have outer:∀ {γ:List Addr} {h:Heap},FrsOk (D.on (env::fr)) γ h→FrsOk (D.on fr) γ h:=fun F e he=>F e (List.mem_cons_of_mem _ he)
 have body_ok:=aT1 (D:=D.on (env::fr)) (f:=aN1 40 c) (fun st is h=>bI0 (D:=D.on (env::fr)) (Φ:=Φ) (k:=k) hO 40 c st is g so h) body ib hib env (A.deeper env) γ H s1 _ _ _ hE (hA.deeper env) R1 frl w
 refine wpAny_mono body_ok (fun fl s2 p=>?_) fun e s2 p=>?_
 ·obtain ⟨γ2,H2,L2,F,st2,R2,fr2,hf2,q2⟩:=p
  have st0:=stp0 st2
  have R2':HRel (D.on fr) γ2 H2 s2.heap:=R2.on (outer R2.frs)
  cases F with
  | next=>obtain rfl:=hf2;exact ⟨γ2,.none,H2,st0,R2',(show Rep _ _ _ _ .none from rfl),q2⟩
  | ret V=>obtain ⟨v,rfl,rv⟩:=hf2;exact ⟨γ2,V,H2,st0,R2',rv.on,q2⟩
 ·obtain ⟨γ2,H2,L2,x,st2,R2,fr2,⟨hx,hex⟩,q2⟩:=p
  refine aW9 (D:=D.on (env::fr)) (hA.deeper env).frames R1 R2 rfl (by subst henv;rfl) hx fun a C a0 ex h' e1 hmg hn hax XF land tr=>?_
  subst e1
  have fly:=a98 (fun b=>T5 st2 R2 fr2.alive) R2.frs (fun b hb=>(R2.nin hb).1) (bE1 R2 XF hax) XF land hmg hn tr
  have R3:=land.rel R2 XF
  exact ⟨γ2,H2,x,stp0 (land.stp R2.frs XF st2),R3.on (outer R3.frs),⟨(fly.from fresh0).on,hex⟩,q2⟩
end
end Mine
namespace Mine
open PySem PyProof.Rows
theorem M6:∀ (ps:List Str) (vals:List Value) (n:Str),vals.length=ps.length→n∈ps→((ps.zip vals).lookup n).isSome=true
 | [],_,n,_,h=>by cases h
 | p::ps,[],n,e,_=>by simp at e
 | p::ps,v::vals,n,e,h=>by
  simp only [List.zip_cons_cons,List.lookup_cons]
  split
  ·rfl
  ·rename_i q
   refine M6 ps vals n (by simpa using e) ?_
   rcases List.mem_cons.mp h with q'|q'
   ·subst q';simp at q
   ·exact q'
theorem U6:∀ (ps:List Str) (vals:List Value) (pre:List (Str × Value)),vals.length=ps.length→ps.Nodup→(∀ p∈ps,pre.lookup p=none)→ps.filterMap (fun n=>((pre++ps.zip vals).lookup n).map (n,·))=ps.zip vals
 | [],_,_,_,_,_=>by simp
 | p::ps,[],_,e,_,_=>by simp at e
 | p::ps,v::vals,pre,e,hn,hp=>by
  have h1:(pre++(p::ps).zip (v::vals)).lookup p=some v:=by
   rw [List.lookup_append,hp p (by simp)];simp
  simp only [List.filterMap_cons,h1,Option.map_some]
  simp only [List.zip_cons_cons,List.cons.injEq,true_and]
  have:=U6 ps vals (pre++[(p,v)]) (by simpa using e) (List.nodup_cons.mp hn).2 (fun q hq=>by
   rw [List.lookup_append,hp q (by simp [hq])]
   have:(q==p)=false:=by
    have:q≠p:=fun e=>(List.nodup_cons.mp hn).1 (e▸hq)
    simpa using this
   simp [List.lookup_cons,this])
  simpa using this
theorem aW6 {α:Type}{c:Prop}[Decidable c]{t e r:α}(hc:¬ c)(h:e=r):(if c then t else e)=r:=(if_neg hc).trans h
theorem a71 {σ β α:Type}{l:List β}{s:σ}{f:β→σ→Sem (ForInStep σ)}{g:σ→Sem α}{r:Sem α}(hl:l=[])(h:g s=r):(forIn l s f >>= g)=r:=by subst hl;exact h
theorem a34 {α:Type}{o:Option α}(h:o.isSome=true):¬ (o.isNone=true):=fun q=>by rw [Option.isNone_iff_eq_none.mp q] at h;exact Bool.noConfusion h
theorem a42 {α β:Type}{l:List α}{k:Nat}:l.zip (List.drop k ([]:List β))=[]:=by rw [List.drop_nil,List.zip_nil_right]
theorem bJ2 {α β:Type}{l:List α}{f:α→Option β}{r:List β}(h:l.filterMap f=r):(l++[]).filterMap f=r:=by rw [List.append_nil];exact h
theorem aB2 {name qual:Str}{args:List Arg}{body:List Stmt}{scope:Scope}{pm cd doc:Value}{kd:List (Option Expr)}{vals:List Value}(hn:(args.map (·.arg)).Nodup)(hl:vals.length=(args.map (·.arg)).length) :
  bindArgs (methDef name qual ⟨[],args,none,[],kd,none,[]⟩ body scope pm cd doc) ⟨vals,[]⟩=pure ((args.map (·.arg)).zip vals):=by
 refine aW6 (c:=(decide (vals.length>(args.map (·.arg)).length)&&true)=true) (by rw [hl,decide_eq_false (Nat.lt_irrefl _)];exact Bool.false_ne_true) ?_
 refine aW6 (fun q=>absurd (List.filter_eq_nil_iff.mpr fun n hm=>a34 (M6 _ vals n hl (List.mem_of_mem_take hm))) (List.isEmpty_eq_false_iff.mp (aF7 q))) ?_
 refine a71 a42 ?_
 exact congrArg (fun l=>(pure l:Sem _)) (bJ2 (U6 _ vals [] hl hn fun _ _=>rfl))
noncomputable def M4:List Str→Bool
 | []=>true
 | x::r=>!r.contains x&&M4 r
theorem N2:∀ {l:List Str},M4 l=true→l.Nodup
 | [],_=>List.nodup_nil
 | x::r,h=>by
  simp only [M4,Bool.and_eq_true,Bool.not_eq_true',List.contains_eq_mem,decide_eq_false_iff_not] at h
  exact List.nodup_cons.mpr ⟨h.1,N2 h.2⟩
noncomputable def an7 (a:Arguments):Option (List Str):=g9 (a.posonlyargs.isEmpty&&a.vararg.isNone&&a.kwonlyargs.isEmpty&&a.kwarg.isNone&&a.defaults.isEmpty) (some (a.args.map (·.arg)))
noncomputable def ci1 (ps:List Str)(scope:Scope):Bool:=M4 ps&&M4 (scope.names.map (·.1))&&(ps.all fun p=>scope.names.lookup p==some .local||scope.names.lookup p==some .cell)&&!scope.isCoroutine&&!scope.isGenerator&&scope.kind==.function
noncomputable def ap8 (G:List (Str × V))(mts:List Str)(params:Arguments)(body:List Stmt)(scope:Scope):Option Fn:=(an7 params).bind fun ps=>g9 (ci1 ps scope) (bb9 G mts ps body scope)
noncomputable def f7 (G:List (Str × V))(mts:List Str)(p:Program)(x:Str):Option Fn:=((recsOf p).find? (fun d=>d.name==x)).bind fun d=>ap8 G mts d.params d.body d.scope
noncomputable def i7 (G:List (Str × V))(mts:List Str)(c:ClsRec)(m:Str):Option Fn:=(c.meths.find? (fun d=>d.name==m)).bind fun d=>ap8 G mts d.params d.body d.scope
theorem aD7 {params:Arguments}{ps:List Str}(h:an7 params=some ps):∃ ar kd,params=⟨[],ar,none,[],kd,none,[]⟩∧ps=ar.map (·.arg):=by
 obtain ⟨po,ar,va,ko,kd,kw,df⟩:=params
 refine f0 ((show g9 (po.isEmpty&&va.isNone&&ko.isEmpty&&kw.isNone&&df.isEmpty) (some (ar.map (·.arg)))=some ps from h)) fun hb h=>?_
 simp only [Bool.and_eq_true,List.isEmpty_iff,Option.isNone_iff_eq_none] at hb
 refine j4 hb fun e_256 e_257=>?_
 refine j4 e_256 fun e_258 e_259=>?_
 refine j4 e_258 fun e_260 e_261=>?_
 refine j4 e_260 fun e_262 e_263=>?_
 obtain rfl:=e_262
 obtain rfl:=e_263
 obtain rfl:=e_261
 obtain rfl:=e_259
 obtain rfl:=e_257
 exact ⟨ar,kd,rfl,(Option.some.inj h).symm⟩
theorem aR2 {D:Wd}{G:List (Str × V)}{mts:List Str}{x:Str}{f:Fn}{a:Addr}{o:Obj}{name qual:Str}{params:Arguments}{body:List Stmt}{scope:Scope}{pm cd doc:Value}(hx:D.fa x=some a)(ho:D.hB.get? a=some o)
  (hd:o.data=.func (methDef name qual params body scope pm cd doc)) (hcd:D.hB.CodeRec cd qual) (h:ap8 G mts params body scope=some f):bx1 D G mts x f:=by
 refine j2 h fun ps hps h=>?_
 refine f0 h fun hc h=>?_
 unfold ci1 at hc
 rw [Bool.and_eq_true,Bool.and_eq_true,Bool.and_eq_true,Bool.and_eq_true,Bool.and_eq_true] at hc
 refine j4 hc fun e_264 c6=>?_
 refine j4 e_264 fun e_265 c5=>?_
 refine j4 e_265 fun e_266 c4=>?_
 refine j4 e_266 fun e_267 c3=>?_
 refine j4 e_267 fun c1 c2=>?_
 have hnd:=N2 c1
 refine ⟨a,o,name,qual,params,body,scope,pm,cd,doc,ps,hx,ho,hd,hcd,h,?_,hnd,N2 c2,fun q hq=>?_,aF7 c4,aF7 c5,?_⟩
 ·intro vals hl
  refine e2_2 (aD7 hps) fun ar kd e_268 e_269=>?_
  obtain rfl:=e_268
  obtain rfl:=e_269
  exact aB2 hnd hl
 ·have:=List.all_eq_true.mp c3 q hq
  rw [Bool.or_eq_true,beq_iff_eq,beq_iff_eq] at this
  exact this
 ·revert c6;cases scope.kind<;>intro c6<;>first|rfl|exact Bool.noConfusion c6
theorem d6 {D:Wd}{G:List (Str × V)}{mts:List Str}{p:Program}{loose:List Str}{mean:ExcName→Option Value}(T:Top p loose mean D.mg D.mb D.hB){x:Str}{f:Fn}(hs:aB1 x=none)(h:f7 G mts p x=some f):bx1 D G mts x f:=by
 refine j2 h fun d hd h2=>?_
 have hn:(d.name==x)=true:=List.find?_some (p:=fun (d:DefRec)=>d.name==x) hd
 obtain rfl:d.name=x:=eq_of_beq hn
 obtain ⟨a,o,pm,cd,doc,h1,q2,h3,h4⟩:=T.fn d (List.mem_of_find?_eq_some hd)
 exact aR2 (qual:=d.name) (bj0 hs h1) q2 h3 h4 h2
theorem i6 {D:Wd}{G:List (Str × V)}{mts:List Str}{c:ClsRec}{N:Addr}(P:PlainAt D.hB c D.bk N D.mt){m:Str}{f:Fn}(h:i7 G mts c m=some f):bx1 D G mts (Str.ofString "Book."++m) f:=by
 refine j2 h fun d hd h2=>?_
 have hn:(d.name==m)=true:=List.find?_some (p:=fun (d:MethRec)=>d.name==m) hd
 obtain rfl:d.name=m:=eq_of_beq hn
 refine e5_5 (P.meths d (List.mem_of_find?_eq_some hd)) fun a o pm cd doc h1 q2 _ h3 h4=>?_
 exact aR2 (bC8 h1) q2 h3 h4 h2
noncomputable def a23 (c:ClsRec)(mts:List Str):Bool:=(["names","free_rules","busy_rules","held","given"]:List Str).all c.quiet.contains&&((Str.ofString "__init__")::mts).all fun m=>!X9 m&&(fastLookup "object" m).isSome&&c.meths.any (·.name==m)
theorem bh2 {D:Wd}{mts:List Str}{c:ClsRec}{N:Addr}(P:PlainAt D.hB c D.bk N D.mt)(h:a23 c mts=true):cj0 D mts:=by
 unfold a23 at h
 rw [Bool.and_eq_true,List.all_eq_true,List.all_eq_true] at h
 have mt:∀ m∈(Str.ofString "__init__")::mts,MtC D m:=fun m hm=>by
  have h2:=h.2 m hm
  rw [Bool.and_eq_true,Bool.and_eq_true,List.any_eq_true] at h2
  obtain ⟨⟨h3,h4⟩,d,hd,e⟩:=h2
  obtain rfl:d.name=m:=eq_of_beq e
  refine e5_5 (P.meths d hd) fun a o pm cd doc q1 q2 q3 q4 _=>?_
  refine ⟨aF7 h3,?_,a,o,q1,q2,q3,⟨_,q4⟩,bC8 q1⟩
  refine e1_1 (Option.isSome_iff_exists.mp h4) fun r hr=>?_
  exact ⟨r,by rw [typeLookup_type,builtinLookup_eq_fast,hr]⟩
 obtain ⟨nm,q,bs,sn,sub,col,dd,k0,k1,k2,k3,k5,e⟩:=P.cls.obj
 obtain ⟨_,_,a,o,q1,q2,q3,_,q5⟩:=mt _ List.mem_cons_self
 refine ⟨⟨N,nm,q,bs,sn,sub,col,dd,k0,k1,k2,k3,k5,e,P.cls.ns⟩,P.quiet _ (.tail _ (.head _)),P.quiet _ (.tail _ (.tail _ (.head _))),P.quiet _ (.head _),fun x hx=>?_,fun m hm=>mt m (List.mem_cons_of_mem _ (List.contains_iff_mem.mp hm)),a,o,q1,q2,q3,q5⟩
 have:x∈(["names","free_rules","busy_rules","held","given"]:List Str):=by
  rcases ay7 hx with rfl|rfl|rfl|rfl|rfl
  ·exact .head _
  ·exact .tail _ (.head _)
  ·exact .tail _ (.tail _ (.head _))
  ·exact .tail _ (.tail _ (.tail _ (.head _)))
  ·exact .tail _ (.tail _ (.tail _ (.tail _ (.head _))))
 exact P.quiet x (List.contains_iff_mem.mp (h.1 x this))
end Mine
namespace Mine
open PySem PySem.W PyProof.Rows
noncomputable def bK3:Stmt→Bool
 | .Assign [.Name x _] _ _=>x==("__name__":Str)
 | _=>false
noncomputable def bM0 (p:Program):Program:={ p with main:={ p.main with body:=p.main.body.filter fun st=>!bK3 st } }
theorem bI4 {D:Wd}:g7 D 0 noΦ:=fun _ _ _ _ _ _ h=>h.elim
theorem f8 {D:Wd}{G:List (Str × V)}{mts:List Str}{k:Nat}{Φ:Orc}{n:Str}{f:Fn}{C:List V→Hp→(V→Hp→Prop)→XL→Prop}(g:GOk D G mts)(hO:g7 D k Φ)(fo:bx1 D G mts n f)
  (h:∀ vs H Q X,C vs H Q X→v8 Φ f vs H Q X):g7 D (k+1) (ext n C Φ):=by
 intro fr x vs H Q X hx A γ s vals a hA R rv ha
 unfold ext at hx
 cases e:x==n with
 | true =>
  rw [e] at hx
  obtain rfl:x=n:=eq_of_beq e
  exact b99 g hO fo fr vs H Q X (h vs H Q X hx) A γ s vals a hA R rv ha
 | false =>
  rw [e] at hx
  exact hO fr x vs H Q X hx A γ s vals a (hA.mono (Nat.le_succ k)) R rv ha
theorem aF1:∀ {vs:List Value} {ns:List Int},IntsAre vs ns→vs.length=ns.length∧∀ (k:Nat) (i:Int),ns[k]? = some i→∃ t,vs[k]? = some (.int i t)
 | _,_,.nil=>⟨rfl,fun k i h=>by simp at h⟩
 | _,_,.cons n t r=>by
  refine j4 (aF1 r) fun h1 h2=>?_
  refine ⟨by simp [h1],fun k i h=>?_⟩
  cases k with
  | zero=>simp at h;subst h;exact ⟨t,by simp⟩
  | succ k=>simp at h;obtain ⟨u,hu⟩:=h2 k i h;exact ⟨u,by simpa using hu⟩
noncomputable def aZ8 (D:Wd)(x:Str)(W:V):Prop:=∃ v,(D.mg x=some v∨(D.mg x=none∧D.mb x=some v))∧∀ γ,Rep D γ D.hB v W
noncomputable def bS7 (D:Wd):List (Str × V)→Prop
 | []=>True
 | p::r=>aZ8 D p.1 p.2∧bS7 D r
theorem ah2 {D:Wd}:∀ {G:List (Str × V)},bS7 D G→∀ (x:Str) (W:V),G.lookup x=some W→aZ8 D x W
 | [],_,x,W,h=>by cases h
 | (y,U)::r,g,x,W,h=>by
  rw [List.lookup_cons] at h
  split at h
  ·rename_i e
   have e:x=y:=by simpa using e
   cases h;subst e;exact g.1
  ·exact ah2 g.2 x W h
noncomputable def cj5:Value→Option Addr
 | .ref a=>some a
 | _=>none
theorem aZ3 {v:Value}{a:Addr}(h:cj5 v=some a):v=.ref a:=by
 cases v with
 | ref _=>exact congrArg Value.ref (Option.some.inj h)
 | _=>exact b9 h
noncomputable def bl3:Data→Option ClassData
 | .cls cd=>some cd
 | _=>none
theorem ao2 {d:Data}{cd:ClassData}(h:bl3 d=some cd):d=.cls cd:=by
 cases d with
 | cls _=>exact congrArg Data.cls (Option.some.inj h)
 | _=>exact b9 h
noncomputable def br0 (K:Frag)(N:Addr):Bool:=nsOkIn K N&&nsIn K N "__init__"==some none
theorem aI7 {K:Frag}{h:Heap}{N:Addr}(X:K.In h)(q:br0 K N=true):h.Ns N (h.nsMap N)∧h.nsMap N "__init__" = none:=by
 refine j4 ((Bool.and_eq_true _ _).mp q) fun q1 q2=>?_
 exact ⟨.of_isNs (isNs_of_in X q1),nsMap_none_of_in X q1 (beq_iff_eq.mp q2)⟩
noncomputable def cc9 {α:Type}(x:Option α)(p:α→Bool):Bool:=match x with|some a=>p a|none=>false
theorem ax3 {α:Type}{x:Option α}{p:α→Bool}(h:cc9 x p=true):∃ a,x=some a∧p a=true:=by cases x with|some a=>exact ⟨a,rfl,h⟩|none=>exact Bool.noConfusion h
noncomputable def aB5 (K:Frag):List Value→Bool
 | []=>false
 | v::r=>(v::r)==bmV||(cc9 ((cj5 v).bind fun A=>(K.lookup A).bind fun o=>bl3 o.data) fun cd=>br0 K cd.ns)&&aB5 K r
theorem aI6 {K:Frag}{h:Heap}(X:K.In h):∀ {l:List Value},aB5 K l=true→OwnTail h bmV l
 | [],e=>Bool.noConfusion e
 | v::r,e=>by
  rcases (Bool.or_eq_true _ _).mp e with q|q
  ·rw [beq_iff_eq.mp q];exact .base
  ·refine j4 ((Bool.and_eq_true _ _).mp q) fun q q3=>?_
   refine e1_2 (ax3 q) fun cd q1 q2=>?_
   refine j2 q1 fun A hA q1=>?_
   refine j2 q1 fun o ho q1=>?_
   obtain ⟨c0,dd,dt,sl⟩:=o
   refine j4 (aI7 X q2) fun n1 n2=>?_
   rw [aZ3 hA]
   rw [show dt=.cls cd from ao2 q1] at ho
   exact .own (X _ _ ho) n1 n2 (aI6 X q3)
noncomputable def slN (sl:Array (Option Value)):Bool:=sl.toList.length==6&&sl.toList[4]?==some (some (.builtin "ValueError.__new__"))
theorem bM3 {sl:Array (Option Value)}(h:slN sl=true):∃ k0 k1 k2 k3 k5,sl = #[k0,k1,k2,k3,some (.builtin "ValueError.__new__"),k5]:=by
 obtain ⟨l⟩:=sl
 refine j4 ((Bool.and_eq_true _ _).mp h) fun h1 h2=>?_
 have h1:l.length=6:=beq_iff_eq.mp h1
 have h2:l[4]? = some (some (.builtin "ValueError.__new__")):=beq_iff_eq.mp h2
 rcases l with _|⟨k0,_|⟨k1,_|⟨k2,_|⟨k3,_|⟨k4,_|⟨k5,_|⟨k6,l⟩⟩⟩⟩⟩⟩⟩<;>first|exact absurd h1 (Nat.ne_of_beq_eq_false rfl)|skip
 ·obtain rfl:=Option.some.inj h2
  exact ⟨k0,k1,k2,k3,k5,rfl⟩
noncomputable def bx5 (K:Frag)(C:Addr):Option (List Value):=(K.lookup C).bind fun o=>(bl3 o.data).bind fun cd=>g9 (o.cls==.type "type"&&cd.mro.head?==some (.ref C)&&!cd.hasDel&&slN o.slots&&aB5 K cd.mro.tail&&br0 K cd.ns) (some cd.mro.tail)
theorem a52 {K:Frag}{h:Heap}{C:Addr}{bm:List Value}(X:K.In h)(q:bx5 K C=some bm):ClsAt h C bm:=by
 refine e1_2 (Option.bind_eq_some_iff.mp q) fun e_271 ho q=>?_
 obtain ⟨c0,dd,dt,sl⟩:=e_271
 refine e1_2 (Option.bind_eq_some_iff.mp q) fun e_272 hd' q=>?_
 obtain ⟨nm,bs,mro,ns,qn,hd,sn,sub,ab,col,del⟩:=e_272
 refine f0 q fun qq e=>?_
 clear q
 obtain rfl:=Option.some.inj e
 simp only [Bool.and_eq_true] at qq
 refine j4 qq fun e_273 q6=>?_
 refine j4 e_273 fun e_274 q5=>?_
 refine j4 e_274 fun e_275 q4=>?_
 refine j4 e_275 fun e_276 q3=>?_
 refine j4 e_276 fun q1 q2=>?_
 obtain ⟨k0,k1,k2,k3,k5,rfl⟩:=bM3 q4
 refine j4 (aI7 X q6) fun n1 n2=>?_
 cases mro with
 | nil=>exact b9 (beq_iff_eq.mp q2)
 | cons v r =>
  obtain rfl:v=.ref C:=Option.some.inj (beq_iff_eq.mp q2)
  obtain rfl:c0=.type "type":=beq_iff_eq.mp q1
  obtain rfl:del=false:=aF7 q3
  rw [show dt=.cls _ from ao2 hd'] at ho
  exact ⟨ns,nm,qn,bs,hd,sn,sub,ab,col,dd,k0,k1,k2,k3,k5,_,X _ _ ho,n1,n2,aI6 X q5⟩
noncomputable def cd3 (K:Frag)(tab:List (Str × List Str × Addr))(t:Str × List Str × Addr):Bool:=cc9 (bx5 K t.2.2) fun bm=>nsIn K mainGlobals t.1==some (some (.ref t.2.2))&&(tab.all fun u=>(Value.ref t.2.2::bm).contains (.ref u.2.2)==t.2.1.contains u.1)
noncomputable def bV2 (K:Frag)(tab:List (Str × List Str × Addr)):Bool:=tab.all (cd3 K tab)
noncomputable def bw4 (tab:List (Str × List Str × Addr)):List (Str × List Str):=tab.map fun t=>(t.1,t.2.1)
noncomputable def bZ4 (G:List (Str × V))(ex:List (Str × List Str)):Bool:=G.all fun p=>match p.2 with
 | .cls z ups=>ex.any fun e=>e.1==z&&e.2==ups
 | _=>true
theorem bD7 {D:Wd}{K:Frag}{tab:List (Str × List Str × Addr)}(X:K.In D.hB)(g:D.hB.Ns mainGlobals D.mg)(he:D.ex=bw4 tab)(q:bV2 K tab=true):∀ (x:Str) (ups:List Str),(x,ups)∈D.ex→∃ C,bK0 D x ups C:=by
 have row:∀ t∈tab,∃ bm,D.mg t.1=some (.ref t.2.2)∧ClsAt D.hB t.2.2 bm∧(∀ u∈tab,(Value.ref t.2.2::bm).contains (.ref u.2.2)=t.2.1.contains u.1):=fun t ht=>by
  have h:=List.all_eq_true.mp q t ht
  refine e1_2 (ax3 h) fun bm hb h=>?_
  simp only [Bool.and_eq_true,beq_iff_eq,List.all_eq_true] at h
  exact ⟨bm,mg_of X g h.1,a52 X hb,h.2⟩
 intro x ups hx
 rw [he] at hx
 refine e1_2 (List.mem_map.mp hx) fun t ht e=>?_
 cases e
 refine e1_3 (row t ht) fun bm h1 h2 h3=>?_
 refine ⟨t.2.2,bm,h1,h2,fun y ups' Cy hy hmy=>?_⟩
 rw [he] at hy
 refine e1_2 (List.mem_map.mp hy) fun u hu e=>?_
 cases e
 refine e1_2 (row u hu) fun _ g1 _=>?_
 rw [hmy] at g1
 cases g1
 exact h3 u hu
theorem by2 {G:List (Str × V)}{ex:List (Str × List Str)}(q:bZ4 G ex=true):∀ (x z:Str) (ups:List Str),G.lookup x=some (.cls z ups)→(z,ups)∈ex:=fun x z ups h=>by
 have:=List.all_eq_true.mp q (x,.cls z ups) (mem_of_lookup h)
 simp only at this
 refine e1_2 (List.any_eq_true.mp this) fun e he h2=>?_
 simp only [Bool.and_eq_true,beq_iff_eq] at h2
 refine j4 h2 fun e_278 e_279=>?_
 obtain rfl:=e_278
 obtain rfl:=e_279
 exact he
theorem gok {D:Wd}{G:List (Str × V)}{mts:List Str}{p:Program}{loose:List Str}{mean:ExcName→Option Value}{c:ClsRec}{N:Addr}{K:Frag}{tab:List (Str × List Str × Addr)}(T:Top p loose mean D.mg D.mb D.hB)(g:bS7 D G)(P:PlainAt D.hB c D.bk N D.mt)(q:a23 c mts=true)
  (X:K.In D.hB) (he:D.ex=bw4 tab) (qe:bV2 K tab=true) (hc:bZ4 G (bw4 tab)=true):GOk D G mts :=
 ⟨T.g,T.b,fun x V h=>ah2 g x V h,T.nolimit,bh2 P q,by rw [he];exact by2 hc,bD7 X T.g he qe⟩
theorem W6 {D:Wd}{x:Str}{ups:List Str}{a:Addr}(h:D.mg x=some (.ref a)):aZ8 D x (.cls x ups):=⟨_,.inl h,fun _=>Exists.intro a ⟨rfl,h⟩⟩
theorem b36 {D:Wd}{x:Str}(h:D.mg x=some (.ref D.bk)):aZ8 D x .bk:=⟨_,.inl h,fun _=>rfl⟩
theorem l7 {D:Wd}{x:Str}{a:Addr}(hs:aB1 x=none)(h:D.mg x=some (.ref a)):aZ8 D x (.fn x) :=
 ⟨_,.inl h,fun _=>Exists.intro a ⟨rfl,bj0 hs h⟩⟩
theorem U5 {D:Wd}{x:Str}{i:Int}{t:Tok}(h:D.mg x=some (.int i t)):aZ8 D x (.int i):=⟨_,.inl h,fun _=>I7⟩
theorem bQ7 {D:Wd}{x s:Str}{t:Tok}(h:D.mg x=some (.str s t))(f:N1 s):aZ8 D x (.str s):=⟨_,.inl h,fun _=>av6 f⟩
theorem aU6 {D:Wd}{x:Str}{a:Addr}{vs:List Value}{n:Nat}{l:List V}(h:D.mg x=some (.ref a))(e:D.hB.get? a=some { cls:=.type "tuple",data:=.seq vs.toArray n })(hz:vs.length≤2000000)(r:∀ γ,Reps D γ D.hB vs l):aZ8 D x (.tup l) :=
 ⟨_,.inl h,fun γ=>Exists.intro a ⟨vs,rfl,⟨n,e,hz⟩,r γ⟩⟩
theorem az9 {D:Wd}{b:Bi}{x:Str}(h:D.mg x=none)(e:D.mb x=some (.builtin b.name)):aZ8 D x (.bi b):=⟨_,.inr ⟨h,e⟩,fun _=>rfl⟩
theorem aA1 {D:Wd}{b:Ty}{x:Str}(h:D.mg x=none)(e:D.mb x=some (.type b.name)):aZ8 D x (.ty b):=⟨_,.inr ⟨h,e⟩,fun _=>rfl⟩
theorem p9 {D:Wd}{γ:List Addr}{h:Heap}{i:Int}{t:Tok}{vs:List Value}{l:List V}(r:Reps D γ h vs l):Reps D γ h (.int i t::vs) (.int i::l):=Exists.intro _ ⟨_,rfl,I7,r⟩
theorem ac0 {D:Wd}{γ:List Addr}{h:Heap}{x:Str}{t:Tok}{vs:List Value}{l:List V}(f:N1 x)(r:Reps D γ h vs l):Reps D γ h (.str x t::vs) (.str x::l):=Exists.intro _ ⟨_,rfl,av6 f,r⟩
theorem aq2 {D:Wd}{γ:List Addr}{h:Heap}:Reps D γ h [] []:=rfl
theorem bj5 {prog:Program}{w:World}{s₁:Shared}{mg mb mN:Str→Option Value}{C:Addr}{k:Nat}{Φ:Orc}{c:ClaimW}{cl:Str→Option Addr}{mean:ExcName→Option Value}{fa a:Addr}{vs:List Value}{ns:List Int}{args:List WData}{x:Str}{exs:List (Str × List Str)}
  (hO:g7 ⟨prog,w,s₁.heap,mg,mb,C,mN,exs,[]⟩ k Φ) (hA:AOkC ⟨prog,w,s₁.heap,mg,mb,C,mN,exs,[]⟩ k callerA) (hs:aB1 x=none) (hx:mg x=some (.ref fa)) (hL:s₁.heap.IsList a vs.toArray) (hI:IntsAre vs ns) (hΦ:Φ x [.scr ns] [] (fun V _=>V=.bool true) (fun _ _=>False)) (hlen:ns.length≤2000000)
  (hg:s₁.gens = #[]) (hr:∀ cls,c.raises args cls=false) (hp:c.post args (.bool true) args=true) :
  wpAny (model prog w) callerA (call (.ref fa) [.ref a]) (fun v s'=>GoodWG c cl mean args s₁ (.ok (.ret v)) s') (fun e s'=>GoodWG c cl mean args s₁ (.error e) s') s₁:=by
 refine j4 (aF1 hI) fun h1 h2=>?_
 have R:HRel ⟨prog,w,s₁.heap,mg,mb,C,mN,exs,[]⟩ [] [] s₁.heap:=⟨rfl,List.nodup_nil,fun _ _ _ e=>b9 e,fun _ h=>(nomatch h),fun _ _ e=>e,fun _ h=>(nomatch h)⟩
 have rv:Reps ⟨prog,w,s₁.heap,mg,mb,C,mN,exs,[]⟩ [] s₁.heap [.ref a] [.scr ns]:=Reps.one (Exists.intro a ⟨vs,rfl,hL,by lia,h1,h2⟩)
 refine wpAny_mono (hO [] x [.scr ns] [] _ _ hΦ callerA [] s₁ [.ref a] fa hA R rv (bj0 hs hx)).2 ?_ (fun _ _ p=>p.no.elim)
 rintro v s' ⟨γ',V,H',st,R',r,rfl⟩
 obtain rfl:=r
 refine e2_1 (st.same) fun h' tk e_280=>?_
 obtain rfl:=e_280
 exact GoodW.toG ⟨.inl ⟨_,_,[],rfl,hr,ReadsW.bool true,hp,fun _=>⟨List.nodup_nil,fun _ hm=>(nomatch hm)⟩⟩,fun b o e=>R'.base b o e,rfl,hg⟩
theorem aU0 {D:Wd}{k:Nat}(h:k≤100)(hf:D.fr=[]):AOkC D k callerA:=⟨by rw [hf];rfl,rfl,by show 1+claimMargin+3*k<900;unfold claimMargin;lia,by show 4+16*k<9000;lia,rfl⟩
end Mine
namespace Mine
open PySem
noncomputable def N6:Fn:={ names:=4,params:=1,body:=[
 (.ret (.and (.call (.bi .isinstance) [(.loc 0),(.lit (.ty .int))]) (.not (.call (.bi .isinstance) [(.loc 0),(.lit (.ty .bool))]))))] }
noncomputable def A8:Fn:={ names:=5,params:=2,body:=[
 (.ite (.and (.cmp (.loc 1) .Eq (.lit (.int 2))) (.cmp (.bin .Mod (.loc 0) (.lit (.int 4))) .Eq (.lit (.int 0)))) [(.ret (.lit (.int 29)))] []),
 (.ret (.sub (.lit (.tup [(.int 31),(.int 28),(.int 31),(.int 30),(.int 31),(.int 30),(.int 31),(.int 31),(.int 30),(.int 31),(.int 30),(.int 31)])) (.bin .Sub (.loc 1) (.lit (.int 1)))))] }
noncomputable def W9:Fn:={ names:=8,params:=1,body:=[
 (.assign 1 (.bin .Mod (.loc 0) (.lit (.int 1461)))),
 (.assign 2 (.lit (.int 0))),
 (.while (.and (.cmp (.loc 2) .Lt (.lit (.int 3))) (.cmp (.loc 1) .GtE (.sub (.lit (.tup [(.int 0),(.int 366),(.int 731),(.int 1096)])) (.bin .Add (.loc 2) (.lit (.int 1)))))) [(.assign 2 (.bin .Add (.loc 2) (.lit (.int 1))))]),
 (.assign 3 (.bin .Add (.bin .Mult (.bin .FloorDiv (.loc 0) (.lit (.int 1461))) (.lit (.int 4))) (.loc 2))),
 (.assign 1 (.bin .Sub (.loc 1) (.sub (.lit (.tup [(.int 0),(.int 366),(.int 731),(.int 1096)])) (.loc 2)))),
 (.assign 4 (.lit (.int 1))),
 (.while (.cmp (.loc 1) .GtE (.call (.fn "month_length") [(.loc 3),(.loc 4)])) [(.assign 1 (.bin .Sub (.loc 1) (.call (.fn "month_length") [(.loc 3),(.loc 4)]))),(.assign 4 (.bin .Add (.loc 4) (.lit (.int 1))))]),
 (.ret (.tup [(.loc 3),(.loc 4),(.bin .Add (.loc 1) (.lit (.int 1)))]))] }
noncomputable def N8:Fn:={ names:=5,params:=1,body:=[
 (.assign 1 (.call (.fn "date_of") [(.loc 0)])),
 (.ret (.bin .Sub (.bin .Sub (.sub (.loc 1) (.lit (.int 2))) (.call (.fn "month_length") [(.sub (.loc 1) (.lit (.int 0))),(.sub (.loc 1) (.lit (.int 1)))])) (.lit (.int 1))))] }
noncomputable def F1:Fn:={ names:=6,params:=3,body:=[
 (.ret (.and (.call (.fn "is_whole") [(.loc 0)]) (.cmp2 (.loc 1) .LtE (.loc 0) .LtE (.loc 2))))] }
noncomputable def V8:Fn:={ names:=4,params:=1,body:=[
 (.ret (.call (.fn "is_between") [(.loc 0),(.lit (.int 0)),(.bin .Sub (.lit (.int 1000000000000)) (.lit (.int 1)))]))] }
noncomputable def f_are_rising:Fn:={ names:=8,params:=3,body:=[
 (.ite (.or (.not (.call (.bi .isinstance) [(.loc 0),(.lit (.ty .tuple))])) (.not (.cmp2 (.lit (.int 1)) .LtE (.call (.bi .len) [(.loc 0)]) .LtE (.loc 1)))) [(.ret (.lit (.bool false)))] []),
 (.assign 3 (.neg (.lit (.int 1)))),
 (.for 4 .val (.loc 0) [(.ite (.not (.call (.fn "is_between") [(.loc 4),(.bin .Add (.loc 3) (.lit (.int 1))),(.loc 2)])) [(.ret (.lit (.bool false)))] []),(.assign 3 (.loc 4))]),
 (.ret (.lit (.bool true)))] }
noncomputable def f_is_plain:Fn:={ names:=5,params:=1,body:=[
 (.assign 1 (.sub (.loc 0) (.lit (.int 0)))),
 (.ite (.cmp (.loc 1) .Eq (.lit (.str "once"))) [(.ret (.and (.cmp (.call (.bi .len) [(.loc 0)]) .Eq (.lit (.int 3))) (.and (.call (.fn "is_time") [(.sub (.loc 0) (.lit (.int 1)))]) (.call (.fn "is_between") [(.sub (.loc 0) (.lit (.int 2))),(.lit (.int 1)),(.lit (.int 48))]))))] []),
 (.ite (.cmp (.call (.bi .len) [(.loc 0)]) .NotEq (.lit (.int 4))) [(.ret (.lit (.bool false)))] []),
 (.ite (.cmp (.loc 1) .Eq (.lit (.str "every"))) [(.ret (.and (.call (.fn "is_time") [(.sub (.loc 0) (.lit (.int 1)))]) (.and (.call (.fn "is_between") [(.sub (.loc 0) (.lit (.int 2))),(.lit (.int 1)),(.lit (.int 48))]) (.call (.fn "is_between") [(.sub (.loc 0) (.lit (.int 3))),(.lit (.int 1)),(.lit (.int 1000000))]))))] []),
 (.ite (.or (.not (.call (.fn "is_between") [(.sub (.loc 0) (.lit (.int 2))),(.lit (.int 0)),(.lit (.int 23))])) (.not (.call (.fn "is_between") [(.sub (.loc 0) (.lit (.int 3))),(.lit (.int 1)),(.lit (.int 48))]))) [(.ret (.lit (.bool false)))] []),
 (.ite (.cmp (.loc 1) .Eq (.lit (.str "week"))) [(.ret (.call (.fn "are_rising") [(.sub (.loc 0) (.lit (.int 1))),(.lit (.int 7)),(.lit (.int 6))]))] []),
 (.ret (.and (.cmp (.loc 1) .Eq (.lit (.str "month"))) (.and (.call (.fn "is_between") [(.sub (.loc 0) (.lit (.int 1))),(.neg (.lit (.int 31))),(.lit (.int 31))]) (.cmp (.sub (.loc 0) (.lit (.int 1))) .NotEq (.lit (.int 0))))))] }
noncomputable def f_is_rule:Fn:={ names:=5,params:=1,body:=[
 (.for 1 .range (.lit (.int 8)) [(.ite (.or (.not (.call (.bi .isinstance) [(.loc 0),(.lit (.ty .tuple))])) (.or (.cmp (.call (.bi .len) [(.loc 0)]) .Eq (.lit (.int 0))) (.not (.call (.bi .isinstance) [(.sub (.loc 0) (.lit (.int 0))),(.lit (.ty .str))])))) [(.ret (.lit (.bool false)))] []),(.ite (.cmp (.sub (.loc 0) (.lit (.int 0))) .NotIn (.lit (.tup [(.str "from"),(.str "until"),(.str "also"),(.str "but")]))) [(.ret (.call (.fn "is_plain") [(.loc 0)]))] []),(.ite (.cmp (.call (.bi .len) [(.loc 0)]) .NotEq (.lit (.int 3))) [(.ret (.lit (.bool false)))] []),(.ite (.and (.cmp (.sub (.loc 0) (.lit (.int 0))) .Eq (.lit (.str "but"))) (.not (.call (.fn "are_rising") [(.sub (.loc 0) (.lit (.int 1))),(.lit (.int 20)),(.bin .Sub (.lit (.int 100000000000)) (.lit (.int 1)))]))) [(.ret (.lit (.bool false)))] []),(.ite (.and (.cmp (.sub (.loc 0) (.lit (.int 0))) .NotEq (.lit (.str "but"))) (.not (.call (.fn "is_time") [(.sub (.loc 0) (.lit (.int 1)))]))) [(.ret (.lit (.bool false)))] []),(.assign 0 (.sub (.loc 0) (.lit (.int 2))))]),
 (.ret (.lit (.bool false)))] }
noncomputable def f_innermost:Fn:={ names:=4,params:=1,body:=[
 (.while (.cmp (.sub (.loc 0) (.lit (.int 0))) .In (.lit (.tup [(.str "from"),(.str "until"),(.str "also"),(.str "but")]))) [(.assign 0 (.sub (.loc 0) (.lit (.int 2))))]),
 (.ret (.loc 0))] }
noncomputable def f_length_of:Fn:={ names:=5,params:=1,body:=[
 (.assign 1 (.call (.fn "innermost") [(.loc 0)])),
 (.ite (.or (.cmp (.sub (.loc 1) (.lit (.int 0))) .Eq (.lit (.str "once"))) (.cmp (.sub (.loc 1) (.lit (.int 0))) .Eq (.lit (.str "every")))) [(.ret (.sub (.loc 1) (.lit (.int 2))))] []),
 (.ret (.sub (.loc 1) (.lit (.int 3))))] }
noncomputable def f_begins_plain:Fn:={ names:=6,params:=2,body:=[
 (.ite (.cmp (.sub (.loc 0) (.lit (.int 0))) .Eq (.lit (.str "once"))) [(.ret (.cmp (.loc 1) .Eq (.sub (.loc 0) (.lit (.int 1)))))] []),
 (.ite (.cmp (.sub (.loc 0) (.lit (.int 0))) .Eq (.lit (.str "every"))) [(.ret (.and (.cmp (.loc 1) .GtE (.sub (.loc 0) (.lit (.int 1)))) (.cmp (.bin .Mod (.bin .Sub (.loc 1) (.sub (.loc 0) (.lit (.int 1)))) (.sub (.loc 0) (.lit (.int 3)))) .Eq (.lit (.int 0)))))] []),
 (.ite (.cmp (.bin .Mod (.loc 1) (.lit (.int 24))) .NotEq (.sub (.loc 0) (.lit (.int 2)))) [(.ret (.lit (.bool false)))] []),
 (.assign 2 (.bin .FloorDiv (.loc 1) (.lit (.int 24)))),
 (.ite (.cmp (.sub (.loc 0) (.lit (.int 0))) .Eq (.lit (.str "week"))) [(.ret (.cmp (.bin .Mod (.loc 2) (.lit (.int 7))) .In (.sub (.loc 0) (.lit (.int 1)))))] []),
 (.ite (.cmp (.sub (.loc 0) (.lit (.int 1))) .Lt (.lit (.int 0))) [(.ret (.cmp (.call (.fn "from_end") [(.loc 2)]) .Eq (.sub (.loc 0) (.lit (.int 1)))))] []),
 (.ret (.cmp (.sub (.call (.fn "date_of") [(.loc 2)]) (.lit (.int 2))) .Eq (.sub (.loc 0) (.lit (.int 1)))))] }
noncomputable def f_begins:Fn:={ names:=5,params:=2,body:=[
 (.ite (.cmp (.loc 1) .Lt (.lit (.int 0))) [(.ret (.lit (.bool false)))] []),
 (.while (.cmp (.sub (.loc 0) (.lit (.int 0))) .In (.lit (.tup [(.str "from"),(.str "until"),(.str "also"),(.str "but")]))) [(.ite (.and (.cmp (.sub (.loc 0) (.lit (.int 0))) .Eq (.lit (.str "from"))) (.cmp (.loc 1) .Lt (.sub (.loc 0) (.lit (.int 1))))) [(.ret (.lit (.bool false)))] []),(.ite (.and (.cmp (.sub (.loc 0) (.lit (.int 0))) .Eq (.lit (.str "until"))) (.cmp (.loc 1) .GtE (.sub (.loc 0) (.lit (.int 1))))) [(.ret (.lit (.bool false)))] []),(.ite (.and (.cmp (.sub (.loc 0) (.lit (.int 0))) .Eq (.lit (.str "also"))) (.cmp (.loc 1) .Eq (.sub (.loc 0) (.lit (.int 1))))) [(.ret (.lit (.bool true)))] []),(.ite (.and (.cmp (.sub (.loc 0) (.lit (.int 0))) .Eq (.lit (.str "but"))) (.cmp (.bin .FloorDiv (.loc 1) (.lit (.int 24))) .In (.sub (.loc 0) (.lit (.int 1))))) [(.ret (.lit (.bool false)))] []),(.assign 0 (.sub (.loc 0) (.lit (.int 2))))]),
 (.ret (.call (.fn "begins_plain") [(.loc 0),(.loc 1)]))] }
noncomputable def f_covers:Fn:={ names:=6,params:=2,body:=[
 (.ite (.cmp (.loc 1) .Lt (.lit (.int 0))) [(.ret (.lit (.bool false)))] []),
 (.for 2 .range (.call (.fn "length_of") [(.loc 0)]) [(.ite (.call (.fn "begins") [(.loc 0),(.bin .Sub (.loc 1) (.loc 2))]) [(.ret (.lit (.bool true)))] [])]),
 (.ret (.lit (.bool false)))] }
noncomputable def f_is_name:Fn:={ names:=5,params:=1,body:=[
 (.ite (.or (.not (.call (.bi .isinstance) [(.loc 0),(.lit (.ty .str))])) (.not (.cmp2 (.lit (.int 1)) .LtE (.call (.bi .len) [(.loc 0)]) .LtE (.lit (.int 12))))) [(.ret (.lit (.bool false)))] []),
 (.for 1 .val (.loc 0) [(.ite (.cmp (.loc 1) .NotIn (.lit (.str "abcdefghijklmnopqrstuvwxyz"))) [(.ret (.lit (.bool false)))] [])]),
 (.ret (.lit (.bool true)))] }
noncomputable def f_some_covers:Fn:={ names:=6,params:=2,body:=[
 (.for 2 .val (.loc 0) [(.ite (.call (.fn "covers") [(.loc 2),(.loc 1)]) [(.ret (.lit (.bool true)))] [])]),
 (.ret (.lit (.bool false)))] }
noncomputable def C0:Fn:={ names:=6,params:=3,body:=[
 (.ite (.or (.not (.call (.fn "is_between") [(.loc 0),(.lit (.int 1)),(.lit (.int 48))])) (.or (.not (.call (.fn "is_time") [(.loc 1)])) (.not (.call (.fn "is_time") [(.loc 2)])))) [(.raise "NoTime" ["NoTime","HourError","ValueError"])] []),
 (.ite (.not (.cmp2 (.loc 1) .LtE (.loc 2) .LtE (.bin .Add (.loc 1) (.lit (.int 10000))))) [(.raise "NoTime" ["NoTime","HourError","ValueError"])] [])] }
noncomputable def G3:Fn:={ names:=4,params:=1,body:=[
 (.setAttr (.loc 0) "names" (.lst [])),
 (.setAttr (.loc 0) "free_rules" .dct),
 (.setAttr (.loc 0) "busy_rules" .dct),
 (.setAttr (.loc 0) "held" (.lst [])),
 (.setAttr (.loc 0) "given" (.lit (.int 0)))] }
noncomputable def f_B_come:Fn:={ names:=7,params:=3,body:=[
 (.ite (.not (.call (.fn "is_name") [(.loc 1)])) [(.raise "NoName" ["NoName","HourError","ValueError"])] []),
 (.ite (.cmp (.loc 1) .In (.attr (.loc 0) "names")) [(.raise "Taken" ["Taken","HourError","ValueError"])] []),
 (.ite (.cmp (.call (.bi .len) [(.loc 2)]) .Gt (.lit (.int 20))) [(.raise "NoRule" ["NoRule","HourError","ValueError"])] []),
 (.for 3 .val (.loc 2) [(.ite (.not (.call (.fn "is_rule") [(.loc 3)])) [(.raise "NoRule" ["NoRule","HourError","ValueError"])] [])]),
 (.expr (.meth (.attr (.loc 0) "names") .append [(.loc 1)])),
 (.setItem (.attr (.loc 0) "free_rules") (.loc 1) (.call (.ty .list) [(.loc 2)])),
 (.setItem (.attr (.loc 0) "busy_rules") (.loc 1) (.lst []))] }
noncomputable def w5:Fn:={ names:=5,params:=2,body:=[
 (.ite (.cmp (.loc 1) .NotIn (.attr (.loc 0) "names")) [(.raise "Stranger" ["Stranger","HourError","ValueError"])] [])] }
noncomputable def f_B_busy:Fn:={ names:=8,params:=3,body:=[
 (.expr (.mcall (.loc 0) "need_somebody" [(.loc 1)])),
 (.ite (.or (.not (.call (.fn "is_rule") [(.loc 2)])) (.cmp (.call (.bi .len) [(.sub (.attr (.loc 0) "busy_rules") (.loc 1))]) .GtE (.lit (.int 20)))) [(.raise "NoRule" ["NoRule","HourError","ValueError"])] []),
 (.for 3 .val (.attr (.loc 0) "held") [(.ite (.cmp (.loc 1) .In (.sub (.loc 3) (.lit (.int 3)))) [(.for 4 .range (.sub (.loc 3) (.lit (.int 2))) [(.ite (.call (.fn "covers") [(.loc 2),(.bin .Add (.sub (.loc 3) (.lit (.int 1))) (.loc 4))]) [(.raise "Clash" ["Clash","HourError","ValueError"])] [])])] [])]),
 (.expr (.meth (.sub (.attr (.loc 0) "busy_rules") (.loc 1)) .append [(.loc 2)]))] }
noncomputable def f_B_meets_at:Fn:={ names:=8,params:=4,body:=[
 (.for 4 .val (.attr (.loc 0) "held") [(.ite (.and (.cmp (.sub (.loc 4) (.lit (.int 0))) .NotEq (.loc 3)) (.and (.cmp (.loc 1) .In (.sub (.loc 4) (.lit (.int 3)))) (.cmp2 (.sub (.loc 4) (.lit (.int 1))) .LtE (.loc 2) .Lt (.bin .Add (.sub (.loc 4) (.lit (.int 1))) (.sub (.loc 4) (.lit (.int 2))))))) [(.ret (.lit (.bool true)))] [])]),
 (.ret (.lit (.bool false)))] }
noncomputable def f_B_free_at:Fn:={ names:=7,params:=4,body:=[
 (.ite (.or (.cmp (.loc 2) .Lt (.lit (.int 0))) (.mcall (.loc 0) "meets_at" [(.loc 1),(.loc 2),(.loc 3)])) [(.ret (.lit (.bool false)))] []),
 (.ret (.and (.call (.fn "some_covers") [(.sub (.attr (.loc 0) "free_rules") (.loc 1)),(.loc 2)]) (.not (.call (.fn "some_covers") [(.sub (.attr (.loc 0) "busy_rules") (.loc 1)),(.loc 2)]))))] }
noncomputable def f_B_is_free:Fn:={ names:=6,params:=3,body:=[
 (.expr (.mcall (.loc 0) "need_somebody" [(.loc 1)])),
 (.ret (.mcall (.loc 0) "free_at" [(.loc 1),(.loc 2),(.lit (.int 0))]))] }
noncomputable def f_B_need_all:Fn:={ names:=6,params:=2,body:=[
 (.ite (.cmp (.call (.bi .len) [(.loc 1)]) .Eq (.lit (.int 0))) [(.raise "Stranger" ["Stranger","HourError","ValueError"])] []),
 (.for 2 .val (.loc 1) [(.expr (.mcall (.loc 0) "need_somebody" [(.loc 2)]))]),
 (.for 2 .val (.loc 1) [(.ite (.cmp (.meth (.loc 1) .count [(.loc 2)]) .Gt (.lit (.int 1))) [(.raise "Twice" ["Twice","HourError","ValueError"])] [])])] }
noncomputable def f_B_bar:Fn:={ names:=11,params:=5,body:=[
 (.for 5 .range2 (.tup [(.lit (.int 1)),(.bin .Add (.loc 2) (.lit (.int 1)))]) [(.assign 6 (.bin .Sub (.bin .Add (.loc 3) (.loc 2)) (.loc 5))),(.for 7 .val (.loc 1) [(.ite (.not (.mcall (.loc 0) "free_at" [(.loc 7),(.loc 6),(.loc 4)])) [(.ret (.tup [(.loc 7),(.loc 6)]))] [])])]),
 (.ret (.lit .none))] }
noncomputable def f_B_look:Fn:={ names:=11,params:=6,body:=[
 (.assign 6 (.lst [])),
 (.while (.cmp (.loc 3) .LtE (.loc 4)) [(.assign 7 (.mcall (.loc 0) "bar" [(.loc 1),(.loc 2),(.loc 3),(.loc 5)])),(.ite (.cmp (.loc 7) .Is (.lit .none)) [(.ret (.tup [(.loc 3),(.loc 6)]))] []),(.expr (.meth (.loc 6) .append [(.tup [(.loc 3),(.call (.bi .min) [(.loc 4),(.sub (.loc 7) (.lit (.int 1)))]),(.sub (.loc 7) (.lit (.int 0))),(.sub (.loc 7) (.lit (.int 1)))])])),(.assign 3 (.bin .Add (.sub (.loc 7) (.lit (.int 1))) (.lit (.int 1))))]),
 (.ret (.tup [(.lit .none),(.loc 6)]))] }
noncomputable def W0:Fn:={ names:=8,params:=5,body:=[
 (.expr (.mcall (.loc 0) "need_all" [(.loc 1)])),
 (.expr (.call (.fn "need_stretch") [(.loc 2),(.loc 3),(.loc 4)])),
 (.ret (.mcall (.loc 0) "look" [(.loc 1),(.loc 2),(.loc 3),(.bin .Sub (.loc 4) (.loc 2)),(.lit (.int 0))]))] }
noncomputable def f_B_meet:Fn:={ names:=9,params:=5,body:=[
 (.assign 5 (.sub (.mcall (.loc 0) "first" [(.loc 1),(.loc 2),(.loc 3),(.loc 4)]) (.lit (.int 0)))),
 (.ite (.cmp (.loc 5) .Is (.lit .none)) [(.ret (.lit .none))] []),
 (.setAttr (.loc 0) "given" (.bin .Add (.attr (.loc 0) "given") (.lit (.int 1)))),
 (.expr (.meth (.attr (.loc 0) "held") .append [(.tup [(.attr (.loc 0) "given"),(.loc 5),(.loc 2),(.call (.ty .tuple) [(.loc 1)])])])),
 (.ret (.tup [(.attr (.loc 0) "given"),(.loc 5)]))] }
noncomputable def F5:Fn:={ names:=4,params:=1,body:=[
 (.ret (.call (.ty .list) [(.attr (.loc 0) "held")]))] }
noncomputable def f_B_place_of:Fn:={ names:=6,params:=2,body:=[
 (.ite (.call (.fn "is_whole") [(.loc 1)]) [(.for 2 .range (.call (.bi .len) [(.attr (.loc 0) "held")]) [(.ite (.cmp (.sub (.sub (.attr (.loc 0) "held") (.loc 2)) (.lit (.int 0))) .Eq (.loc 1)) [(.ret (.loc 2))] [])])] []),
 (.raise "NoMeeting" ["NoMeeting","HourError","ValueError"])] }
noncomputable def f_B_drop:Fn:={ names:=6,params:=2,body:=[
 (.assign 2 (.mcall (.loc 0) "place_of" [(.loc 1)])),
 (.setAttr (.loc 0) "held" (.bin .Add (.slice (.attr (.loc 0) "held") none (some (.loc 2))) (.slice (.attr (.loc 0) "held") (some (.bin .Add (.loc 2) (.lit (.int 1)))) none)))] }
noncomputable def f_B_move:Fn:={ names:=10,params:=4,body:=[
 (.assign 4 (.mcall (.loc 0) "place_of" [(.loc 1)])),
 (.assign 5 (.sub (.attr (.loc 0) "held") (.loc 4))),
 (.expr (.call (.fn "need_stretch") [(.sub (.loc 5) (.lit (.int 2))),(.loc 2),(.loc 3)])),
 (.assign 6 (.sub (.mcall (.loc 0) "look" [(.sub (.loc 5) (.lit (.int 3))),(.sub (.loc 5) (.lit (.int 2))),(.loc 2),(.bin .Sub (.loc 3) (.sub (.loc 5) (.lit (.int 2)))),(.loc 1)]) (.lit (.int 0)))),
 (.ite (.cmp (.loc 6) .IsNot (.lit .none)) [(.setItem (.attr (.loc 0) "held") (.loc 4) (.tup [(.loc 1),(.loc 6),(.sub (.loc 5) (.lit (.int 2))),(.sub (.loc 5) (.lit (.int 3)))]))] []),
 (.ret (.loc 6))] }
noncomputable def J7:Fn:={ names:=5,params:=2,body:=[
 (.ite (.cmp (.call (.bi .len) [(.loc 0)]) .Eq (.lit (.int 0))) [(.ret (.lit (.int 0)))] []),
 (.ret (.bin .Add (.sub (.loc 0) (.bin .Mod (.loc 1) (.call (.bi .len) [(.loc 0)]))) (.bin .Mult (.bin .FloorDiv (.loc 1) (.call (.bi .len) [(.loc 0)])) (.lit (.int 31)))))] }
noncomputable def U9:Fn:={ names:=4,params:=1,body:=[
 (.ret (.and (.call (.bi .isinstance) [(.loc 0),(.lit (.ty .int))]) (.not (.call (.bi .isinstance) [(.loc 0),(.lit (.ty .bool))]))))] }
noncomputable def ab8:Fn:={ names:=6,params:=2,body:=[
 (.assign 2 (.lst [(.lit (.int 31)),(.lit (.int 28)),(.lit (.int 31)),(.lit (.int 30)),(.lit (.int 31)),(.lit (.int 30)),(.lit (.int 31)),(.lit (.int 31)),(.lit (.int 30)),(.lit (.int 31)),(.lit (.int 30)),(.lit (.int 31))])),
 (.ret (.bin .Add (.sub (.loc 2) (.bin .Sub (.loc 1) (.lit (.int 1)))) (.call (.ty .int) [(.and (.cmp (.loc 1) .Eq (.lit (.int 2))) (.cmp (.bin .Mod (.loc 0) (.lit (.int 4))) .Eq (.lit (.int 0))))])))] }
noncomputable def F7:Fn:={ names:=7,params:=1,body:=[
 (.assign 1 (.bin .Mod (.loc 0) (.lit (.int 1461)))),
 (.assign 2 (.lit (.int 0))),
 (.assign 3 (.lit (.int 1))),
 (.while (.cmp (.loc 1) .GtE (.call (.fn "_law_days") [(.loc 2),(.loc 3)])) [(.assign 1 (.bin .Sub (.loc 1) (.call (.fn "_law_days") [(.loc 2),(.loc 3)]))),(.assign 2 (.bin .Add (.loc 2) (.bin .FloorDiv (.loc 3) (.lit (.int 12))))),(.assign 3 (.bin .Add (.bin .Mod (.loc 3) (.lit (.int 12))) (.lit (.int 1))))]),
 (.ret (.lst [(.bin .Add (.loc 1) (.lit (.int 1))),(.bin .Sub (.loc 1) (.call (.fn "_law_days") [(.loc 2),(.loc 3)]))]))] }
noncomputable def f_l_plain_begins:Fn:={ names:=5,params:=2,body:=[
 (.ite (.cmp (.sub (.loc 0) (.lit (.int 0))) .Eq (.lit (.str "once"))) [(.ret (.cmp (.loc 1) .Eq (.sub (.loc 0) (.lit (.int 1)))))] []),
 (.ite (.cmp (.sub (.loc 0) (.lit (.int 0))) .Eq (.lit (.str "every"))) [(.ret (.and (.cmp (.loc 1) .GtE (.sub (.loc 0) (.lit (.int 1)))) (.cmp (.bin .Mod (.bin .Sub (.loc 1) (.sub (.loc 0) (.lit (.int 1)))) (.sub (.loc 0) (.lit (.int 3)))) .Eq (.lit (.int 0)))))] []),
 (.ite (.or (.cmp (.loc 1) .Lt (.lit (.int 0))) (.cmp (.bin .Mod (.loc 1) (.lit (.int 24))) .NotEq (.sub (.loc 0) (.lit (.int 2))))) [(.ret (.lit (.bool false)))] []),
 (.ite (.cmp (.sub (.loc 0) (.lit (.int 0))) .Eq (.lit (.str "week"))) [(.ret (.cmp (.bin .Mod (.bin .FloorDiv (.loc 1) (.lit (.int 24))) (.lit (.int 7))) .In (.sub (.loc 0) (.lit (.int 1)))))] []),
 (.ret (.cmp (.sub (.loc 0) (.lit (.int 1))) .In (.call (.fn "_law_in_month") [(.bin .FloorDiv (.loc 1) (.lit (.int 24)))])))] }
noncomputable def I9:Fn:={ names:=3,params:=0,body:=[
 (.ret (.lst [(.lit (.str "from")),(.lit (.str "until")),(.lit (.str "also")),(.lit (.str "but"))]))] }
noncomputable def f_l_heads:Fn:={ names:=5,params:=1,body:=[
 (.assign 1 (.lst [])),
 (.while (.cmp (.sub (.loc 0) (.lit (.int 0))) .In (.call (.fn "_law_bearing") [])) [(.expr (.meth (.loc 1) .append [(.loc 0)])),(.assign 0 (.sub (.loc 0) (.lit (.int 2))))]),
 (.ret (.bin .Add (.loc 1) (.lst [(.loc 0)])))] }
noncomputable def f_l_begun:Fn:={ names:=8,params:=2,body:=[
 (.assign 2 (.call (.fn "_law_heads") [(.loc 0)])),
 (.assign 3 (.call (.fn "_law_plain_begins") [(.sub (.loc 2) (.neg (.lit (.int 1)))),(.loc 1)])),
 (.for 4 .rev (.slice (.loc 2) none (some (.neg (.lit (.int 1))))) [(.ite (.cmp (.sub (.loc 4) (.lit (.int 0))) .Eq (.lit (.str "from"))) [(.assign 3 (.and (.loc 3) (.cmp (.loc 1) .GtE (.sub (.loc 4) (.lit (.int 1))))))] [(.ite (.cmp (.sub (.loc 4) (.lit (.int 0))) .Eq (.lit (.str "until"))) [(.assign 3 (.and (.loc 3) (.cmp (.loc 1) .Lt (.sub (.loc 4) (.lit (.int 1))))))] [(.ite (.cmp (.sub (.loc 4) (.lit (.int 0))) .Eq (.lit (.str "also"))) [(.assign 3 (.or (.loc 3) (.cmp (.loc 1) .Eq (.sub (.loc 4) (.lit (.int 1))))))] [(.assign 3 (.and (.loc 3) (.cmp (.bin .FloorDiv (.loc 1) (.lit (.int 24))) .NotIn (.sub (.loc 4) (.lit (.int 1))))))])])])]),
 (.ret (.loc 3))] }
noncomputable def f_l_size:Fn:={ names:=5,params:=1,body:=[
 (.assign 1 (.sub (.call (.fn "_law_heads") [(.loc 0)]) (.neg (.lit (.int 1))))),
 (.ite (.cmp (.sub (.loc 1) (.lit (.int 0))) .In (.lst [(.lit (.str "once")),(.lit (.str "every"))])) [(.ret (.sub (.loc 1) (.lit (.int 2))))] []),
 (.ret (.sub (.loc 1) (.lit (.int 3))))] }
noncomputable def G6:Fn:={ names:=6,params:=1,body:=[
 (.assign 1 (.lst [])),
 (.for 2 .range (.lit (.int 7)) [(.ite (.cmp (.bin .Mod (.loc 0) (.lit (.int 2))) .Eq (.lit (.int 1))) [(.expr (.meth (.loc 1) .append [(.loc 2)]))] []),(.assign 0 (.bin .FloorDiv (.loc 0) (.lit (.int 2))))]),
 (.ret (.call (.ty .tuple) [(.loc 1)]))] }
noncomputable def f_l_plain_by:Fn:={ names:=10,params:=3,body:=[
 (.assign 3 (.bin .Mod (.sub (.loc 0) (.lit (.int 0))) (.lit (.int 4)))),
 (.assign 4 (.bin .Add (.lit (.int 1)) (.bin .Mod (.bin .FloorDiv (.sub (.loc 0) (.lit (.int 0))) (.lit (.int 4))) (.loc 2)))),
 (.assign 5 (.bin .Add (.loc 1) (.bin .Mod (.sub (.loc 0) (.lit (.int 1))) (.lit (.int 60))))),
 (.ite (.cmp (.loc 3) .Eq (.lit (.int 0))) [(.ret (.tup [(.lit (.str "once")),(.loc 5),(.loc 4)]))] []),
 (.ite (.cmp (.loc 3) .Eq (.lit (.int 1))) [(.ret (.tup [(.lit (.str "every")),(.loc 5),(.loc 4),(.bin .Add (.lit (.int 1)) (.bin .Mod (.sub (.loc 0) (.lit (.int 2))) (.lit (.int 30))))]))] []),
 (.ite (.cmp (.loc 3) .Eq (.lit (.int 2))) [(.ret (.tup [(.lit (.str "week")),(.call (.fn "_law_weekdays") [(.bin .Add (.lit (.int 1)) (.bin .Mod (.sub (.loc 0) (.lit (.int 2))) (.lit (.int 127))))]),(.bin .Mod (.sub (.loc 0) (.lit (.int 1))) (.lit (.int 24))),(.loc 4)]))] []),
 (.assign 6 (.bin .Sub (.bin .Mod (.sub (.loc 0) (.lit (.int 2))) (.lit (.int 62))) (.lit (.int 31)))),
 (.ite (.cmp (.bin .Mod (.bin .FloorDiv (.sub (.loc 0) (.lit (.int 2))) (.lit (.int 62))) (.lit (.int 2))) .Eq (.lit (.int 1))) [(.assign 6 (.sub (.lst [(.neg (.lit (.int 1))),(.lit (.int 0)),(.lit (.int 30)),(.lit (.int 29)),(.lit (.int 28)),(.neg (.lit (.int 31))),(.neg (.lit (.int 30))),(.neg (.lit (.int 29))),(.neg (.lit (.int 28))),(.lit (.int 27))]) (.bin .Mod (.bin .FloorDiv (.sub (.loc 0) (.lit (.int 2))) (.lit (.int 124))) (.lit (.int 10)))))] []),
 (.ret (.tup [(.lit (.str "month")),(.bin .Add (.loc 6) (.call (.ty .int) [(.cmp (.loc 6) .GtE (.lit (.int 0)))])),(.bin .Mod (.sub (.loc 0) (.lit (.int 1))) (.lit (.int 24))),(.loc 4)]))] }
noncomputable def f_l_head_by:Fn:={ names:=9,params:=3,body:=[
 (.assign 3 (.sub (.lst [(.lit (.str "from")),(.lit (.str "until")),(.lit (.str "also")),(.lit (.str "but"))]) (.bin .Mod (.loc 0) (.lit (.int 4))))),
 (.assign 4 (.bin .Add (.loc 1) (.bin .Mod (.bin .FloorDiv (.loc 0) (.lit (.int 4))) (.lit (.int 70))))),
 (.ite (.cmp (.loc 3) .NotEq (.lit (.str "but"))) [(.ret (.tup [(.loc 3),(.loc 4),(.loc 2)]))] []),
 (.assign 5 (.sub (.lst [(.lit (.int 1)),(.lit (.int 2)),(.lit (.int 5)),(.lit (.int 20))]) (.bin .Mod (.bin .FloorDiv (.loc 0) (.lit (.int 280))) (.lit (.int 4))))),
 (.ret (.tup [(.loc 3),(.call (.ty .tuple) [(.comp (.bin .Add (.bin .FloorDiv (.loc 4) (.lit (.int 24))) (.bin .Mult (.loc 6) (.bin .Add (.lit (.int 1)) (.bin .Mod (.bin .FloorDiv (.loc 0) (.lit (.int 1120))) (.lit (.int 3)))))) 6 .range (.loc 5))]),(.loc 2)]))] }
noncomputable def ar5:Fn:={ names:=4,params:=1,body:=[
 (.ret (.sub (.lst [(.lit (.int 0)),(.bin .Mod (.bin .FloorDiv (.loc 0) (.lit (.int 4))) (.bin .Pow (.lit (.int 10)) (.lit (.int 6)))),(.bin .Mod (.bin .FloorDiv (.loc 0) (.lit (.int 4))) (.bin .Sub (.bin .Pow (.lit (.int 10)) (.lit (.int 12))) (.lit (.int 20000)))),(.bin .Sub (.bin .Pow (.lit (.int 10)) (.lit (.int 12))) (.lit (.int 200)))]) (.bin .Mod (.loc 0) (.lit (.int 4)))))] }
noncomputable def f_l_name_by:Fn:={ names:=10,params:=3,body:=[
 (.assign 3 (.lit (.str "abcdefghijklmnopqrstuvwxyz"))),
 (.assign 4 (.bin .Mod (.bin .FloorDiv (.loc 0) (.lit (.int 2))) (.lit (.int 12)))),
 (.ite (.cmp (.bin .Mod (.loc 0) (.lit (.int 2))) .Eq (.lit (.int 1))) [(.assign 1 (.bin .FloorDiv (.loc 0) (.lit (.int 48))))] []),
 (.assign 5 (.lit (.str ""))),
 (.ite (.cmp (.bin .Mod (.loc 0) (.lit (.int 6))) .Eq (.lit (.int 4))) [(.for 6 .range (.bin .Add (.loc 2) (.lit (.int 1))) [(.assign 5 (.bin .Add (.loc 5) (.sub (.loc 3) (.bin .Mod (.bin .Add (.bin .FloorDiv (.loc 0) (.lit (.int 6))) (.bin .Mult (.loc 6) (.bin .Add (.lit (.int 1)) (.bin .Mod (.bin .FloorDiv (.loc 0) (.lit (.int 150))) (.lit (.int 5)))))) (.lit (.int 25))))))]),(.ret (.loc 5))] []),
 (.for 6 .range (.bin .Add (.bin .Add (.loc 4) (.lit (.int 1))) (.bin .Mod (.bin .FloorDiv (.loc 1) (.lit (.int 24))) (.bin .Sub (.lit (.int 12)) (.loc 4)))) [(.ite (.cmp (.loc 6) .Eq (.loc 4)) [(.assign 5 (.bin .Add (.loc 5) (.sub (.loc 3) (.bin .Add (.bin .Mult (.bin .Mod (.bin .FloorDiv (.loc 0) (.lit (.int 24))) (.lit (.int 2))) (.lit (.int 13))) (.loc 2)))))] [(.assign 5 (.bin .Add (.loc 5) (.sub (.loc 3) (.bin .Mod (.bin .Add (.bin .FloorDiv (.loc 1) (.lit (.int 288))) (.bin .Mult (.loc 6) (.bin .Add (.lit (.int 1)) (.bin .Mod (.loc 1) (.lit (.int 5)))))) (.lit (.int 26))))))])]),
 (.ret (.loc 5))] }
noncomputable def f_l_free_by:Fn:={ names:=7,params:=2,body:=[
 (.assign 2 (.bin .Mod (.sub (.loc 0) (.lit (.int 0))) (.lit (.int 4)))),
 (.assign 3 (.bin .Add (.lit (.int 1)) (.bin .Mod (.bin .FloorDiv (.sub (.loc 0) (.lit (.int 0))) (.lit (.int 4))) (.lit (.int 5))))),
 (.ite (.cmp (.bin .Mod (.bin .FloorDiv (.sub (.loc 0) (.lit (.int 0))) (.lit (.int 20))) (.lit (.int 8))) .Eq (.lit (.int 1))) [(.ret (.tup [(.lit (.str "every")),(.bin .Add (.loc 1) (.bin .Mod (.sub (.loc 0) (.lit (.int 1))) (.lit (.int 6)))),(.bin .Add (.lit (.int 24)) (.bin .Mod (.bin .FloorDiv (.sub (.loc 0) (.lit (.int 0))) (.lit (.int 160))) (.lit (.int 25)))),(.bin .Add (.lit (.int 1)) (.bin .Mod (.sub (.loc 0) (.lit (.int 2))) (.lit (.int 60))))]))] []),
 (.ite (.cmp (.loc 2) .Lt (.lit (.int 2))) [(.ret (.tup [(.lit (.str "every")),(.bin .Add (.loc 1) (.bin .Mod (.sub (.loc 0) (.lit (.int 1))) (.lit (.int 6)))),(.loc 3),(.bin .Add (.lit (.int 1)) (.bin .Mod (.sub (.loc 0) (.lit (.int 2))) (.lit (.int 9))))]))] []),
 (.ite (.cmp (.loc 2) .Eq (.lit (.int 2))) [(.ret (.tup [(.lit (.str "week")),(.call (.fn "_law_weekdays") [(.bin .Add (.lit (.int 1)) (.bin .Mod (.sub (.loc 0) (.lit (.int 2))) (.lit (.int 127))))]),(.bin .Mod (.sub (.loc 0) (.lit (.int 1))) (.lit (.int 24))),(.bin .Add (.loc 3) (.lit (.int 4)))]))] []),
 (.ret (.call (.fn "_law_plain_by") [(.loc 0),(.loc 1),(.lit (.int 5))]))] }
noncomputable def f_l_people_by:Fn:={ names:=13,params:=4,body:=[
 (.assign 4 (.lst [])),
 (.assign 5 (.bin .FloorDiv (.call (.fn "_law_cell_at") [(.loc 0),(.bin .Add (.loc 1) (.lit (.int 12)))]) (.lit (.int 7)))),
 (.for 6 .range (.loc 2) [(.assign 7 (.comp (.call (.fn "_law_cell_at") [(.loc 0),(.bin .Add (.bin .Add (.loc 1) (.bin .Mult (.lit (.int 13)) (.loc 6))) (.loc 10))]) 10 .range (.lit (.int 13)))),(.assign 8 (.lst [(.call (.fn "_law_free_by") [(.slice (.loc 7) (some (.lit (.int 1))) (some (.lit (.int 4)))),(.loc 3)])])),(.ite (.cmp (.bin .Mod (.sub (.loc 7) (.lit (.int 0))) (.lit (.int 3))) .Eq (.lit (.int 1))) [(.expr (.meth (.loc 8) .append [(.call (.fn "_law_plain_by") [(.slice (.loc 7) (some (.lit (.int 4))) (some (.lit (.int 7)))),(.loc 3),(.lit (.int 5))])]))] []),(.ite (.cmp (.bin .Mod (.bin .FloorDiv (.sub (.loc 7) (.lit (.int 0))) (.lit (.int 3))) (.lit (.int 4))) .Eq (.lit (.int 1))) [(.setItem (.loc 8) (.lit (.int 0)) (.call (.fn "_law_head_by") [(.sub (.loc 7) (.lit (.int 4))),(.loc 3),(.sub (.loc 8) (.lit (.int 0)))]))] []),(.assign 9 (.lst [])),(.ite (.cmp (.bin .Mod (.bin .FloorDiv (.sub (.loc 7) (.lit (.int 0))) (.lit (.int 12))) (.lit (.int 3))) .Gt (.lit (.int 0))) [(.expr (.meth (.loc 9) .append [(.call (.fn "_law_plain_by") [(.slice (.loc 7) (some (.lit (.int 7))) (some (.lit (.int 10)))),(.loc 3),(.sub (.lst [(.lit (.int 4)),(.lit (.int 48))]) (.call (.ty .int) [(.cmp (.bin .Mod (.bin .FloorDiv (.sub (.loc 7) (.lit (.int 0))) (.lit (.int 5))) (.lit (.int 8))) .Eq (.lit (.int 1)))]))])]))] []),(.ite (.cmp (.bin .Mod (.bin .FloorDiv (.sub (.loc 7) (.lit (.int 0))) (.lit (.int 12))) (.lit (.int 3))) .Eq (.lit (.int 2))) [(.expr (.meth (.loc 9) .append [(.call (.fn "_law_head_by") [(.sub (.loc 7) (.lit (.int 10))),(.loc 3),(.call (.fn "_law_plain_by") [(.slice (.loc 7) (some (.lit (.int 10))) (some (.lit (.int 13)))),(.loc 3),(.lit (.int 3))])])]))] []),(.ite (.cmp (.bin .Mod (.bin .FloorDiv (.sub (.loc 7) (.lit (.int 0))) (.lit (.int 7))) (.lit (.int 9))) .Eq (.lit (.int 4))) [(.assign 8 (.lst []))] []),(.expr (.meth (.loc 4) .append [(.lst [(.call (.fn "_law_name_by") [(.loc 5),(.bin .FloorDiv (.sub (.loc 7) (.lit (.int 0))) (.lit (.int 36))),(.loc 6)]),(.loc 8),(.loc 9),(.lst [])])]))]),
 (.ret (.loc 4))] }
noncomputable def f_l_book_of:Fn:={ names:=7,params:=1,body:=[
 (.assign 1 .new),
 (.for 2 .val (.loc 0) [(.expr (.mcall (.loc 1) "come" [(.sub (.loc 2) (.lit (.int 0))),(.call (.ty .list) [(.sub (.loc 2) (.lit (.int 1)))])])),(.for 3 .val (.sub (.loc 2) (.lit (.int 2))) [(.expr (.mcall (.loc 1) "busy" [(.sub (.loc 2) (.lit (.int 0))),(.loc 3)]))])]),
 (.ret (.loc 1))] }
noncomputable def f_l_flags:Fn:={ names:=10,params:=3,body:=[
 (.assign 3 (.call (.fn "_law_size") [(.loc 0)])),
 (.assign 4 (.bin .Mult (.lst [(.lit (.bool false))]) (.loc 2))),
 (.for 5 .range2 (.tup [(.bin .Sub (.lit (.int 1)) (.loc 3)),(.loc 2)]) [(.ite (.and (.cmp (.bin .Add (.loc 1) (.loc 5)) .GtE (.lit (.int 0))) (.call (.fn "_law_begun") [(.loc 0),(.bin .Add (.loc 1) (.loc 5))])) [(.for 6 .range2 (.tup [(.call (.bi .max) [(.lit (.int 0)),(.loc 5)]),(.call (.bi .min) [(.loc 2),(.bin .Add (.loc 5) (.loc 3))])]) [(.setItem (.loc 4) (.loc 6) (.lit (.bool true)))])] [])]),
 (.ret (.loc 4))] }
noncomputable def f_l_open_hours:Fn:={ names:=11,params:=3,body:=[
 (.assign 3 (.bin .Mult (.lst [(.lit (.bool false))]) (.loc 2))),
 (.for 4 .val (.sub (.loc 0) (.lit (.int 1))) [(.assign 5 (.call (.fn "_law_flags") [(.loc 4),(.loc 1),(.loc 2)])),(.assign 3 (.comp (.or (.sub (.loc 3) (.loc 8)) (.sub (.loc 5) (.loc 8))) 8 .range (.loc 2)))]),
 (.for 4 .val (.sub (.loc 0) (.lit (.int 2))) [(.assign 5 (.call (.fn "_law_flags") [(.loc 4),(.loc 1),(.loc 2)])),(.assign 3 (.comp (.and (.sub (.loc 3) (.loc 8)) (.not (.sub (.loc 5) (.loc 8)))) 8 .range (.loc 2)))]),
 (.for2 6 7 .val (.sub (.loc 0) (.lit (.int 3))) [(.assign 3 (.comp (.and (.sub (.loc 3) (.loc 8)) (.not (.cmp2 (.loc 6) .LtE (.bin .Add (.loc 1) (.loc 8)) .Lt (.bin .Add (.loc 6) (.loc 7))))) 8 .range (.loc 2)))]),
 (.ret (.loc 3))] }
noncomputable def f_l_first:Fn:={ names:=10,params:=4,body:=[
 (.assign 4 (.comp (.call (.fn "_law_open_hours") [(.loc 7),(.loc 2),(.bin .Sub (.loc 3) (.loc 2))]) 7 .val (.loc 0))),
 (.assign 5 (.comp (.call (.bi .all) [(.comp (.sub (.loc 8) (.loc 7)) 8 .val (.loc 4))]) 7 .range (.bin .Sub (.loc 3) (.loc 2)))),
 (.for 6 .range (.bin .Add (.bin .Sub (.bin .Sub (.loc 3) (.loc 2)) (.loc 1)) (.lit (.int 1))) [(.ite (.call (.bi .all) [(.slice (.loc 5) (some (.loc 6)) (some (.bin .Add (.loc 6) (.loc 1))))]) [(.ret (.bin .Add (.loc 2) (.loc 6)))] [])]),
 (.ret (.lit .none))] }
noncomputable def f_l_put:Fn:={ names:=6,params:=2,body:=[
 (.for 2 .val (.loc 0) [(.setItem (.loc 2) (.lit (.int 3)) (.compI (.tup [(.sub (.loc 3) (.lit (.int 1))),(.sub (.loc 3) (.lit (.int 2)))]) (.cmp (.sub (.loc 2) (.lit (.int 0))) .In (.sub (.loc 3) (.lit (.int 3)))) 3 .val (.loc 1)))])] }
noncomputable def f_l_meet:Fn:={ names:=17,params:=4,body:=[
 (.assign 4 (.sub (.loc 1) (.lit (.str "people")))),
 (.assign 5 (.sub (.lst [(.slice (.loc 4) none (some (.lit (.int 1)))),(.slice (.loc 4) (some (.lit (.int 1))) (some (.lit (.int 2)))),(.slice (.loc 4) (some (.lit (.int 2))) none),(.slice (.loc 4) none (some (.lit (.int 2)))),(.slice (.loc 4) (some (.lit (.int 1))) none),(.rev (.loc 4) true),(.loc 4),(.rev (.loc 4) false)]) (.bin .Mod (.bin .FloorDiv (.loc 2) (.lit (.int 6))) (.lit (.int 8))))),
 (.ite (.and (.cmp (.call (.bi .len) [(.loc 5)]) .Lt (.lit (.int 3))) (.cmp (.bin .Mod (.bin .FloorDiv (.loc 2) (.lit (.int 144))) (.lit (.int 2))) .Eq (.lit (.int 1)))) [(.assign 5 (.bin .Add (.loc 5) (.sub (.loc 1) (.lit (.str "more")))))] []),
 (.assign 6 (.call (.ty .int) [(.cmp (.bin .Mod (.bin .FloorDiv (.loc 2) (.lit (.int 288))) (.lit (.int 8))) .Eq (.lit (.int 1)))])),
 (.assign 7 (.sub (.lst [(.bin .Add (.lit (.int 1)) (.bin .Mod (.bin .FloorDiv (.loc 2) (.lit (.int 48))) (.lit (.int 3)))),(.bin .Add (.lit (.int 4)) (.bin .Mod (.bin .FloorDiv (.loc 2) (.lit (.int 2304))) (.lit (.int 45))))]) (.loc 6))),
 (.assign 8 (.bin .Add (.sub (.loc 1) (.lit (.str "far"))) (.bin .Mod (.loc 3) (.lit (.int 16))))),
 (.assign 9 (.call (.bi .min) [(.bin .Add (.bin .Add (.bin .Add (.loc 8) (.bin .Mult (.loc 7) (.loc 6))) (.bin .Mod (.bin .FloorDiv (.loc 3) (.lit (.int 16))) (.lit (.int 10)))) (.bin .Mult (.lit (.int 120)) (.call (.ty .int) [(.cmp (.bin .Mod (.bin .FloorDiv (.loc 3) (.lit (.int 160))) (.lit (.int 16))) .Eq (.lit (.int 1)))]))),(.bin .Sub (.bin .Pow (.lit (.int 10)) (.lit (.int 12))) (.lit (.int 1)))])),
 (.assign 10 (.call (.fn "_law_first") [(.loc 5),(.loc 7),(.loc 8),(.loc 9)])),
 (.assign 11 (.comp (.sub (.loc 14) (.lit (.int 0))) 14 .val (.loc 5))),
 (.assign 12 (.call (.ty .list) [(.loc 11)])),
 (.assign 13 (.mcall (.loc 0) "meet" [(.loc 12),(.loc 7),(.loc 8),(.loc 9)])),
 (.expr (.meth (.loc 12) .clear [])),
 (.ite (.cmp (.loc 10) .Is (.lit .none)) [(.ret (.cmp (.loc 13) .Is (.lit .none)))] []),
 (.setItem (.loc 1) (.lit (.str "last")) (.bin .Add (.sub (.loc 1) (.lit (.str "last"))) (.lit (.int 1)))),
 (.setItem (.loc 1) (.lit (.str "met")) (.bin .Add (.sub (.loc 1) (.lit (.str "met"))) (.lst [(.tup [(.sub (.loc 1) (.lit (.str "last"))),(.loc 10),(.loc 7),(.call (.ty .tuple) [(.loc 11)])])]))),
 (.ret (.and (.call (.bi .isinstance) [(.loc 13),(.lit (.ty .tuple))]) (.and (.cmp (.loc 13) .Eq (.tup [(.sub (.loc 1) (.lit (.str "last"))),(.loc 10)])) (.call (.bi .all) [(.comp (.call (.fn "_law_whole") [(.loc 14)]) 14 .val (.loc 13))]))))] }
noncomputable def f_l_refused:Fn:={ names:=6,params:=3,body:=[
 (.tryR [(.ite (.cmp (.loc 2) .Eq (.lst [])) [(.expr (.mcall (.loc 0) "drop" [(.loc 1)]))] [(.expr (.mcall (.loc 0) "move" [(.loc 1),(.sub (.loc 2) (.lit (.int 0))),(.sub (.loc 2) (.lit (.int 1)))]))])] [("NoMeeting",(.lit (.bool true)))]),
 (.ret (.lit (.bool false)))] }
noncomputable def f_l_at:Fn:={ names:=5,params:=2,body:=[
 (.ret (.meth (.bin .Add (.comp (.sub (.loc 2) (.lit (.int 0))) 2 .val (.sub (.loc 0) (.lit (.str "met")))) (.lst [(.loc 1)])) .index [(.loc 1)]))] }
noncomputable def f_l_dropped:Fn:={ names:=8,params:=3,body:=[
 (.assign 3 (.bin .Add (.lit (.int 1)) (.bin .Mod (.bin .FloorDiv (.loc 2) (.lit (.int 6))) (.bin .Add (.sub (.loc 1) (.lit (.str "last"))) (.lit (.int 1)))))),
 (.assign 4 (.call (.fn "_law_at") [(.loc 1),(.loc 3)])),
 (.ite (.cmp (.loc 4) .Eq (.call (.bi .len) [(.sub (.loc 1) (.lit (.str "met")))])) [(.ret (.call (.fn "_law_refused") [(.loc 0),(.loc 3),(.lst [])]))] []),
 (.setItem (.loc 1) (.lit (.str "met")) (.bin .Add (.slice (.sub (.loc 1) (.lit (.str "met"))) none (some (.loc 4))) (.slice (.sub (.loc 1) (.lit (.str "met"))) (some (.bin .Add (.loc 4) (.lit (.int 1)))) none))),
 (.ret (.cmp (.mcall (.loc 0) "drop" [(.loc 3)]) .Is (.lit .none)))] }
noncomputable def f_l_moved:Fn:={ names:=16,params:=4,body:=[
 (.assign 4 (.bin .Add (.lit (.int 1)) (.bin .Mod (.bin .FloorDiv (.loc 2) (.lit (.int 6))) (.bin .Add (.sub (.loc 1) (.lit (.str "last"))) (.lit (.int 1)))))),
 (.assign 5 (.bin .Add (.sub (.loc 1) (.lit (.str "far"))) (.bin .Mod (.loc 3) (.lit (.int 16))))),
 (.assign 6 (.call (.bi .min) [(.bin .Add (.bin .Add (.loc 5) (.bin .Mod (.bin .FloorDiv (.loc 3) (.lit (.int 16))) (.lit (.int 10)))) (.bin .Mult (.lit (.int 120)) (.call (.ty .int) [(.cmp (.bin .Mod (.bin .FloorDiv (.loc 3) (.lit (.int 160))) (.lit (.int 16))) .Eq (.lit (.int 1)))]))),(.bin .Sub (.bin .Pow (.lit (.int 10)) (.lit (.int 12))) (.lit (.int 1)))])),
 (.assign 7 (.call (.fn "_law_at") [(.loc 1),(.loc 4)])),
 (.ite (.cmp (.loc 7) .Eq (.call (.bi .len) [(.sub (.loc 1) (.lit (.str "met")))])) [(.ret (.call (.fn "_law_refused") [(.loc 0),(.loc 4),(.lst [(.loc 5),(.loc 6)])]))] []),
 (.assign 8 (.sub (.sub (.loc 1) (.lit (.str "met"))) (.loc 7))),
 (.assign 9 (.bin .Add (.slice (.sub (.loc 1) (.lit (.str "met"))) none (some (.loc 7))) (.slice (.sub (.loc 1) (.lit (.str "met"))) (some (.bin .Add (.loc 7) (.lit (.int 1)))) none))),
 (.expr (.call (.fn "_law_put") [(.bin .Add (.sub (.loc 1) (.lit (.str "people"))) (.sub (.loc 1) (.lit (.str "more")))),(.loc 9)])),
 (.assign 10 (.bin .Add (.sub (.loc 1) (.lit (.str "people"))) (.sub (.loc 1) (.lit (.str "more"))))),
 (.assign 11 (.call (.fn "_law_first") [(.compI (.loc 13) (.cmp (.sub (.loc 13) (.lit (.int 0))) .In (.sub (.loc 8) (.lit (.int 3)))) 13 .val (.loc 10)),(.sub (.loc 8) (.lit (.int 2))),(.loc 5),(.loc 6)])),
 (.assign 12 (.mcall (.loc 0) "move" [(.loc 4),(.loc 5),(.loc 6)])),
 (.ite (.cmp (.loc 11) .Is (.lit .none)) [(.ret (.cmp (.loc 12) .Is (.lit .none)))] []),
 (.setItem (.loc 1) (.lit (.str "met")) (.bin .Add (.bin .Add (.slice (.sub (.loc 1) (.lit (.str "met"))) none (some (.loc 7))) (.lst [(.tup [(.loc 4),(.loc 11),(.sub (.loc 8) (.lit (.int 2))),(.sub (.loc 8) (.lit (.int 3)))])])) (.slice (.sub (.loc 1) (.lit (.str "met"))) (some (.bin .Add (.loc 7) (.lit (.int 1)))) none))),
 (.ret (.and (.call (.fn "_law_whole") [(.loc 12)]) (.cmp (.loc 12) .Eq (.loc 11))))] }
noncomputable def f_l_busier:Fn:={ names:=13,params:=4,body:=[
 (.assign 4 (.sub (.sub (.loc 1) (.lit (.str "people"))) (.bin .Mod (.bin .FloorDiv (.loc 2) (.lit (.int 6))) (.lit (.int 3))))),
 (.assign 5 (.bin .Add (.sub (.loc 1) (.lit (.str "far"))) (.bin .Mod (.loc 3) (.lit (.int 30))))),
 (.ite (.and (.cmp (.sub (.loc 4) (.lit (.int 3))) .NotEq (.lst [])) (.cmp (.bin .Mod (.bin .FloorDiv (.loc 2) (.lit (.int 36))) (.lit (.int 3))) .Gt (.lit (.int 0)))) [(.assign 5 (.bin .Add (.sub (.sub (.sub (.loc 4) (.lit (.int 3))) (.bin .Mod (.loc 3) (.call (.bi .len) [(.sub (.loc 4) (.lit (.int 3)))]))) (.lit (.int 0))) (.bin .Mod (.bin .FloorDiv (.loc 3) (.lit (.int 5))) (.lit (.int 4)))))] []),
 (.assign 6 (.bin .Add (.lit (.int 1)) (.bin .Mod (.bin .FloorDiv (.loc 3) (.lit (.int 50))) (.lit (.int 3))))),
 (.assign 7 (.sub (.lst [(.tup [(.lit (.str "every")),(.loc 5),(.loc 6),(.bin .Add (.lit (.int 20)) (.bin .Mod (.bin .FloorDiv (.loc 3) (.lit (.int 150))) (.lit (.int 30))))]),(.tup [(.lit (.str "once")),(.loc 5),(.loc 6)])]) (.bin .Mod (.bin .FloorDiv (.loc 2) (.lit (.int 18))) (.lit (.int 2))))),
 (.ite (.cmp (.bin .Mod (.bin .FloorDiv (.loc 2) (.lit (.int 108))) (.lit (.int 3))) .Eq (.lit (.int 1))) [(.assign 7 (.call (.fn "_law_plain_by") [(.lst [(.bin .FloorDiv (.loc 3) (.lit (.int 50))),(.loc 3),(.bin .FloorDiv (.loc 3) (.lit (.int 7)))]),(.sub (.loc 1) (.lit (.str "far"))),(.lit (.int 48))]))] []),
 (.ite (.cmp (.bin .Mod (.bin .FloorDiv (.loc 2) (.lit (.int 108))) (.lit (.int 6))) .Gt (.lit (.int 3))) [(.assign 7 (.call (.fn "_law_head_by") [(.bin .FloorDiv (.loc 3) (.lit (.int 3))),(.sub (.loc 1) (.lit (.str "far"))),(.loc 7)]))] []),
 (.ite (.cmp (.call (.bi .len) [(.sub (.loc 4) (.lit (.int 2)))]) .Eq (.lit (.int 20))) [(.ret (.lit (.bool true)))] []),
 (.assign 8 (.call (.bi .any) [(.comp (.call (.bi .any) [(.call (.fn "_law_flags") [(.loc 7),(.sub (.loc 10) (.lit (.int 0))),(.sub (.loc 10) (.lit (.int 1)))])]) 10 .val (.sub (.loc 4) (.lit (.int 3))))])),
 (.tryR [(.assign 9 (.mcall (.loc 0) "busy" [(.sub (.loc 4) (.lit (.int 0))),(.loc 7)]))] [("Clash",(.loc 8))]),
 (.expr (.meth (.sub (.loc 4) (.lit (.int 2))) .append [(.loc 7)])),
 (.ret (.and (.cmp (.loc 9) .Is (.lit .none)) (.not (.loc 8))))] }
noncomputable def f_l_filled:Fn:={ names:=9,params:=3,body:=[
 (.for 3 .range (.loc 2) [(.assign 4 (.sub (.sub (.sub (.loc 1) (.lit (.str "people"))) (.bin .Mod (.bin .Mult (.loc 3) (.loc 3)) (.lit (.int 3)))) (.lit (.int 0)))),(.assign 5 (.bin .Add (.sub (.loc 1) (.lit (.str "far"))) (.bin .Mult (.lit (.int 2)) (.loc 3)))),(.ite (.cmp (.mcall (.loc 0) "meet" [(.lst [(.loc 4)]),(.lit (.int 1)),(.loc 5),(.bin .Add (.loc 5) (.lit (.int 1)))]) .NotEq (.tup [(.bin .Add (.loc 3) (.lit (.int 1))),(.loc 5)])) [(.ret (.lit (.bool false)))] []),(.expr (.meth (.sub (.loc 1) (.lit (.str "met"))) .append [(.tup [(.bin .Add (.loc 3) (.lit (.int 1))),(.loc 5),(.lit (.int 1)),(.tup [(.loc 4)])])]))]),
 (.setItem (.loc 1) (.lit (.str "last")) (.loc 2)),
 (.ret (.lit (.bool true)))] }
noncomputable def f_l_cast:Fn:={ names:=9,params:=3,body:=[
 (.assign 3 (.call (.fn "_law_people_by") [(.loc 0),(.lit (.int 1)),(.lit (.int 3)),(.loc 1)])),
 (.assign 4 (.bin .Mult (.bin .Mod (.bin .FloorDiv (.call (.fn "_law_cell_at") [(.loc 0),(.lit (.int 40))]) (.lit (.int 14))) (.lit (.int 2))) (.bin .Add (.bin .Add (.loc 1) (.lit (.int 60))) (.bin .Mod (.call (.fn "_law_cell_at") [(.loc 0),(.lit (.int 39))]) (.lit (.int 60)))))),
 (.for 5 .range (.lit (.int 3)) [(.ite (.cmp (.bin .Mod (.bin .FloorDiv (.call (.fn "_law_cell_at") [(.loc 0),(.lit (.int 40))]) (.lit (.int 7))) (.lit (.int 2))) .Eq (.lit (.int 1))) [(.setItem (.sub (.loc 3) (.loc 5)) (.lit (.int 1)) (.lst [(.tup [(.lit (.str "every")),(.sub (.lst [(.loc 4),(.lit (.int 0)),(.lit (.int 0))]) (.loc 5)),(.lit (.int 1)),(.lit (.int 1))])]))] []),(.ite (.loc 2) [(.setItem (.sub (.loc 3) (.loc 5)) (.lit (.int 2)) (.lst []))] [])]),
 (.ret (.loc 3))] }
noncomputable def f_l_deed:Fn:={ names:=7,params:=4,body:=[
 (.expr (.call (.fn "_law_put") [(.bin .Add (.sub (.loc 1) (.lit (.str "people"))) (.sub (.loc 1) (.lit (.str "more")))),(.sub (.loc 1) (.lit (.str "met")))])),
 (.ite (.cmp (.bin .Mod (.loc 2) (.lit (.int 6))) .Lt (.lit (.int 3))) [(.ret (.call (.fn "_law_meet") [(.loc 0),(.loc 1),(.loc 2),(.loc 3)]))] []),
 (.ite (.cmp (.bin .Mod (.loc 2) (.lit (.int 6))) .Eq (.lit (.int 3))) [(.ret (.call (.fn "_law_dropped") [(.loc 0),(.loc 1),(.loc 2)]))] []),
 (.ite (.cmp (.bin .Mod (.loc 2) (.lit (.int 6))) .Eq (.lit (.int 4))) [(.ret (.call (.fn "_law_moved") [(.loc 0),(.loc 1),(.loc 2),(.loc 3)]))] []),
 (.ret (.call (.fn "_law_busier") [(.loc 0),(.loc 1),(.loc 2),(.loc 3)]))] }
noncomputable def f_l_stands:Fn:={ names:=14,params:=4,body:=[
 (.assign 4 (.bin .Add (.sub (.loc 1) (.lit (.str "people"))) (.sub (.loc 1) (.lit (.str "more"))))),
 (.expr (.call (.fn "_law_put") [(.loc 4),(.sub (.loc 1) (.lit (.str "met")))])),
 (.assign 5 (.sub (.loc 1) (.lit (.str "far")))),
 (.assign 6 (.lst [(.tup [(.sub (.loc 4) (.bin .Mod (.loc 3) (.call (.bi .len) [(.loc 4)]))),(.bin .Add (.loc 5) (.bin .Mod (.loc 2) (.lit (.int 30))))]),(.tup [(.sub (.loc 4) (.lit (.int 0))),(.bin .Add (.loc 5) (.lit (.int 6)))]),(.tup [(.sub (.loc 4) (.lit (.int 1))),(.bin .Add (.loc 5) (.lit (.int 6)))])])),
 (.for 7 .range (.lit (.int 5)) [(.assign 8 (.bin .Mod (.bin .Add (.loc 7) (.bin .FloorDiv (.loc 2) (.lit (.int 5)))) (.lit (.int 5)))),(.ite (.cmp (.loc 8) .Eq (.lit (.int 3))) [(.assign 9 (.mcall (.loc 0) "meetings" [])),(.ite (.or (.not (.call (.bi .isinstance) [(.loc 9),(.lit (.ty .list))])) (.cmp (.call (.bi .repr) [(.loc 9)]) .NotEq (.call (.bi .repr) [(.sub (.loc 1) (.lit (.str "met")))]))) [(.ret (.lit (.bool false)))] []),(.expr (.meth (.sub (.loc 1) (.lit (.str "held"))) .append [(.tup [(.mcall (.loc 0) "meetings" []),(.call (.bi .repr) [(.loc 9)])])])),(.expr (.meth (.loc 9) .clear []))] [(.ite (.cmp (.loc 8) .Eq (.lit (.int 4))) [(.ite (.cmp (.sub (.mcall (.loc 0) "first" [(.lst [(.sub (.sub (.loc 4) (.lit (.int 0))) (.lit (.int 0)))]),(.lit (.int 1)),(.loc 5),(.bin .Add (.loc 5) (.lit (.int 9)))]) (.lit (.int 0))) .NotEq (.call (.fn "_law_first") [(.slice (.loc 4) none (some (.lit (.int 1)))),(.lit (.int 1)),(.loc 5),(.bin .Add (.loc 5) (.lit (.int 9)))])) [(.ret (.lit (.bool false)))] [])] [(.assign 10 (.mcall (.loc 0) "is_free" [(.sub (.sub (.sub (.loc 6) (.loc 8)) (.lit (.int 0))) (.lit (.int 0))),(.sub (.sub (.loc 6) (.loc 8)) (.lit (.int 1)))])),(.ite (.or (.not (.call (.bi .isinstance) [(.loc 10),(.lit (.ty .bool))])) (.cmp (.loc 10) .NotEq (.sub (.call (.fn "_law_open_hours") [(.sub (.sub (.loc 6) (.loc 8)) (.lit (.int 0))),(.sub (.sub (.loc 6) (.loc 8)) (.lit (.int 1))),(.lit (.int 1))]) (.lit (.int 0))))) [(.ret (.lit (.bool false)))] [])])])]),
 (.ret (.lit (.bool true)))] }
noncomputable def f_law:Fn:={ names:=14,params:=1,body:=[
 (.assign 1 (.call (.fn "_law_far") [(.call (.fn "_law_cell_at") [(.loc 0),(.lit (.int 0))])])),
 (.assign 2 (.and (.cmp (.bin .Mod (.bin .FloorDiv (.call (.fn "_law_cell_at") [(.loc 0),(.lit (.int 40))]) (.lit (.int 7))) (.lit (.int 4))) .Eq (.lit (.int 1))) (.cmp (.bin .Mod (.call (.fn "_law_cell_at") [(.loc 0),(.lit (.int 38))]) (.lit (.int 4))) .Eq (.lit (.int 1))))),
 (.assign 3 (.call (.fn "_law_cast") [(.loc 0),(.loc 1),(.loc 2)])),
 (.assign 4 (.bin .Mod (.bin .FloorDiv (.call (.fn "_law_cell_at") [(.loc 0),(.lit (.int 40))]) (.lit (.int 28))) (.lit (.int 4)))),
 (.assign 6 (.comp (.lst [(.bin .Mult (.lit (.str "z")) (.bin .Add (.lit (.int 1)) (.loc 11))),(.lst [(.tup [(.lit (.str "every")),(.lit (.int 0)),(.lit (.int 1)),(.lit (.int 1))])]),(.lst []),(.lst [])]) 11 .range (.loc 4))),
 (.assign 7 (.call (.fn "_law_book_of") [(.bin .Add (.loc 3) (.loc 6))])),
 (.assign 8 (.dctL ["people","far","met","last","more","held"] [(.loc 3),(.loc 1),(.lst []),(.lit (.int 0)),(.loc 6),(.lst [])])),
 (.ite (.and (.loc 2) (.not (.call (.fn "_law_filled") [(.loc 7),(.loc 8),(.bin .Add (.bin .Mod (.bin .FloorDiv (.call (.fn "_law_cell_at") [(.loc 0),(.lit (.int 38))]) (.lit (.int 4))) (.lit (.int 33))) (.lit (.int 8)))]))) [(.ret (.lit (.bool false)))] []),
 (.for 5 .range (.sub (.lst [(.bin .Add (.lit (.int 1)) (.bin .Mod (.call (.fn "_law_cell_at") [(.loc 0),(.lit (.int 40))]) (.lit (.int 7)))),(.lit (.int 15))]) (.call (.ty .int) [(.cmp (.call (.bi .len) [(.loc 0)]) .Gt (.lit (.int 63)))])) [(.assign 9 (.call (.fn "_law_cell_at") [(.loc 0),(.bin .Add (.lit (.int 41)) (.bin .Mult (.lit (.int 2)) (.loc 5)))])),(.assign 10 (.call (.fn "_law_cell_at") [(.loc 0),(.bin .Add (.lit (.int 42)) (.bin .Mult (.lit (.int 2)) (.loc 5)))])),(.ite (.or (.not (.call (.fn "_law_deed") [(.loc 7),(.loc 8),(.loc 9),(.loc 10)])) (.not (.call (.fn "_law_stands") [(.loc 7),(.loc 8),(.loc 9),(.loc 10)]))) [(.ret (.lit (.bool false)))] [])]),
 (.ret (.call (.bi .all) [(.comp2 (.cmp (.call (.bi .repr) [(.loc 11)]) .Eq (.loc 12)) 11 .val (.sub (.loc 8) (.lit (.str "held"))))]))] }
end Mine
namespace Mine
open PySem
noncomputable abbrev Ctr:=List V→Hp→(V→Hp→Prop)→XL→Prop
noncomputable def ai4 (leap:Bool)(m:Int):Int:=if m=2 then (if leap then 29 else 28) else if m=4∨m=6∨m=9∨m=11 then 30 else 31
theorem aq4 {l:List Int}{k:Int}(h1:0≤k)(h2:k<(l.length:Int))(d:Int):idx (l.map V.int) k=some (.int (l.getD k.toNat d)):=by
 have h3:k.toNat<l.length:=by lia
 unfold idx
 rw [if_pos h1,List.getElem?_map,List.getElem?_eq_getElem h3]
 simp [h3]
theorem bh4:∀ k:Fin 12,[31,28,31,30,31,30,31,31,30,31,30,31].getD k.val 0=ai4 false (k.val+1):=by decide
theorem ay1 {m:Int}(h1:1≤m)(h2:m≤12):idx [V.int 31,.int 28,.int 31,.int 30,.int 31,.int 30,.int 31,.int 31,.int 30,.int 31,.int 30,.int 31] (m-1)=some (.int (ai4 false m)):=by
 have h0:0≤m-1:=by lia
 have h3:(m-1).toNat<12:=by lia
 have e:=bh4 ⟨(m-1).toNat,h3⟩
 have e2:(((m-1).toNat:Nat):Int)+1=m:=by lia
 simp only [e2] at e
 exact (aq4 (l:=[31,28,31,30,31,30,31,31,30,31,30,31]) h0 (by show m-1<12;lia) 0).trans (by rw [e])
noncomputable def n8:Ctr:=fun vs H Q _=>∃ y m:Int,vs=[.int y,.int m]∧1≤m∧m≤12∧Q (.int (ai4 (decide (y%4=0)) m)) H
theorem ai6:∀ vs H Q X,n8 vs H Q X→v8 noΦ A8 vs H Q X:=by
 rintro vs H Q X ⟨y,m,rfl,h1,h2,q⟩
 refine i9 rfl ?_
 simp_arith only [A8,E2,List.map_cons,List.map_nil,List.replicate,List.cons_append,List.nil_append,ay1 h1 h2]
 refine ⟨fun h=>⟨fun h'=>?_,fun h'=>?_⟩,fun h=>?_⟩
 ·simpa [ai4,h,h'] using q
 ·simpa [ai4,h,h'] using q
 ·simpa [ai4,h] using q
noncomputable def Φ1:Orc:=ext "month_length" n8 noΦ
noncomputable def aa4 (leap:Bool):Nat→Int→Int→Int × Int
 | 0,r,m=>(r,m)
 | n+1,r,m=>if ai4 leap m≤r then aa4 leap n (r-ai4 leap m) (m+1) else (r,m)
noncomputable def y0 (r:Int):Int:=if r<366 then 0 else if r<731 then 1 else if r<1096 then 2 else 3
noncomputable def aS9 (p:Int):Int:=if p=0 then 0 else if p=1 then 366 else if p=2 then 731 else 1096
noncomputable def au5 (r:Int):Int × Int:=aa4 (decide (y0 r=0)) 11 (r-aS9 (y0 r)) 1
noncomputable def ac8 (d:Int):Int:=(au5 (d%1461)).1+1
noncomputable def ao5 (d:Int):Int:=(au5 (d%1461)).2
noncomputable def aZ2 (d:Int):Int:=d/1461*4+y0 (d%1461)
noncomputable def I3:Ctr:=fun vs H Q _=>∃ d:Int,vs=[.int d]∧Q (.tup [.int (aZ2 d),.int (ao5 d),.int (ac8 d)]) H
theorem bp5:Φ1 "month_length" = n8:=rfl
theorem ax8 (d:Int):decide (aZ2 d%4=0)=decide (y0 (d%1461)=0):=by
 unfold aZ2 y0
 rw [Bool.eq_iff_iff];simp only [decide_eq_true_eq]
 split
 ·lia
 ·split
  ·lia
  ·split<;>lia
theorem a18 {d p y:Int}{t4 t5 t6:Option V}{leap:Bool}(hl:decide (y%4=0)=leap){Q:QS}{H:Hp}:∀ (n:Nat) (r m:Int),1≤m→m+(n:Int)≤12→(aa4 leap n r m).1<ai4 leap (aa4 leap n r m).2 →
  Q .next [some (V.int d),some (.int (aa4 leap n r m).1),some (.int p),some (.int y),some (.int (aa4 leap n r m).2),t4,t5,t6] H →
  z5 (a39 Φ1 ((IE.loc 1).cmp CmpOp.GtE (IE.call (V.fn "month_length") [IE.loc 3,IE.loc 4])) noX)
   (A4 Φ1 [IS.assign 1 (IE.bin Operator.Sub (IE.loc 1) (IE.call (V.fn "month_length") [IE.loc 3,IE.loc 4])),IS.assign 4 (IE.bin Operator.Add (IE.loc 4) (IE.lit (V.int 1)))] aR0)
   (n+1) [some (V.int d),some (.int r),some (.int p),some (.int y),some (.int m),t4,t5,t6] H Q:=by
 intro n
 induction n with
 | zero =>
  intro r m h1 h2 h3 q
  simp_arith only [↓ab5,↓bp5,n8]
  refine ⟨y,m,rfl,h1,by lia,?_⟩
  rw [hl]
  exact ⟨fun h=>absurd h3 (by simp only [aa4];lia),fun _=>q⟩
 | succ n ih =>
  intro r m h1 h2 h3 q
  rw [ab5]
  simp_arith only [↓bp5,n8]
  refine ⟨y,m,rfl,h1,by lia,?_⟩
  rw [hl]
  refine ⟨fun h=>⟨y,m,rfl,h1,by lia,?_⟩,fun h=>?_⟩
  ·rw [hl]
   have e:aa4 leap (n+1) r m=aa4 leap n (r-ai4 leap m) (m+1):=by simp only [aa4];rw [if_pos h]
   rw [e] at h3 q
   exact ih _ _ (by lia) (by lia) h3 q
  ·have e:aa4 leap (n+1) r m=(r,m):=by simp only [aa4];rw [if_neg h]
   rw [e] at q
   exact q
noncomputable def aI8:Nat→Int→Int→Int→Int × Int × Int
 | 0,r,y,m=>(r,y,m)
 | n+1,r,y,m=>if ai4 (decide (y%4=0)) m≤r then aI8 n (r-ai4 (decide (y%4=0)) m) (y+m/12) (m%12+1) else (r,y,m)
noncomputable def bZ0 (r:Int):Bool:=decide (0≤(au5 r).1)&&decide ((au5 r).1<ai4 (decide (y0 r=0)) (au5 r).2)&&decide (1≤(au5 r).2)&&decide ((au5 r).2≤12)&&decide (aI8 47 r 0 1=((au5 r).1,y0 r,(au5 r).2))
theorem a59:∀ r:Fin 1461,bZ0 (r.val:Int)=true:=by decide +kernel
theorem br8 (d:Int):bZ0 (d%1461)=true:=by
 have h1:0≤d%1461:=Int.emod_nonneg _ (by decide)
 have h2:d%1461<1461:=Int.emod_lt_of_pos _ (by decide)
 have:=a59 ⟨(d%1461).toNat,by lia⟩
 simp only at this
 rwa [Int.toNat_of_nonneg h1] at this
theorem ae9 (d:Int):0≤(au5 (d%1461)).1∧(au5 (d%1461)).1<ai4 (decide (y0 (d%1461)=0)) (au5 (d%1461)).2∧1≤(au5 (d%1461)).2∧(au5 (d%1461)).2≤12∧aI8 47 (d%1461) 0 1=((au5 (d%1461)).1,y0 (d%1461),(au5 (d%1461)).2):=by
 have:=br8 d
 simp only [bZ0,Bool.and_eq_true,decide_eq_true_eq] at this
 refine j4 this fun e_281 f=>?_
 refine j4 e_281 fun e_282 e=>?_
 refine j4 e_282 fun e_283 c=>?_
 refine j4 e_283 fun a b=>?_
 exact ⟨a,b,c,e,f⟩
theorem V1 {XF:XS}{d p:Int}{Q:V→Hp→Prop}{H:Hp}{X:XL}(hp:y0 (d%1461)=p)(q:Q (.tup [.int (aZ2 d),.int (ao5 d),.int (ac8 d)]) H) :
  wpS Φ1 (IS.while ((IE.loc 1).cmp CmpOp.GtE (IE.call (V.fn "month_length") [IE.loc 3,IE.loc 4])) [IS.assign 1 (IE.bin Operator.Sub (IE.loc 1) (IE.call (V.fn "month_length") [IE.loc 3,IE.loc 4])),IS.assign 4 (IE.bin Operator.Add (IE.loc 4) (IE.lit (V.int 1)))])
   [some (V.int d),some (V.int (d%1461-aS9 p)),some (V.int p),some (V.int (d/1461*4+p)),some (V.int 1),none,none,none] H
   (sqX Φ1 [IS.ret (IE.tup [IE.loc 3,IE.loc 4,IE.bin Operator.Add (IE.loc 1) (IE.lit (V.int 1))])] (rQ Q) (rX X)) XF:=by
 rw [T9]
 subst hp
 have hl:decide ((d/1461*4+y0 (d%1461))%4=0)=decide (y0 (d%1461)=0):=ax8 d
 refine ⟨12,a18 hl 11 _ 1 (by lia) (by lia) (ae9 d).2.1 ?_⟩
 simp_arith only [g5]
 exact q
theorem aP4:∀ vs H Q X,I3 vs H Q X→v8 Φ1 W9 vs H Q X:=by
 rintro vs H Q X ⟨d,rfl,q⟩
 refine i9 rfl ?_
 simp_arith only [W9,E2,List.map_cons,List.map_nil,List.replicate,List.cons_append,List.nil_append,↓bp5]
 rw [T9]
 refine ⟨4,?_⟩
 simp_arith only [↓ab5]
 refine ⟨fun h=>⟨fun h'=>⟨fun h''=>?_,fun h''=>?_⟩,fun h'=>?_⟩,fun h=>?_⟩
 ·exact V1 (p:=3) (by unfold y0;rw [if_neg (by lia),if_neg (by lia),if_neg (by lia)]) q
 ·exact V1 (p:=2) (by unfold y0;rw [if_neg (by lia),if_neg (by lia),if_pos (by lia)]) q
 ·exact V1 (p:=1) (by unfold y0;rw [if_neg (by lia),if_pos (by lia)]) q
 ·exact V1 (p:=0) (by unfold y0;rw [if_pos (by lia)]) q
noncomputable def Φ2:Orc:=ext "date_of" I3 Φ1
theorem b32:Φ2 "month_length" = n8:=rfl
theorem cg4:Φ2 "date_of" = I3:=rfl
noncomputable def aM1 (d:Int):Int:=ai4 (decide (y0 (d%1461)=0)) (ao5 d)
noncomputable def O6:Ctr:=fun vs H Q _=>∃ d:Int,vs=[.int d]∧Q (.int (ac8 d-aM1 d-1)) H
theorem aJ5:∀ vs H Q X,O6 vs H Q X→v8 Φ2 N8 vs H Q X:=by
 rintro vs H Q X ⟨d,rfl,q⟩
 refine i9 rfl ?_
 simp_arith only [N8,E2,List.map_cons,List.map_nil,List.replicate,List.cons_append,List.nil_append,↓b32,↓cg4,I3,n8]
 refine ⟨d,rfl,aZ2 d,ao5 d,rfl,(ae9 d).2.2.1,(ae9 d).2.2.2.1,?_⟩
 rw [ax8]
 exact q
noncomputable def Φ3:Orc:=ext "from_end" O6 Φ2
theorem ae1 {H:Hp}{x:Int}:C2 H (.int x) .int=some true:=rfl
theorem Z2 {H:Hp}{x:Int}:C2 H (.int x) .bool=some false:=rfl
noncomputable def N7:Ctr:=fun vs H Q _=>∃ x:Int,vs=[.int x]∧Q (.bool true) H
theorem aM2:∀ vs H Q X,N7 vs H Q X→v8 Φ3 N6 vs H Q X:=by
 rintro vs H Q X ⟨x,rfl,q⟩
 refine i9 rfl ?_
 simp_arith only [N6,E2,List.map_cons,List.map_nil,List.replicate,List.cons_append,List.nil_append,ae1,Z2]
 exact q
noncomputable def Φ4:Orc:=ext "is_whole" N7 Φ3
theorem bZ3:Φ4 "is_whole" = N7:=rfl
inductive V9 (H:Hp)(Q:V→Hp→Prop):List V→Prop where
 | mk (x a b:Int):a≤x→x≤b→Q (.bool true) H→V9 H Q [.int x,.int a,.int b]
noncomputable def y7:Ctr:=fun vs H Q _=>V9 H Q vs
theorem ay2:∀ vs H Q X,y7 vs H Q X→v8 Φ4 F1 vs H Q X:=by
 rintro vs H Q X ⟨x,a,b,h1,h2,q⟩
 refine i9 rfl ?_
 simp_arith only [F1,E2,List.map_cons,List.map_nil,List.replicate,List.cons_append,List.nil_append,↓bZ3]
 refine ⟨x,rfl,?_⟩
 simp_arith only [decide_eq_true h1,decide_eq_true h2]
 exact ⟨fun _=>q,fun h=>absurd h1 h⟩
noncomputable def Φ5:Orc:=ext "is_between" y7 Φ4
theorem bZ7:Φ5 "is_between" = y7:=rfl
noncomputable def I4:Ctr:=fun vs H Q _=>∃ x:Int,vs=[.int x]∧0≤x∧x<1000000000000∧Q (.bool true) H
theorem aO1:∀ vs H Q X,I4 vs H Q X→v8 Φ5 V8 vs H Q X:=by
 rintro vs H Q X ⟨x,rfl,h1,h2,q⟩
 refine i9 rfl ?_
 simp_arith only [V8,E2,List.map_cons,List.map_nil,List.replicate,List.cons_append,List.nil_append,↓bZ7]
 exact ⟨x,0,_,h1,by lia,q⟩
noncomputable def Φ6:Orc:=ext "is_time" I4 Φ5
theorem b86:Φ6 "is_between" = y7:=rfl
noncomputable def a72 (most:Int):Int→List Int→Prop
 | _,[]=>True
 | a,d::r=>a<d∧d≤most∧a72 most d r
noncomputable def am2 (ds:List Int):V:=.tup (ds.map .int)
theorem aR5 {H:Hp}{l:List V}:C2 H (.tup l) .tuple=some true:=rfl
inductive W2 (H:Hp)(Q:V→Hp→Prop):List V→Prop where
 | mk (ds:List Int) (many:Int) (most:Int):(1≤ds.length)→((ds.length:Int)≤many)→(a72 most (-1) ds)→(Q (.bool true) H)→W2 H Q ([am2 ds,.int many,.int most])
noncomputable def E8:Ctr:=fun vs H Q _=>W2 H Q vs
theorem bf0 {XF:XS}{v0:V}{many most:Int}{t5 t6 t7:Option V}{H:Hp}{Q:QS}:∀ (ds:List Int) (a:Int) (t4:Option V),a72 most a ds →
  (∀ a' t',Q .next [some v0,some (.int many),some (.int most),some (.int a'),t',t5,t6,t7] H) →
  j7 (A4 Φ6 [(.ite (.not (.call (.fn "is_between") [(.loc 4),(.bin .Add (.loc 3) (.lit (.int 1))),(.loc 2)])) [(.ret (.lit (.bool false)))] []),(.assign 3 (.loc 4))] XF) (fun _=>True) 4 (ds.map V.int)
   [some v0,some (.int many),some (.int most),some (.int a),t4,t5,t6,t7] H Q:=by
 intro ds
 induction ds with
 | nil=>intro a t4 _ q;exact q _ _
 | cons d r ih =>
  intro a t4 hr q
  rw [List.map_cons,g4]
  simp_arith only [↓b86]
  have h1:=hr.1
  refine ⟨d,_,_,by lia,hr.2.1,?_⟩
  simp_arith only [g5]
  exact ih d _ hr.2.2 q
theorem ay8:∀ vs H Q X,E8 vs H Q X→v8 Φ6 f_are_rising vs H Q X:=by
 rintro vs H Q X ⟨ds,many,most,h1,h2,hr,q⟩
 refine i9 rfl ?_
 change j1 Φ6 f_are_rising.body [some (.tup (ds.map .int)),some (.int many),some (.int most),none,none,none,none,none] H _ _
 refine d7 ?_
 have e1:(1:Int)≤((ds.map V.int).length:Int):=by rw [List.length_map];lia
 have e2:((ds.map V.int).length:Int)≤many:=by rw [List.length_map];exact h2
 simp_arith only [aR5,decide_eq_true e2]
 refine ⟨fun _=>?_,fun h=>absurd e1 h⟩
 refine d7 ?_
 simp_arith only [g5]
 refine d7 ?_
 simp_arith only [g5]
 exact bf0 ds (-1) _ hr fun a' t'=>q
noncomputable def Φ7:Orc:=ext "are_rising" E8 Φ6
end Mine
namespace Mine
open PySem
inductive Pl where
 | once (h s:Int)
 | every (h s p:Int)
 | week (ds:List Int) (t s:Int)
 | month (d t s:Int)
inductive Hd where
 | frm (h:Int)
 | til (h:Int)
 | als (h:Int)
 | but (ds:List Int)
inductive Rl where
 | pl (p:Pl)
 | hd (k:Hd) (r:Rl)
noncomputable def pv:Pl→V
 | .once h s=>.tup [.str "once",.int h,.int s]
 | .every h s p=>.tup [.str "every",.int h,.int s,.int p]
 | .week ds t s=>.tup [.str "week",am2 ds,.int t,.int s]
 | .month d t s=>.tup [.str "month",.int d,.int t,.int s]
noncomputable def Hd.w:Hd→Str
 | .frm _=>"from"
 | .til _=>"until"
 | .als _=>"also"
 | .but _=>"but"
noncomputable def Hd.v:Hd→V
 | .frm h=>.int h
 | .til h=>.int h
 | .als h=>.int h
 | .but ds=>am2 ds
noncomputable def rv:Rl→V
 | .pl p=>pv p
 | .hd k r=>.tup [.str k.w,k.v,rv r]
noncomputable def Rl.inner:Rl→Pl
 | .pl p=>p
 | .hd _ r=>r.inner
noncomputable def Rl.deep:Rl→Nat
 | .pl _=>0
 | .hd _ r=>r.deep+1
noncomputable def Pl.size:Pl→Int
 | .once _ s=>s
 | .every _ s _=>s
 | .week _ _ s=>s
 | .month _ _ s=>s
noncomputable def Rl.size (r:Rl):Int:=r.inner.size
noncomputable def x7 (h:Int):Prop:=0≤h∧h<1000000000000
noncomputable def m7 (s:Int):Prop:=1≤s∧s≤48
noncomputable def Pl.fine:Pl→Prop
 | .once h s=>x7 h∧m7 s
 | .every h s p=>x7 h∧m7 s∧1≤p∧p≤1000000
 | .week ds t s=>(0≤t∧t≤23)∧m7 s∧1≤ds.length∧ds.length≤7∧a72 6 (-1) ds
 | .month d t s=>(0≤t∧t≤23)∧m7 s∧-31≤d∧d≤31∧d≠0
noncomputable def Hd.fine:Hd→Prop
 | .frm h=>x7 h
 | .til h=>x7 h
 | .als h=>x7 h
 | .but ds=>1≤ds.length∧ds.length≤20∧a72 99999999999 (-1) ds
noncomputable def Rl.fine:Rl→Prop
 | .pl p=>p.fine
 | .hd k r=>k.fine∧r.fine
noncomputable def Rl.ok (r:Rl):Prop:=r.fine∧r.deep≤7
theorem Rl.fine.inner:∀ {r:Rl},r.fine→r.inner.fine
 | .pl _,h=>h
 | .hd _ r,h=>Rl.fine.inner (r:=r) h.2
theorem Pl.fine.size {p:Pl}(h:p.fine):m7 p.size:=by
 cases p with
 | once h s=>exact h.2
 | every h s p=>exact h.2.1
 | week ds t s=>exact h.2.1
 | month d t s=>exact h.2.1
theorem aY6 (a b:Int):PyData.eqv (.int a) (.int b)=decide (a=b):=rfl
theorem ap0:∀ ds:List Int,A6 (ds.map V.int)=some (ds.map PyData.int)
 | []=>rfl
 | d::r=>by
  show ((A6 (r.map V.int)).map _)=_
  rw [ap0 r];rfl
theorem aG7 (x:Int):∀ ds:List Int,((ds.map PyData.int).any fun e=>PyData.eqv e (.int x))=ds.contains x
 | []=>rfl
 | d::r=>by
  rw [List.map_cons,List.any_cons,aG7 x r,aY6,List.contains_cons]
  congr 1
  rw [Bool.eq_iff_iff,decide_eq_true_eq,beq_iff_eq];exact eq_comm
theorem V5 {x:Int}{ds:List Int}:Q3 (.int x) (ds.map V.int)=some (ds.contains x):=by
 unfold Q3
 rw [ap0]
 show (if (PyData.int x).depth≤60 then some ((ds.map PyData.int).any fun e=>PyData.eqv e (.int x)) else none)=_
 rw [if_pos (Nat.le_of_ble_eq_true rfl),aG7]
noncomputable abbrev az4:List V:=[.str "from",.str "until",.str "also",.str "but"]
theorem a94:Q3 (.str "from") az4=some true:=by decide
theorem ba9:Q3 (.str "until") az4=some true:=by decide
theorem ba8:Q3 (.str "also") az4=some true:=by decide
theorem bd5:Q3 (.str "but") az4=some true:=by decide
theorem bi1 (k:Hd):Q3 (.str k.w) az4=some true:=by
 cases k with
 | frm h=>exact a94
 | til h=>exact ba9
 | als h=>exact ba8
 | but ds=>exact bd5
theorem n2:((2:Nat):Int)=2:=rfl
theorem n3:((3:Nat):Int)=3:=rfl
theorem n4:((4:Nat):Int)=4:=rfl
theorem bq9:Q3 (.str "once") az4=some false:=by decide
theorem a26:Q3 (.str "every") az4=some false:=by decide
theorem bf3:Q3 (.str "week") az4=some false:=by decide
theorem a60:Q3 (.str "month") az4=some false:=by decide
noncomputable def Pl.w:Pl→Str
 | .once _ _=>"once"
 | .every _ _ _=>"every"
 | .week _ _ _=>"week"
 | .month _ _ _=>"month"
theorem bu2 (p:Pl):Q3 (.str p.w) az4=some false:=by
 cases p with
 | once h s=>exact bq9
 | every h s p=>exact a26
 | week ds t s=>exact bf3
 | month d t s=>exact a60
theorem bR7 (p:Pl):∃ r,pv p=.tup (.str p.w::r):=by cases p<;>exact ⟨_,rfl⟩
section
variable {Φ:Orc} {u w:Str} {rest:List V} {Lr:Lc} {H:Hp} {c:IE} {a:List IS} {QF:QS} {XF:XS} {P:Bool→Hp→Prop} {X:XL} {l:List V} {b:Bool}
theorem b03 (hm:Q3 (.str u) l=some b)(h:P b H):(wp2 Φ (.cmp (.sub (.loc 0) (.lit (.int 0))) .In (.lit (.tup l)))).T (some (.tup (.str u::rest))::Lr) H P X:=by
 show oK (Q3 (.str u) l) _
 rw [hm];exact h
theorem bM4 {p:Pl}(h:P false H):(wp2 Φ (.cmp (.sub (.loc 0) (.lit (.int 0))) .In (.lit (.tup az4)))).T (some (pv p)::Lr) H P X:=by
 refine e1_1 (bR7 p) fun r e=>?_
 rw [e];exact b03 (bu2 p) h
theorem ad5 (he:(u==w)=false)(h:QF .next (some (.tup (.str u::rest))::Lr) H):wpS Φ (.ite (.cmp (.sub (.loc 0) (.lit (.int 0))) .Eq (.lit (.str w))) a []) (some (.tup (.str u::rest))::Lr) H QF XF:=by
 show ifP (u==w) _ _
 rw [he];exact h
theorem aO5 (he:(u==w)=true)(h:j1 Φ a (some (.tup (.str u::rest))::Lr) H QF XF):wpS Φ (.ite (.cmp (.sub (.loc 0) (.lit (.int 0))) .Eq (.lit (.str w))) a []) (some (.tup (.str u::rest))::Lr) H QF XF:=by
 show ifP (u==w) _ _
 rw [he];exact h
theorem E0 (he:(u==w)=false)(h:QF .next (some (.tup (.str u::rest))::Lr) H):wpS Φ (.ite (.and (.cmp (.sub (.loc 0) (.lit (.int 0))) .Eq (.lit (.str w))) c) a []) (some (.tup (.str u::rest))::Lr) H QF XF:=by
 show ifP (u==w) _ _
 rw [he];exact h
theorem av0 (he:(u==w)=true)(h:(wp2 Φ c).T (some (.tup (.str u::rest))::Lr) H (fun c H1=>ifP c (j1 Φ a (some (.tup (.str u::rest))::Lr) H1 QF XF) (QF .next (some (.tup (.str u::rest))::Lr) H1)) (fun x=>XF x (some (.tup (.str u::rest))::Lr))) :
  wpS Φ (.ite (.and (.cmp (.sub (.loc 0) (.lit (.int 0))) .Eq (.lit (.str w))) c) a []) (some (.tup (.str u::rest))::Lr) H QF XF:=by
 show ifP (u==w) _ _
 rw [he];exact h
end
theorem a30:Φ7 "is_between" = y7:=rfl
theorem bF0:Φ7 "is_time" = I4:=rfl
theorem bY8:Φ7 "are_rising" = E8:=rfl
theorem aQ9 {x:Int}(h:x7 x){H:Hp}{Q:V→Hp→Prop}{X:XL}(q:Q (.bool true) H):I4 [.int x] H Q X:=⟨x,rfl,h.1,h.2,q⟩
noncomputable def O8:Ctr:=fun vs H Q _=>∃ p:Pl,vs=[pv p]∧p.fine∧Q (.bool true) H
section
variable {Φ:Orc} {u w:Str} {v0:Option V} {Lr:Lc} {H:Hp} {a:List IS} {QF:QS} {XF:XS} {l:List V} {n:Int}
theorem aK4 (he:(u==w)=false)(h:QF .next (v0::some (.str u)::Lr) H):wpS Φ (.ite (.cmp (.loc 1) .Eq (.lit (.str w))) a []) (v0::some (.str u)::Lr) H QF XF:=by
 show ifP (u==w) _ _
 rw [he];exact h
theorem bm5 (he:(u==w)=true)(h:j1 Φ a (v0::some (.str u)::Lr) H QF XF):wpS Φ (.ite (.cmp (.loc 1) .Eq (.lit (.str w))) a []) (v0::some (.str u)::Lr) H QF XF:=by
 show ifP (u==w) _ _
 rw [he];exact h
theorem ae6 (he:(l.length:Int)=n)(h:QF .next (some (.tup l)::Lr) H):wpS Φ (.ite (.cmp (.call (.bi .len) [(.loc 0)]) .NotEq (.lit (.int n))) a []) (some (.tup l)::Lr) H QF XF:=by
 show ifP (!decide ((l.length:Int)=n)) _ _
 rw [decide_eq_true he];exact h
end
theorem ba4 {x y:Int}{l:List V}{Lr:Lc}{H:Hp}{QF:QS}{XF:XS}{a:List IS}(h2:idx l 2=some (.int x))(h3:idx l 3=some (.int y))(hx:0≤x∧x≤23)(hy:m7 y)(h:QF .next (some (.tup l)::Lr) H) :
  wpS Φ7 (.ite (.or (.not (.call (.fn "is_between") [(.sub (.loc 0) (.lit (.int 2))),(.lit (.int 0)),(.lit (.int 23))])) (.not (.call (.fn "is_between") [(.sub (.loc 0) (.lit (.int 3))),(.lit (.int 1)),(.lit (.int 48))]))) a []) (some (.tup l)::Lr) H QF XF:=by
 rw [bH9] at h2
 rw [bJ9] at h3
 simp_arith only [h2,h3,↓a30]
 refine ⟨x,0,23,hx.1,hx.2,?_⟩
 simp_arith only [h3]
 refine ⟨y,1,48,hy.1,hy.2,?_⟩
 simp_arith only [g5]
 exact h
theorem aL6:∀ vs H Q X,O8 vs H Q X→v8 Φ7 f_is_plain vs H Q X:=by
 rintro vs H Q X ⟨p,rfl,hf,q⟩
 refine i9 rfl ?_
 cases p with
 | once h s =>
  change j1 Φ7 (f_is_plain.body.drop 1) [some (.tup [.str "once",.int h,.int s]),some (.str "once"),none,none,none] H _ _
  refine b0 (bm5 G0 ?_)
  generalize hK:sqX Φ7 (_::_)=K
  simp_arith only [n3,↓a30,↓bF0]
  refine aQ9 hf.1 ?_
  simp_arith only [g5]
  subst hK
  exact ⟨s,1,48,hf.2.1,hf.2.2,q⟩
 | every h s p =>
  change j1 Φ7 (f_is_plain.body.drop 1) [some (.tup [.str "every",.int h,.int s,.int p]),some (.str "every"),none,none,none] H _ _
  refine b0 (aK4 C8 (b0 (ae6 rfl (b0 (bm5 B8 ?_)))))
  generalize hK:sqX Φ7 (_::_)=K
  simp_arith only [↓a30,↓bF0]
  refine aQ9 hf.1 ?_
  simp_arith only [g5]
  refine ⟨s,1,48,hf.2.1.1,hf.2.1.2,?_⟩
  simp_arith only [g5]
  subst hK
  exact ⟨p,1,1000000,hf.2.2.1,hf.2.2.2,q⟩
 | week ds t s =>
  change j1 Φ7 (f_is_plain.body.drop 1) [some (.tup [.str "week",am2 ds,.int t,.int s]),some (.str "week"),none,none,none] H _ _
  refine b0 (aK4 F9 (b0 (ae6 rfl (b0 (aK4 C9 (b0 (ba4 rfl rfl hf.1 hf.2.1 (b0 (bm5 K7 ?_)))))))))
  generalize hK:sqX Φ7 (_::_)=K
  simp_arith only [↓bY8]
  subst hK
  exact ⟨ds,7,6,hf.2.2.1,by have:=hf.2.2.2.1;lia,hf.2.2.2.2,q⟩
 | month d t s =>
  change j1 Φ7 (f_is_plain.body.drop 1) [some (.tup [.str "month",.int d,.int t,.int s]),some (.str "month"),none,none,none] H _ _
  refine b0 (aK4 C4 (b0 (ae6 rfl (b0 (aK4 B5 (b0 (ba4 rfl rfl hf.1 hf.2.1 (b0 (aK4 J6 ?_)))))))))
  simp_arith only [ak7,↓a30]
  refine ⟨d,-31,31,hf.2.2.1,hf.2.2.2.1,?_⟩
  simp_arith only [g5]
  have hd:=decide_eq_true hf.2.2.2.2
  rw [hd];exact q
noncomputable def Φ8:Orc:=ext "is_plain" O8 Φ7
theorem cd6:Φ8 "is_plain" = O8:=rfl
theorem bX7:Φ8 "is_time" = I4:=rfl
theorem ca2:Φ8 "are_rising" = E8:=rfl
theorem aP9 {H:Hp}{x:Str}:C2 H (.str x) .str=some true:=rfl
noncomputable abbrev ruB:List IS:=bdy (f_is_rule.body.getD 0 .fail)
section
variable {u:Str} {rest:List V} {x y:V} {Lr:Lc} {H:Hp} {QF:QS} {XF:XS} {a:List IS}
theorem by1 (h:QF .next (some (.tup (.str u::rest))::Lr) H):wpS Φ8 (.ite (.or (.not (.call (.bi .isinstance) [(.loc 0),(.lit (.ty .tuple))])) (.or (.cmp (.call (.bi .len) [(.loc 0)]) .Eq (.lit (.int 0))) (.not (.call (.bi .isinstance) [(.sub (.loc 0) (.lit (.int 0))),(.lit (.ty .str))])))) a []) (some (.tup (.str u::rest))::Lr) H QF XF:=by
 simp_arith only [aR5,aP9]
 exact ⟨fun h=>absurd h (by lia),fun _=>h⟩
theorem bR8 (hm:Q3 (.str u) az4=some true)(h:QF .next (some (.tup (.str u::rest))::Lr) H):wpS Φ8 (.ite (.cmp (.sub (.loc 0) (.lit (.int 0))) .NotIn (.lit (.tup az4))) a []) (some (.tup (.str u::rest))::Lr) H QF XF:=by
 simp_arith only [hm]
 exact h
theorem cq0 (he:(u==Str.ofString "but")=true)(h:QF .next (some (.tup [.str u,x,y])::Lr) H):wpS Φ8 (.ite (.and (.cmp (.sub (.loc 0) (.lit (.int 0))) .NotEq (.lit (.str "but"))) (.not (.call (.fn "is_time") [(.sub (.loc 0) (.lit (.int 1)))]))) a []) (some (.tup [.str u,x,y])::Lr) H QF XF:=by
 show ifP (!(u==Str.ofString "but")) _ _
 rw [he];exact h
theorem b58 {k:Int}(he:(u==Str.ofString "but")=false)(hk:x7 k)(h:QF .next (some (.tup [.str u,.int k,y])::Lr) H):wpS Φ8 (.ite (.and (.cmp (.sub (.loc 0) (.lit (.int 0))) .NotEq (.lit (.str "but"))) (.not (.call (.fn "is_time") [(.sub (.loc 0) (.lit (.int 1)))]))) a []) (some (.tup [.str u,.int k,y])::Lr) H QF XF:=by
 show ifP (!(u==Str.ofString "but")) _ _
 rw [he]
 simp_arith only [↓bX7]
 refine aQ9 hk ?_
 simp_arith only [g5]
 exact h
end
theorem bV5 {p:Pl}{XF:XS}{QF:QS}{Lr:Lc}{H:Hp}(hf:p.fine)(q:∀ L,QF (.ret (.bool true)) L H):j1 Φ8 ruB (some (pv p)::Lr) H QF XF:=by
 have h1:O8 [pv p] H (fun v H1=>QF (.ret v) (some (pv p)::Lr) H1) (fun x=>XF x (some (pv p)::Lr)):=⟨p,rfl,hf,q _⟩
 have hw:=bu2 p
 refine e1_1 (bR7 p) fun r e=>?_
 rw [e] at h1 ⊢
 refine b0 (by1 (b0 ?_))
 generalize hK:sqX Φ8 (_::_)=K
 simp_arith only [hw,↓cd6]
 subst hK
 exact h1
noncomputable def V2:Ctr:=fun vs H Q _=>∃ r:Rl,vs=[rv r]∧r.ok∧Q (.bool true) H
theorem b45 {XF:XS}{H:Hp}{QF:QS}{t2 t3 t4:Option V}(q:∀ L,QF (.ret (.bool true)) L H):∀ (r:Rl) (ks:List V) (t1:Option V),r.fine→r.deep<ks.length→j7 (A4 Φ8 ruB XF) (fun _=>True) 1 ks [some (rv r),t1,t2,t3,t4] H QF:=by
 intro r
 induction r with
 | pl p =>
  intro ks t1 hf hk
  cases ks with
  | nil=>exact absurd hk (Nat.not_lt_zero _)
  | cons k ks=>rw [g4];exact bV5 hf q
 | hd k r ih =>
  intro ks t1 hf hk
  cases ks with
  | nil=>exact absurd hk (Nat.not_lt_zero _)
  | cons u ks =>
   rw [g4]
   have next:=ih ks (some u) hf.2 (Nat.lt_of_succ_lt_succ hk)
   cases k with
   | frm h=>exact b0 (by1 (b0 (bR8 a94 (b0 (ae6 rfl (b0 (E0 K4 (b0 (b58 K4 hf.1 ⟨trivial,next⟩)))))))))
   | til h=>exact b0 (by1 (b0 (bR8 ba9 (b0 (ae6 rfl (b0 (E0 F6 (b0 (b58 F6 hf.1 ⟨trivial,next⟩)))))))))
   | als h=>exact b0 (by1 (b0 (bR8 ba8 (b0 (ae6 rfl (b0 (E0 K1 (b0 (b58 K1 hf.1 ⟨trivial,next⟩)))))))))
   | but ds =>
    refine b0 (by1 (b0 (bR8 bd5 (b0 (ae6 rfl (b0 (av0 P9 ?_)))))))
    generalize hK:sqX Φ8 (_::_)=K
    simp_arith only [↓ca2]
    refine ⟨ds,20,99999999999,hf.1.1,by have:=hf.1.2.1;lia,hf.1.2.2,?_⟩
    simp_arith only [g5]
    subst hK
    exact b0 (cq0 P9 ⟨trivial,next⟩)
theorem aP7:∀ vs H Q X,V2 vs H Q X→v8 Φ8 f_is_rule vs H Q X:=by
 rintro vs H Q X ⟨r,rfl,⟨hf,hd⟩,q⟩
 refine i9 rfl ?_
 change j1 Φ8 f_is_rule.body [some (rv r),none,none,none,none] H _ _
 refine b0 ?_
 rw [aJ3,g5,at9]
 exact ⟨⟨by decide,by decide⟩,b45 (fun _=>q) r _ _ hf (Nat.lt_succ_of_le hd)⟩
noncomputable def Φ9:Orc:=ext "is_rule" V2 Φ8
end Mine
namespace Mine
open PySem
noncomputable def T6:Ctr:=fun vs H Q _=>∃ r:Rl,vs=[rv r]∧Q (pv r.inner) H
noncomputable abbrev inT:IE:=.cmp (.sub (.loc 0) (.lit (.int 0))) .In (.lit (.tup az4))
theorem bc5 {Lr:Lc}{H:Hp}{QF:QS}:∀ r:Rl,QF .next (some (pv r.inner)::Lr) H→z5 (a39 Φ9 inT noX) (A4 Φ9 [(.assign 0 (.sub (.loc 0) (.lit (.int 2))))] aR0) (r.deep+1) (some (rv r)::Lr) H QF
 | .pl p,q=>by rw [ab5];exact bM4 q
 | .hd k r,q=>by rw [ab5];exact b03 (bi1 k) (bc5 r q)
theorem aA3:∀ vs H Q X,T6 vs H Q X→v8 Φ9 f_innermost vs H Q X:=by
 rintro vs H Q X ⟨r,rfl,q⟩
 refine i9 rfl ?_
 change j1 Φ9 f_innermost.body [some (rv r),none,none,none] H _ _
 refine b0 ?_
 rw [T9]
 exact ⟨_,bc5 r q⟩
noncomputable def Φa:Orc:=ext "innermost" T6 Φ9
theorem cg3:Φa "innermost" = T6:=rfl
noncomputable def S0:Ctr:=fun vs H Q _=>∃ r:Rl,vs=[rv r]∧Q (.int r.size) H
theorem aC1:∀ vs H Q X,S0 vs H Q X→v8 Φa f_length_of vs H Q X:=by
 rintro vs H Q X ⟨r,rfl,q⟩
 refine i9 rfl ?_
 change j1 Φa f_length_of.body [some (rv r),none,none,none,none] H _ _
 refine d7 ?_
 simp_arith only [↓cg3]
 refine ⟨r,rfl,?_⟩
 unfold Rl.size at q
 revert q
 cases r.inner with
 | once h s=>intro q;simp_arith only [pv,G0];exact q
 | every h s p=>intro q;simp_arith only [pv,C8,B8];exact q
 | week ds t s=>intro q;simp_arith only [pv,F9,C9];exact q
 | month d t s=>intro q;simp_arith only [pv,C4,B5];exact q
noncomputable def Φb:Orc:=ext "length_of" S0 Φa
theorem bX9:Φb "from_end" = O6:=rfl
theorem b87:Φb "date_of" = I3:=rfl
noncomputable def bp:Pl→Int→Bool
 | .once h _,x=>decide (x=h)
 | .every h _ p,x=>decide (h≤x)&&decide ((x-h)%p=0)
 | .week ds t _,x=>decide (x%24=t)&&ds.contains (x/24%7)
 | .month d t _,x=>decide (x%24=t)&&(if d<0 then decide (ac8 (x/24)-aM1 (x/24)-1=d) else decide (ac8 (x/24)=d))
noncomputable def G8:Ctr:=fun vs H Q _=>∃ (r:Pl) (x:Int),vs=[pv r,.int x]∧r.fine∧Q (.bool (bp r x)) H
theorem aj8:∀ vs H Q X,G8 vs H Q X→v8 Φb f_begins_plain vs H Q X:=by
 rintro vs H Q X ⟨r,x,rfl,hok,q⟩
 refine i9 rfl ?_
 cases r with
 | once h s =>
  change j1 Φb f_begins_plain.body [some (V.tup [.str "once",.int h,.int s]),some (.int x),none,none,none,none] H _ _
  refine b0 (aO5 G0 ?_)
  exact q
 | every h s p =>
  change j1 Φb f_begins_plain.body [some (V.tup [.str "every",.int h,.int s,.int p]),some (.int x),none,none,none,none] H _ _
  refine b0 (ad5 C8 (b0 (aO5 B8 ?_)))
  generalize hK:sqX Φb (_::_)=K
  simp_arith only [←hK]
  have h1:=hok.2.2.1
  have h2:=hok.2.2.2
  refine ⟨fun hx=>⟨aa0.mpr ⟨by lia,by lia⟩,?_⟩,fun hx=>?_⟩
  ·have e:bp (.every h s p) x=decide ((x-h)%p=0):=by show (decide (h≤x)&&_)=_;rw [decide_eq_true hx];rfl
   rw [e] at q;exact q
  ·have e:bp (.every h s p) x=false:=by show (decide (h≤x)&&_)=_;rw [decide_eq_false hx];rfl
   rw [e] at q;rw [decide_eq_false hx];exact q
 | week ds t s =>
  change j1 Φb f_begins_plain.body [some (V.tup [.str "week",am2 ds,.int t,.int s]),some (.int x),none,none,none,none] H _ _
  refine b0 (ad5 F9 (b0 (ad5 C9 ?_)))
  simp_arith only [K7,am2,V5]
  refine ⟨fun hx=>?_,fun hx=>?_⟩
  ·have e:bp (.week ds t s) x=false:=by show (decide (x%24=t)&&_)=_;rw [decide_eq_false hx];rfl
   rw [e] at q;exact q
  ·have e:bp (.week ds t s) x=ds.contains (x/24%7):=by show (decide (x%24=t)&&_)=_;rw [decide_eq_true (Classical.not_not.mp hx)];rfl
   rw [e] at q;exact q
 | month d t s =>
  change j1 Φb f_begins_plain.body [some (V.tup [.str "month",.int d,.int t,.int s]),some (.int x),none,none,none,none] H _ _
  refine b0 (ad5 C4 (b0 (ad5 B5 ?_)))
  simp_arith only [J6,↓bX9,↓b87,O6,I3]
  refine ⟨fun hx=>?_,fun hx=>?_⟩
  ·have e:bp (.month d t s) x=false:=by show (decide (x%24=t)&&_)=_;rw [decide_eq_false hx];rfl
   rw [e] at q;exact q
  ·have e:bp (.month d t s) x=if d<0 then decide (ac8 (x/24)-aM1 (x/24)-1=d) else decide (ac8 (x/24)=d):=by show (decide (x%24=t)&&_)=_;rw [decide_eq_true (Classical.not_not.mp hx)];rfl
   rw [e] at q
   refine ⟨fun hd=>⟨_,rfl,?_⟩,fun hd=>⟨_,rfl,?_⟩⟩
   ·rw [if_pos hd] at q;exact q
   ·rw [if_neg hd] at q;exact q
noncomputable def Φc:Orc:=ext "begins_plain" G8 Φb
theorem b63:Φc "begins_plain" = G8:=rfl
noncomputable def hdB (k:Hd)(x:Int)(b:Bool):Bool:=match k with
 | .frm h=>b&&decide (h≤x)
 | .til h=>b&&decide (x<h)
 | .als h=>b||decide (x=h)
 | .but ds=>b&&!ds.contains (x/24)
noncomputable def bgo:Rl→Int→Bool
 | .pl p,x=>bp p x
 | .hd k r,x=>hdB k x (bgo r x)
noncomputable def bg (r:Rl)(x:Int):Bool:=if x<0 then false else bgo r x
noncomputable def au1:Ctr:=fun vs H Q _=>∃ (r:Rl) (x:Int),vs=[rv r,.int x]∧r.ok∧Q (.bool (bg r x)) H
noncomputable abbrev beB:List IS:=bdy (f_begins.body.getD 1 .fail)
theorem b49 {x:Int}{t2 t3 t4:Option V}{H:Hp}{Q:V→Hp→Prop}{X:XL}:∀ r:Rl,r.ok→Q (.bool (bgo r x)) H →
  z5 (a39 Φc inT noX) (A4 Φc beB aR0) (r.deep+1) [some (rv r),some (.int x),t2,t3,t4] H (sqX Φc [.ret (.call (.fn "begins_plain") [.loc 0,.loc 1])] (rQ Q) (rX X)):=by
 intro r
 induction r with
 | pl p =>
  intro hf q
  rw [ab5]
  refine bM4 ?_
  simp_arith only [↓b63]
  exact ⟨p,x,rfl,hf.1,q⟩
 | hd k r ih =>
  intro hf q
  have be:=ih ⟨hf.1.2,Nat.le_of_succ_le hf.2⟩
  have hd:(.hd k r:Rl).deep+1=(r.deep+1)+1:=rfl
  rw [hd,ab5]
  refine b03 (bi1 k) ?_
  have q:Q (.bool (hdB k x (bgo r x))) H:=q
  generalize bgo r x=b at q be
  cases k with
  | frm h =>
   refine b0 (av0 Z4 ?_)
   show ifP (decide (x<h)) _ _
   refine bw7 (fun hx=>?_) (fun hx=>b0 (E0 as9 (b0 (E0 ax9 (b0 (E0 K4 ?_))))))
   ·rw [show hdB (.frm h) x b=false by show (_&&decide (h≤x))=_;rw [decide_eq_false (by lia),Bool.and_false]] at q;exact q
   ·rw [show hdB (.frm h) x b=b by show (_&&decide (h≤x))=_;rw [decide_eq_true (by lia),Bool.and_true]] at q;exact be q
  | til h =>
   refine b0 (E0 V0 (b0 (av0 Q6 ?_)))
   show ifP (decide (h≤x)) _ _
   refine bw7 (fun hx=>?_) (fun hx=>b0 (E0 ar7 (b0 (E0 F6 ?_))))
   ·rw [show hdB (.til h) x b=false by show (_&&decide (x<h))=_;rw [decide_eq_false (by lia),Bool.and_false]] at q;exact q
   ·rw [show hdB (.til h) x b=b by show (_&&decide (x<h))=_;rw [decide_eq_true (by lia),Bool.and_true]] at q;exact be q
  | als h =>
   refine b0 (E0 Z3 (b0 (E0 U1 (b0 (av0 Y9 ?_)))))
   show ifP (decide (x=h)) _ _
   refine bw7 (fun hx=>?_) (fun hx=>b0 (E0 K1 ?_))
   ·rw [show hdB (.als h) x b=true by show (_||decide (x=h))=_;rw [decide_eq_true hx,Bool.or_true]] at q;exact q
   ·rw [show hdB (.als h) x b=b by show (_||decide (x=h))=_;rw [decide_eq_false hx,Bool.or_false]] at q;exact be q
  | but ds =>
   refine b0 (E0 af6 (b0 (E0 Z7 (b0 (E0 ad8 (b0 (av0 P9 ?_)))))))
   refine ⟨rfl,?_⟩
   show oK (Q3 (.int (x/24)) (ds.map V.int)) _
   rw [V5]
   refine aN7 (fun hx=>?_) (fun hx=>?_)
   ·rw [show hdB (.but ds) x b=false by show (_&&!ds.contains (x/24))=_;rw [hx];exact Bool.and_false _] at q;exact q
   ·rw [show hdB (.but ds) x b=b by show (_&&!ds.contains (x/24))=_;rw [hx];exact Bool.and_true _] at q;exact be q
theorem a32:∀ vs H Q X,au1 vs H Q X→v8 Φc f_begins vs H Q X:=by
 rintro vs H Q X ⟨r,x,rfl,hf,q⟩
 refine i9 rfl ?_
 change j1 Φc f_begins.body [some (rv r),some (.int x),none,none,none] H _ _
 refine d7 ?_
 simp_arith only [g5]
 unfold bg at q
 refine ⟨fun hx=>?_,fun hx=>?_⟩
 ·rw [if_pos hx] at q;exact q
 rw [if_neg hx] at q
 refine b0 ?_
 rw [T9]
 exact ⟨_,b49 r hf q⟩
noncomputable def Φd:Orc:=ext "begins" au1 Φc
theorem cg1:Φd "begins" = au1:=rfl
theorem bW5:Φd "length_of" = S0:=rfl
noncomputable def m9 (a b:Int):List Int:=(List.range (b-a).toNat).map fun (k:Nat)=>a+(k:Int)
theorem C5 (a b:Int):E4 a b=(m9 a b).map V.int:=by
 unfold E4 m9;rw [List.map_map];rfl
theorem q9 {a b k:Int}:k∈m9 a b↔a≤k∧k<b:=by
 unfold m9
 rw [List.mem_map]
 constructor
 ·rintro ⟨n,hn,rfl⟩
  have:=List.mem_range.mp hn
  lia
 ·intro h
  exact ⟨(k-a).toNat,List.mem_range.mpr (by lia),by lia⟩
theorem Y6 (a b:Int):(m9 a b).length=(b-a).toNat:=by unfold m9;rw [List.length_map,List.length_range]
noncomputable def cov (r:Rl)(x:Int):Bool:=(m9 0 r.size).any fun k=>bg r (x-k)
noncomputable def ab9:Ctr:=fun vs H Q _=>∃ (r:Rl) (x:Int),vs=[rv r,.int x]∧r.ok∧0≤x∧Q (.bool (cov r x)) H
theorem bu0 {XF:XS}{r:Rl}{x:Int}{t3 t4 t5:Option V}{H:Hp}{Q:QS}(hf:r.ok):∀ (ks:List Int) (t2:Option V),
  (∀ L',(ks.any fun k=>bg r (x-k))=true→Q (.ret (.bool true)) L' H)→(∀ L',(ks.any fun k=>bg r (x-k))=false→Q .next L' H) →
  j7 (A4 Φd [(.ite (.call (.fn "begins") [(.loc 0),(.bin .Sub (.loc 1) (.loc 2))]) [(.ret (.lit (.bool true)))] [])] XF) (fun _=>True) 2 (ks.map V.int) [some (rv r),some (.int x),t2,t3,t4,t5] H Q:=by
 intro ks
 induction ks with
 | nil=>intro t2 _ q;exact q _ rfl
 | cons k ks ih =>
  intro t2 q1 q2
  rw [List.map_cons,g4]
  simp_arith only [↓cg1]
  refine ⟨r,x-k,rfl,hf,?_⟩
  simp_arith only [g5]
  rw [List.any_cons] at q1 q2
  refine aN7 (fun h=>?_) (fun h=>?_)
  ·exact q1 _ (by rw [h];rfl)
  ·rw [h,Bool.false_or] at q1 q2
   exact ih _ q1 q2
theorem a84:∀ vs H Q X,ab9 vs H Q X→v8 Φd f_covers vs H Q X:=by
 rintro vs H Q X ⟨r,x,rfl,hf,h0,q⟩
 refine i9 rfl ?_
 change j1 Φd f_covers.body [some (rv r),some (.int x),none,none,none,none] H _ _
 unfold cov at q
 have hs:=hf.1.inner.size
 refine d7 ?_
 simp_arith only [g5]
 refine ⟨fun hx=>absurd hx (by lia),fun _=>?_⟩
 refine d7 ?_
 simp_arith only [↓bW5]
 refine ⟨r,rfl,?_⟩
 simp_arith only [g5]
 have e1:1≤r.size:=hs.1
 have e2:r.size≤48:=hs.2
 refine ⟨⟨by lia,by lia⟩,?_⟩
 rw [C5]
 refine bu0 hf _ _ (fun L' h=>?_) (fun L' h=>?_)
 ·rw [h] at q;exact q
 ·rw [h] at q;exact q
noncomputable def Φe:Orc:=ext "covers" ab9 Φd
theorem bU0:Φe "covers" = ab9:=rfl
inductive Q4 (H:Hp)(Q:V→Hp→Prop):List V→Prop where
 | mk (i:Nat) (rs:List Rl) (x:Int):(b6 H i=some (rs.map rv))→((∀ r∈rs,r.ok))→(0≤x)→(Q (.bool (rs.any fun r=>cov r x)) H)→Q4 H Q ([.ref i,.int x])
noncomputable def J8:Ctr:=fun vs H Q _=>Q4 H Q vs
theorem be6 {XF:XS}{i:Nat}{x:Int}{t3 t4 t5:Option V}{H:Hp}{Q:QS}{st:Hp→Prop}(hst:st H)(h0:0≤x):∀ (rs:List Rl) (t2:Option V),(∀ r∈rs,r.ok) →
  (∀ L',(rs.any fun r=>cov r x)=true→Q (.ret (.bool true)) L' H)→(∀ L',(rs.any fun r=>cov r x)=false→Q .next L' H) →
  j7 (A4 Φe [(.ite (.call (.fn "covers") [(.loc 2),(.loc 1)]) [(.ret (.lit (.bool true)))] [])] XF) st 2 (rs.map rv) [some (.ref i),some (.int x),t2,t3,t4,t5] H Q:=by
 intro rs
 induction rs with
 | nil=>intro t2 _ _ q;exact q _ rfl
 | cons r rs ih =>
  intro t2 hf q1 q2
  rw [List.map_cons,g4]
  simp_arith only [↓bU0]
  refine ⟨r,x,rfl,hf r List.mem_cons_self,h0,?_⟩
  simp_arith only [g5]
  rw [List.any_cons] at q1 q2
  refine aN7 (fun h=>?_) (fun h=>?_)
  ·exact q1 _ (by rw [h];rfl)
  ·rw [h,Bool.false_or] at q1 q2
   exact ⟨hst,ih _ (fun r hr=>hf r (List.mem_cons_of_mem _ hr)) q1 q2⟩
theorem at2:∀ vs H Q X,J8 vs H Q X→v8 Φe f_some_covers vs H Q X:=by
 rintro vs H Q X ⟨i,rs,x,hl,hf,h0,q⟩
 refine i9 rfl ?_
 change j1 Φe f_some_covers.body [some (.ref i),some (.int x),none,none,none,none] H _ _
 refine d7 ?_
 simp_arith only [hl]
 refine be6 hl h0 rs _ hf (fun L' h=>?_) (fun L' h=>?_)
 ·rw [h] at q;exact q
 ·rw [h] at q;exact q
noncomputable def Φf:Orc:=ext "some_covers" J8 Φe
theorem a24:Φf "is_between" = y7:=rfl
theorem a80:Φf "is_time" = I4:=rfl
inductive K8 (H:Hp)(Q:V→Hp→Prop):List V→Prop where
 | mk (h:Int) (a:Int) (b:Int):(m7 h)→(x7 a)→(x7 b)→(a≤b)→(b≤a+10000)→(Q .none H)→K8 H Q ([.int h,.int a,.int b])
noncomputable def B7:Ctr:=fun vs H Q _=>K8 H Q vs
theorem ak4:∀ vs H Q X,B7 vs H Q X→v8 Φf C0 vs H Q X:=by
 rintro vs H Q X ⟨h,a,b,hh,ha,hb,h1,h2,q⟩
 refine i9 rfl ?_
 simp_arith only [C0,E2,List.map_cons,List.map_nil,List.replicate,List.cons_append,List.nil_append,↓a24,↓a80]
 refine ⟨h,1,48,hh.1,hh.2,?_⟩
 simp_arith only [↓a24,↓a80]
 refine aQ9 ha ?_
 simp_arith only [↓a24,↓a80]
 refine aQ9 hb ?_
 simp_arith only [↓a24,↓a80]
 refine ⟨fun _=>?_,fun h=>absurd h1 h⟩
 rw [decide_eq_true h2];exact q
noncomputable def Φg:Orc:=ext "need_stretch" B7 Φf
noncomputable def ba2 (x:Str):Prop:=∀ c∈x.cps.toList,97≤c∧c≤122
noncomputable def ao1 (x:Str):Prop:=1≤x.length∧x.length≤12∧ba2 x
theorem bD9:∀ k:Fin 26,Txt.contains "abcdefghijklmnopqrstuvwxyz" ⟨#[97+k.val]⟩=true:=by decide +kernel
theorem bL1 {c:Nat}(h:97≤c∧c≤122):Txt.contains "abcdefghijklmnopqrstuvwxyz" ⟨#[c]⟩=true:=by
 have:=bD9 ⟨c-97,by lia⟩
 rw [show 97+(c-97)=c by lia] at this
 exact this
noncomputable def ag1:Ctr:=fun vs H Q _=>∃ x:Str,vs=[.str x]∧ao1 x∧Q (.bool true) H
theorem br2 {XF:XS}{v0:V}{t2 t3 t4:Option V}{H:Hp}{Q:QS}:∀ (cs:List Nat) (t1:Option V),(∀ c∈cs,97≤c∧c≤122)→(∀ L',Q .next L' H) →
  j7 (A4 Φg [(.ite (.cmp (.loc 1) .NotIn (.lit (.str "abcdefghijklmnopqrstuvwxyz"))) [(.ret (.lit (.bool false)))] [])] XF) (fun _=>True) 1 (cs.map fun c=>V.str ⟨#[c]⟩) [some v0,t1,t2,t3,t4] H Q:=by
 intro cs
 induction cs with
 | nil=>intro t1 _ q;exact q _
 | cons c cs ih =>
  intro t1 hc q
  rw [List.map_cons,g4]
  simp_arith only [↓G5,↓r9,↓F8,↓X2,↓E9,↓W7,↓F0,bL1 (hc c List.mem_cons_self)]
  exact ih _ (fun c h=>hc c (List.mem_cons_of_mem _ h)) q
theorem aQ8:∀ vs H Q X,ag1 vs H Q X→v8 Φg f_is_name vs H Q X:=by
 rintro vs H Q X ⟨x,rfl,hn,q⟩
 refine i9 rfl ?_
 change j1 Φg f_is_name.body [some (.str x),none,none,none,none] H _ _
 refine d7 ?_
 have h1:(1:Int)≤(x.length:Int):=by have:=hn.1;lia
 have h2:(x.length:Int)≤12:=by have:=hn.2.1;lia
 simp_arith only [↓G5,↓r9,↓F8,↓X2,↓E9,↓W7,↓F0,aP9,decide_eq_true h2]
 refine ⟨fun _=>?_,fun h=>absurd h1 h⟩
 refine d7 ?_
 simp_arith only [↓G5,↓r9,↓F8,↓X2,↓E9,↓W7,↓F0]
 refine ⟨?_,?_⟩
 ·rw [←Array.all_toList,List.all_eq_true]
  intro c hc
  exact decide_eq_true (by have:=hn.2.2 c hc;lia)
 exact br2 _ _ hn.2.2 fun L'=>q
noncomputable def Φh:Orc:=ext "is_name" ag1 Φg
end Mine
namespace Mine
open PySem
structure Prs where
 nm:Str
 fr:List Rl
 bu:List Rl
noncomputable def Prs.fine (p:Prs):Prop:=(∀ r∈p.fr,r.ok)∧∀ r∈p.bu,r.ok
noncomputable def am3 (p:Prs)(x:Int):Bool:=(p.fr.any fun r=>cov r x)&&!p.bu.any fun r=>cov r x
structure Mtg where
 no:Int
 hr:Int
 sz:Int
 who:List Str
noncomputable def mtv (m:Mtg):V:=.tup [.int m.no,.int m.hr,.int m.sz,.tup (m.who.map V.str)]
noncomputable def R9 (b:Int)(hs:List Mtg)(nm:Str)(x:Int):Bool:=hs.any fun m=>decide (m.no≠b)&&(m.who.contains nm&&(decide (m.hr≤x)&&decide (x<m.hr+m.sz)))
noncomputable def fre (b:Int)(hs:List Mtg)(p:Prs)(x:Int):Bool:=!decide (x<0)&&(!R9 b hs p.nm x&&am3 p x)
structure Fr (F:List Nat)(H H':Hp):Prop where
 keep:∀ i o,i∉F→H[i]? = some o→H'[i]? = some o
 len:H.length≤H'.length
theorem Z0 {H:Hp}{i:Nat}{o:O}(h:H[i]? = some o):i<H.length:=(List.getElem?_eq_some_iff.mp h).1
theorem be5 {H H':Hp}{i:Nat}{o:O}(p:H<+:H')(h:H[i]? = some o):H'[i]? = some o:=by
 refine e1_1 p fun Δ e_284=>?_
 obtain rfl:=e_284
 rw [List.getElem?_append_left (Z0 h),h]
theorem Fr.pre {F:List Nat}{H H':Hp}(p:H<+:H'):Fr F H H':=⟨fun _ _ _ h=>be5 p h,p.length_le⟩
theorem Fr.refl {F:List Nat}{H:Hp}:Fr F H H:=⟨fun _ _ _ h=>h,Nat.le_refl _⟩
theorem Fr.trans {F G:List Nat}{H H1 H2:Hp}(a:Fr F H H1)(b:Fr G H1 H2)(hs:∀ i∈G,i∈F∨H.length≤i):Fr F H H2:=⟨fun i o hi h=>by
 refine b.keep i o (fun hg=>?_) (a.keep i o hi h)
 rcases hs i hg with q|q
 ·exact hi q
 ·have:=Z0 h;lia,Nat.le_trans a.len b.len⟩
theorem Fr.mono {F G:List Nat}{H H':Hp}(a:Fr F H H')(hs:∀ i∈F,i∈G∨H.length≤i):Fr G H H':=Fr.trans Fr.refl a hs
theorem Fr.set {H:Hp}{n:Nat}{o:O}:Fr [n] H (H.set n o):=⟨fun i o' hi h=>by
 rw [List.getElem?_set_ne (fun q=>hi (by rw [q];exact .head _)),h],by rw [List.length_set];exact Nat.le_refl _⟩
theorem m6 {i x:Nat}(h:i≠x):i∉[x]:=fun q=>h (List.mem_singleton.mp q)
theorem Fr.list {F:List Nat}{H H':Hp}{i:Nat}{l:List V}(f:Fr F H H')(hi:i∉F)(h:b6 H i=some l):b6 H' i=some l:=by
 refine e1_2 (Option.bind_eq_some_iff.mp h) fun o e h=>?_
 unfold b6;rw [f.keep i o hi e];exact h
theorem Fr.dict {F:List Nat}{H H':Hp}{i:Nat}{l:List (Str × V)}(f:Fr F H H')(hi:i∉F)(h:j6 H i=some l):j6 H' i=some l:=by
 refine e1_2 (Option.bind_eq_some_iff.mp h) fun o e h=>?_
 unfold j6;rw [f.keep i o hi e];exact h
theorem Fr.ns {F:List Nat}{H H':Hp}{i:Nat}{l:Nat × List (Str × V)}(f:Fr F H H')(hi:i∉F)(hj:l.1∉F)(h:au4 H i=some l):au4 H' i=some l:=by
 refine e1_2 (Option.bind_eq_some_iff.mp h) fun j h1 h=>?_
 refine e1_2 (Option.map_eq_some_iff.mp h) fun fs h2 e_285=>?_
 obtain rfl:=e_285
 refine e1_2 (Option.bind_eq_some_iff.mp h1) fun o e1 h1=>?_
 refine e1_2 (Option.bind_eq_some_iff.mp h2) fun o2 e2 h2=>?_
 unfold au4
 rw [f.keep _ _ hi e1,Option.bind_some,h1,Option.bind_some,f.keep _ _ hj e2,Option.bind_some,h2];rfl
theorem f9 {H:Hp}{i:Nat}{l:List V}(h:b6 H i=some l):i<H.length:=by
 refine e1_2 (Option.bind_eq_some_iff.mp h) fun o e _=>?_
 exact Z0 e
noncomputable def RlAt (H:Hp)(es:List (Str × V))(f:Prs→List Rl):List Prs→List Nat→Prop
 | [],is=>is=[]
 | p::ps,is=>∃ i js,is=i::js∧es.lookup p.nm=some (.ref i)∧b6 H i=some ((f p).map rv)∧RlAt H es f ps js
theorem RlAt.fr {F:List Nat}{H H':Hp}{es:List (Str × V)}{f:Prs→List Rl}(g:Fr F H H'):∀ {ps:List Prs} {is:List Nat},(∀ i∈is,i∉F)→RlAt H es f ps is→RlAt H' es f ps is
 | [],_,_,h=>h
 | _::_,_,hd,⟨i,js,e,h1,h2,r⟩=>⟨i,js,e,h1,g.list (hd i (by rw [e];exact .head _)) h2,r.fr g fun k hk=>hd k (by rw [e];exact .tail _ hk)⟩
theorem RlAt.get {H:Hp}{es:List (Str × V)}{f:Prs→List Rl}{p:Prs}:∀ {ps:List Prs} {is:List Nat},RlAt H es f ps is→p∈ps→∃ i,es.lookup p.nm=some (.ref i)∧b6 H i=some ((f p).map rv)∧i∈is
 | [],_,_,h=>nomatch h
 | a::ps,_,⟨i,js,e,h1,h2,r⟩,h=>by
  rcases List.mem_cons.mp h with q|q
  ·rw [q,e];exact ⟨i,h1,h2,.head _⟩
  ·refine e1_3 (r.get q) fun k k1 k2 k3=>?_
   exact ⟨k,k1,k2,by rw [e];exact .tail _ k3⟩
structure Bk where
 b:Nat
 j:Nat
 n:Nat
 h:Nat
 d:Nat
 e:Nat
 fs:List (Str × V)
 es:List (Str × V)
 us:List (Str × V)
 fl:List Nat
 ul:List Nat
 g:Int
 c:Nat
noncomputable def Bk.foot (k:Bk):List Nat:=k.b::k.j::k.n::k.h::k.d::k.e::(k.fl++k.ul)
structure BkAt (H:Hp)(k:Bk)(ps:List Prs)(hs:List Mtg):Prop where
 nd:k.foot.Nodup
 ns:au4 H k.b=some (k.j,k.fs)
 fN:k.fs.lookup (Str.ofString "names")=some (.ref k.n)
 fH:k.fs.lookup (Str.ofString "held")=some (.ref k.h)
 fF:k.fs.lookup (Str.ofString "free_rules")=some (.ref k.d)
 fB:k.fs.lookup (Str.ofString "busy_rules")=some (.ref k.e)
 fG:k.fs.lookup (Str.ofString "given")=some (.int k.g)
 ln:b6 H k.n=some (ps.map fun p=>.str p.nm)
 lh:b6 H k.h=some (hs.map mtv)
 dd:j6 H k.d=some k.es
 de:j6 H k.e=some k.us
 rf:RlAt H k.es Prs.fr ps k.fl
 ru:RlAt H k.us Prs.bu ps k.ul
 g0:0≤k.g
 no:∀ m∈hs,0<m.no∧m.no≤k.g
 nu:(hs.map Mtg.no).Nodup
 z:k.fs.length≤k.c
 ze:k.es.length=ps.length
 zu:k.us.length=ps.length
section
variable {k:Bk}
theorem cq8:k.b∈k.foot:=.head _
theorem bL6:k.j∈k.foot:=.tail _ (.head _)
theorem cg9:k.n∈k.foot:=.tail _ (.tail _ (.head _))
theorem bT4:k.h∈k.foot:=.tail _ (.tail _ (.tail _ (.head _)))
theorem b44:k.d∈k.foot:=.tail _ (.tail _ (.tail _ (.tail _ (.head _))))
theorem cc3:k.e∈k.foot:=.tail _ (.tail _ (.tail _ (.tail _ (.tail _ (.head _)))))
theorem ch9 {i:Nat}(h:i∈k.fl++k.ul):i∈k.foot:=.tail _ (.tail _ (.tail _ (.tail _ (.tail _ (.tail _ h)))))
theorem bK7 {i:Nat}(h:i∈k.fl):i∈k.foot:=ch9 (List.mem_append_left _ h)
theorem aV3 {i:Nat}(h:i∈k.ul):i∈k.foot:=ch9 (List.mem_append_right _ h)
theorem BkAt.fr {F:List Nat}{H H':Hp}{ps:List Prs}{hs:List Mtg}(B:BkAt H k ps hs)(f:Fr F H H')(hd:∀ i∈k.foot,i∉F):BkAt H' k ps hs :=
 ⟨B.nd,f.ns (hd _ cq8) (hd _ bL6) B.ns,B.fN,B.fH,B.fF,B.fB,B.fG,f.list (hd _ cg9) B.ln,f.list (hd _ bT4) B.lh,f.dict (hd _ b44) B.dd,f.dict (hd _ cc3) B.de,B.rf.fr f fun i hi=>hd i (bK7 hi),B.ru.fr f fun i hi=>hd i (aV3 hi),B.g0,B.no,B.nu,B.z,B.ze,B.zu⟩
theorem BkAt.pre {H H':Hp}{ps:List Prs}{hs:List Mtg}(p:H<+:H')(B:BkAt H k ps hs):BkAt H' k ps hs:=B.fr (F:=[]) (Fr.pre p) fun _ _ h=>nomatch h
end
theorem bl7 (a b:Str):PyData.eqv (.str a) (.str b)=(a==b):=rfl
theorem X7:∀ xs:List Str,A6 (xs.map V.str)=some (xs.map PyData.str)
 | []=>rfl
 | d::r=>by
  show ((A6 (r.map V.str)).map _)=_
  rw [X7 r];rfl
theorem aH7 (x:Str):∀ xs:List Str,((xs.map PyData.str).any fun e=>PyData.eqv e (.str x))=xs.contains x
 | []=>rfl
 | d::r=>by
  rw [List.map_cons,List.any_cons,aH7 x r,bl7,List.contains_cons]
  congr 1
  rw [Bool.eq_iff_iff,beq_iff_eq,beq_iff_eq];exact eq_comm
theorem O1 {x:Str}{xs:List Str}:Q3 (.str x) (xs.map V.str)=some (xs.contains x):=by
 unfold Q3
 rw [X7]
 show (if (PyData.str x).depth≤60 then some ((xs.map PyData.str).any fun e=>PyData.eqv e (.str x)) else none)=_
 rw [if_pos (Nat.le_of_ble_eq_true rfl),aH7]
theorem af4 (ps:List Prs):(ps.map fun p=>V.str p.nm)=(ps.map Prs.nm).map V.str:=by rw [List.map_map];rfl
inductive K5 (H:Hp)(Q:V→Hp→Prop):List V→Prop where
 | mk (k:Bk) (ps:List Prs) (hs:List Mtg) (x:Str):(BkAt H k ps hs)→(x∈ps.map Prs.nm)→(Q .none H)→K5 H Q ([.ref k.b,.str x])
noncomputable def u8:Ctr:=fun vs H Q _=>K5 H Q vs
theorem ae5:∀ vs H Q X,u8 vs H Q X→v8 Φh w5 vs H Q X:=by
 rintro vs H Q X ⟨k,ps,hs,x,B,hx,q⟩
 refine i9 rfl ?_
 have h3:=B.ln
 rw [af4] at h3
 have hc:(ps.map Prs.nm).contains x=true:=List.contains_iff_mem.mpr hx
 simp_arith only [w5,E2,List.map_cons,List.map_nil,List.replicate,List.cons_append,List.nil_append,B.ns,B.fN,h3,O1,hc]
 exact q
noncomputable def Ψ1:Orc:=ext (Str.ofString "Book."++Str.ofString "need_somebody") u8 Φh
inductive ag7 (H:Hp)(Q:V→Hp→Prop):List V→Prop where
 | mk (k:Bk) (ps:List Prs) (hs:List Mtg) (nm:Str) (x:Int) (b:Int):(BkAt H k ps hs)→(Q (.bool (R9 b hs nm x)) H)→ag7 H Q ([.ref k.b,.str nm,.int x,.int b])
noncomputable def X4:Ctr:=fun vs H Q _=>ag7 H Q vs
noncomputable abbrev maB:List IS:=bdy (f_B_meets_at.body.getD 0 .fail)
theorem bs7 {XF:XS}{v0:V}{nm:Str}{x b:Int}{t5 t6 t7:Option V}{H:Hp}{Q:QS}{st:Hp→Prop}(hst:st H):∀ (hs:List Mtg) (t4:Option V),(R9 b hs nm x=true→∀ L',Q (.ret (.bool true)) L' H)→(R9 b hs nm x=false→∀ L',Q .next L' H) →
  j7 (A4 Ψ1 maB XF) st 4 (hs.map mtv) [some v0,some (.str nm),some (.int x),some (.int b),t4,t5,t6,t7] H Q:=by
 intro hs
 induction hs with
 | nil=>intro t4 _ q;exact q rfl _
 | cons m hs ih =>
  intro t4 q1 q2
  rw [List.map_cons,g4]
  have e:R9 b (m::hs) nm x=((decide (m.no≠b)&&(m.who.contains nm&&(decide (m.hr≤x)&&decide (x<m.hr+m.sz))))||R9 b hs nm x):=List.any_cons
  rw [e] at q1 q2
  have nx:(decide (m.no≠b)&&(m.who.contains nm&&(decide (m.hr≤x)&&decide (x<m.hr+m.sz))))=false→st H∧j7 (A4 Ψ1 maB XF) st 4 (hs.map mtv) [some v0,some (.str nm),some (.int x),some (.int b),some (mtv m),t5,t6,t7] H Q:=fun h=>by
   rw [h,Bool.false_or] at q1 q2
   exact ⟨hst,ih _ q1 q2⟩
  rw [show mtv m=V.tup [.int m.no,.int m.hr,.int m.sz,.tup (m.who.map V.str)] from rfl] at nx ⊢
  refine b0 ?_
  simp_arith only [O1]
  refine ⟨fun hm=>aN7 (fun hw=>?_) (fun hw=>nx (by rw [hw,Bool.false_and,Bool.and_false])),fun h=>nx (by rw [decide_eq_false h];rfl)⟩
  refine ⟨fun h1=>⟨fun h2=>q1 (by rw [decide_eq_true hm,hw,decide_eq_true h1,decide_eq_true h2];rfl) _,fun h2=>nx (by rw [hw,decide_eq_true h1,decide_eq_false h2,decide_eq_true hm];rfl)⟩,fun h1=>?_⟩
  exact ⟨fun h=>absurd h h1,fun _=>nx (by rw [hw,decide_eq_false h1,decide_eq_true hm];rfl)⟩
theorem aL8:∀ vs H Q X,X4 vs H Q X→v8 Ψ1 f_B_meets_at vs H Q X:=by
 rintro vs H Q X ⟨k,ps,hs,nm,x,b,B,q⟩
 refine i9 rfl ?_
 change j1 Ψ1 f_B_meets_at.body [some (.ref k.b),some (.str nm),some (.int x),some (.int b),none,none,none,none] H _ _
 refine b0 ?_
 generalize hK:sqX Ψ1 (_::_)=K
 have hl:=B.lh
 simp_arith only [B.ns,B.fH,hl]
 subst hK
 refine bs7 hl hs _ (fun h L'=>?_) (fun h L'=>?_)
 ·rw [h] at q;exact q
 ·rw [h] at q;exact q
noncomputable def Ψ2:Orc:=ext (Str.ofString "Book."++Str.ofString "meets_at") X4 Ψ1
theorem bT5:Ψ2 (Str.ofString "Book."++Str.ofString "meets_at")=X4:=rfl
theorem bJ8:Ψ2 "some_covers" = J8:=rfl
inductive ao0 (H:Hp)(Q:V→Hp→Prop):List V→Prop where
 | mk (k:Bk) (ps:List Prs) (hs:List Mtg) (p:Prs) (x:Int) (b:Int):(BkAt H k ps hs)→(p∈ps)→(p.fine)→(Q (.bool (fre b hs p x)) H)→ao0 H Q ([.ref k.b,.str p.nm,.int x,.int b])
noncomputable def U2:Ctr:=fun vs H Q _=>ao0 H Q vs
theorem aV1:∀ vs H Q X,U2 vs H Q X→v8 Ψ2 f_B_free_at vs H Q X:=by
 rintro vs H Q X ⟨k,ps,hs,p,x,b,B,hp,hf,q⟩
 refine i9 rfl ?_
 refine e1_3 (B.rf.get hp) fun i k1 k2 _=>?_
 refine e1_3 (B.ru.get hp) fun i' k1' k2' _=>?_
 change j1 Ψ2 f_B_free_at.body [some (.ref k.b),some (.str p.nm),some (.int x),some (.int b),none,none,none] H _ _
 refine b0 ?_
 generalize hK:sqX Ψ2 (_::_)=K
 unfold fre at q
 simp_arith only [B.ns,↓bT5]
 refine ⟨fun h=>?_,fun h=>⟨k,ps,hs,p.nm,x,b,B,?_⟩⟩
 ·rw [decide_eq_true h] at q;subst hK;exact q
 rw [decide_eq_false h] at q
 simp_arith only [g5]
 refine aN7 (fun hm=>?_) (fun hm=>?_)
 ·rw [hm] at q;subst hK;exact q
 rw [hm] at q
 subst hK
 have h0:0≤x:=by lia
 simp_arith only [B.ns,B.fF,B.dd,k1,B.fB,B.de,k1',↓bJ8]
 refine ⟨i,p.fr,x,k2,hf.1,h0,?_⟩
 simp_arith only [g5]
 have q:Q (.bool (am3 p x)) H:=q
 unfold am3 at q
 refine aN7 (fun h=>?_) (fun h=>?_)
 ·simp_arith only [B.ns,B.fB,B.de,k1',↓bJ8]
  refine ⟨i',p.bu,x,k2',hf.2,h0,?_⟩
  rw [h,Bool.true_and] at q;exact q
 ·rw [h,Bool.false_and] at q;rw [h];exact q
noncomputable def Ψ3:Orc:=ext (Str.ofString "Book."++Str.ofString "free_at") U2 Ψ2
theorem b22:Ψ3 (Str.ofString "Book."++Str.ofString "need_somebody")=u8:=rfl
structure Some' (H:Hp)(k:Bk)(n:Nat)(ps:List Prs)(hs:List Mtg)(qs:List Prs):Prop where
 book:BkAt H k ps hs
 list:b6 H n=some (qs.map fun p=>.str p.nm)
 sub:∀ q∈qs,q∈ps
theorem Some'.pre {H H':Hp}{k:Bk}{n:Nat}{ps qs:List Prs}{hs:List Mtg}(q:H<+:H')(S:Some' H k n ps hs qs):Some' H' k n ps hs qs:=⟨S.book.pre q,b7 q S.list,S.sub⟩
theorem ai1:∀ xs:List Str,Z5 (xs.map V.str)=some xs
 | []=>rfl
 | x::r=>by
  show ((Z5 (r.map V.str)).map _)=_
  rw [ai1 r];rfl
inductive af8 (H:Hp)(Q:V→Hp→Prop):List V→Prop where
 | mk (k:Bk) (n:Nat) (ps:List Prs) (hs:List Mtg) (qs:List Prs):(Some' H k n ps hs qs)→(qs≠[])→((qs.map Prs.nm).Nodup)→(Q .none H)→af8 H Q ([.ref k.b,.ref n])
noncomputable def Y2:Ctr:=fun vs H Q _=>af8 H Q vs
theorem a16 {XF:XS}{k:Bk}{n:Nat}{ps:List Prs}{hs:List Mtg}{t3 t4 t5:Option V}{H:Hp}{Q:QS}{st:Hp→Prop}(hst:st H)(B:BkAt H k ps hs):∀ (qs:List Prs) (t2:Option V),(∀ q∈qs,q∈ps) →
  (∀ t2',Q .next [some (.ref k.b),some (.ref n),t2',t3,t4,t5] H) →
  j7 (A4 Ψ3 [(.expr (.mcall (.loc 0) "need_somebody" [(.loc 2)]))] XF) st 2 (qs.map fun p=>V.str p.nm) [some (.ref k.b),some (.ref n),t2,t3,t4,t5] H Q:=by
 intro qs
 induction qs with
 | nil=>intro t2 _ q;exact q _
 | cons p qs ih =>
  intro t2 hq q
  rw [List.map_cons,g4]
  simp_arith only [B.ns,↓b22]
  refine ⟨k,ps,hs,p.nm,B,List.mem_map_of_mem (hq p List.mem_cons_self),?_⟩
  exact ⟨hst,ih _ (fun q h=>hq q (List.mem_cons_of_mem _ h)) q⟩
theorem a40 {XF:XS}{b n:Nat}{ys:List Str}{t3 t4 t5:Option V}{H:Hp}{Q:QS}{st:Hp→Prop}(hst:st H)(hl:b6 H n=some (ys.map V.str))(hn:ys.Nodup):∀ (xs:List Str) (t2:Option V),(∀ L',Q .next L' H) →
  j7 (A4 Ψ3 [(.ite (.cmp (.meth (.loc 1) .count [(.loc 2)]) .Gt (.lit (.int 1))) [(.raise "Twice" ["Twice","HourError","ValueError"])] [])] XF) st 2 (xs.map V.str) [some (.ref b),some (.ref n),t2,t3,t4,t5] H Q:=by
 intro xs
 induction xs with
 | nil=>intro t2 q;exact q _
 | cons x xs ih =>
  intro t2 q
  rw [List.map_cons,g4]
  simp_arith only [↓G5,↓r9,↓F8,↓X2,↓E9,↓W7,↓F0,hl,ai1]
  refine ⟨⟨_,hl⟩,fun h=>absurd h ?_,fun _=>⟨hst,ih _ q⟩⟩
  have:=List.nodup_iff_count.mp hn x
  lia
theorem aN4:∀ vs H Q X,Y2 vs H Q X→v8 Ψ3 f_B_need_all vs H Q X:=by
 rintro vs H Q X ⟨k,n,ps,hs,qs,S,hne,hn,q⟩
 refine i9 rfl ?_
 have hl:=S.list
 change j1 Ψ3 f_B_need_all.body [some (.ref k.b),some (.ref n),none,none,none,none] H _ _
 refine b0 ?_
 generalize hK:sqX Ψ3 (_::_)=K
 simp_arith only [hl]
 refine ⟨fun h=>absurd h ?_,fun _=>?_⟩
 ·have:=List.length_pos_iff.mpr hne
  rw [List.length_map];lia
 subst hK
 refine b0 ?_
 generalize hK:sqX Ψ3 (_::_)=K
 simp_arith only [hl]
 subst hK
 refine a16 hl S.book qs _ S.sub fun t2'=>?_
 refine b0 ?_
 generalize hK:sqX Ψ3 []=K
 rw [af4] at hl
 simp_arith only [hl]
 subst hK
 exact a40 hl hl hn _ _ fun L'=>q
noncomputable def Ψ4:Orc:=ext (Str.ofString "Book."++Str.ofString "need_all") Y2 Ψ3
theorem b75:Ψ4 (Str.ofString "Book."++Str.ofString "need_somebody")=u8:=rfl
theorem bV3:Ψ4 (Str.ofString "Book."++Str.ofString "free_at")=U2:=rfl
inductive am6 (H:Hp)(Q:V→Hp→Prop):List V→Prop where
 | mk (k:Bk) (ps:List Prs) (hs:List Mtg) (p:Prs) (x:Int):BkAt H k ps hs→p∈ps→p.fine→Q (.bool (fre 0 hs p x)) H→am6 H Q [.ref k.b,.str p.nm,.int x]
noncomputable def ae0:Ctr:=fun vs H Q _=>am6 H Q vs
theorem aR3:∀ vs H Q X,ae0 vs H Q X→v8 Ψ4 f_B_is_free vs H Q X:=by
 rintro vs H Q X ⟨k,ps,hs,p,x,B,hp,hf,q⟩
 refine i9 rfl ?_
 change j1 Ψ4 f_B_is_free.body [some (.ref k.b),some (.str p.nm),some (.int x),none,none,none] H _ _
 refine b0 ?_
 generalize hK:sqX Ψ4 (_::_)=K
 simp_arith only [B.ns,↓b75]
 refine ⟨k,ps,hs,p.nm,B,List.mem_map_of_mem hp,?_⟩
 subst hK
 simp_arith only [B.ns,↓bV3]
 exact ⟨k,ps,hs,p,x,0,B,hp,hf,q⟩
noncomputable def Ψf:Orc:=ext (Str.ofString "Book."++Str.ofString "is_free") ae0 Ψ4
theorem ce4:Ψf (Str.ofString "Book."++Str.ofString "free_at")=U2:=rfl
end Mine
namespace Mine
open PySem
noncomputable abbrev nmL (qs:List Prs):List V:=qs.map fun p=>.str p.nm
noncomputable def NmAt (H:Hp)(v:V)(qs:List Prs):Prop:=(∃ n,v=.ref n∧b6 H n=some (nmL qs))∨v=.tup (nmL qs)
theorem NmAt.pre {H H':Hp}{v:V}{qs:List Prs}(p:H<+:H')(h:NmAt H v qs):NmAt H' v qs:=by
 rcases h with ⟨n,e,h⟩|e
 ·exact .inl ⟨n,e,b7 p h⟩
 ·exact .inr e
structure Som (H:Hp)(k:Bk)(v:V)(ps:List Prs)(hs:List Mtg)(qs:List Prs):Prop where
 book:BkAt H k ps hs
 list:NmAt H v qs
 sub:∀ q∈qs,q∈ps∧q.fine
theorem Som.pre {H H':Hp}{k:Bk}{v:V}{ps qs:List Prs}{hs:List Mtg}(q:H<+:H')(S:Som H k v ps hs qs):Som H' k v ps hs qs:=⟨S.book.pre q,S.list.pre q,S.sub⟩
theorem Some'.som {H:Hp}{k:Bk}{n:Nat}{ps qs:List Prs}{hs:List Mtg}(S:Some' H k n ps hs qs)(hf:∀ q∈qs,q.fine):Som H k (.ref n) ps hs qs:=⟨S.book,.inl ⟨n,rfl,S.list⟩,fun q hq=>⟨S.sub q hq,hf q hq⟩⟩
noncomputable def gd (b:Int)(hs:List Mtg)(qs:List Prs)(x:Int):Bool:=qs.all fun p=>fre b hs p x
noncomputable def okW (G:Int→Bool)(hours a:Int):Prop:=∀ x,a≤x→x<a+hours→G x=true
noncomputable def IsFirst (G:Int→Bool)(hours lo last:Int)(v:V):Prop :=
 (∃ a,v=.int a∧lo≤a∧a≤last∧okW G hours a∧∀ x,lo≤x→x<a→¬ okW G hours x)∨(v=.none∧∀ x,lo≤x→x≤last→¬ okW G hours x)
inductive be1 (H:Hp)(Q:V→Hp→Prop):List V→Prop where
 | mk (k:Bk) (v1:V) (ps:List Prs) (hs:List Mtg) (qs:List Prs) (hours a b:Int):Som H k v1 ps hs qs→m7 hours→0≤a→a<2 ^ 50→(okW (gd b hs qs) hours a→Q .none H)→(∀ nm x,a≤x→x<a+hours→gd b hs qs x=false→Q (.tup [.str nm,.int x]) H)→be1 H Q [.ref k.b,v1,.int hours,.int a,.int b]
noncomputable def bt3:Ctr:=fun vs H Q _=>be1 H Q vs
noncomputable abbrev baB:List IS:=[(.ite (.not (.mcall (.loc 0) "free_at" [(.loc 7),(.loc 6),(.loc 4)])) [(.ret (.tup [(.loc 7),(.loc 6)]))] [])]
theorem cg6 {XF:XS}{k:Bk}{v1:V}{ps:List Prs}{hs:List Mtg}{x b:Int}{v2 v3:V}{t5 t8 t9 t10:Option V}{H:Hp}{Q:QS}{st:Hp→Prop}(hst:st H)(B:BkAt H k ps hs):∀ (qs:List Prs) (t7:Option V),(∀ q∈qs,q∈ps∧q.fine) →
  (∀ nm,(qs.all fun p=>fre b hs p x)=false→∀ L',Q (.ret (.tup [.str nm,.int x])) L' H)→((qs.all fun p=>fre b hs p x)=true→∀ t7',Q .next [some (.ref k.b),some v1,some v2,some v3,some (.int b),t5,some (.int x),t7',t8,t9,t10] H) →
  j7 (A4 Ψf baB XF) st 7 (qs.map fun p=>V.str p.nm) [some (.ref k.b),some v1,some v2,some v3,some (.int b),t5,some (.int x),t7,t8,t9,t10] H Q:=by
 intro qs
 induction qs with
 | nil=>intro t7 _ _ q;exact q rfl _
 | cons p qs ih =>
  intro t7 hq q1 q2
  rw [List.map_cons,g4]
  rw [List.all_cons] at q1 q2
  simp_arith only [B.ns,↓ce4]
  refine ⟨k,ps,hs,p,x,b,B,(hq p List.mem_cons_self).1,(hq p List.mem_cons_self).2,?_⟩
  simp_arith only [g5]
  cases h:fre b hs p x with
  | true =>
   rw [h,Bool.true_and] at q1 q2
   exact ⟨hst,ih _ (fun q h=>hq q (List.mem_cons_of_mem _ h)) q1 q2⟩
  | false=>exact q1 _ (by rw [h];rfl) _
noncomputable abbrev boB:List IS:=[(.assign 6 (.bin .Sub (.bin .Add (.loc 3) (.loc 2)) (.loc 5))),(.for 7 .val (.loc 1) baB)]
theorem bI2 {XF:XS}{k:Bk}{v1:V}{ps qs:List Prs}{hs:List Mtg}{hours a b:Int}{t8 t9 t10:Option V}{H:Hp}{Q:QS}(S:Som H k v1 ps hs qs):∀ (ks:List Int) (t5 t6 t7:Option V),(∀ k∈ks,1≤k∧k≤hours) →
  (∀ nm x,a≤x→x<a+hours→gd b hs qs x=false→∀ L',Q (.ret (.tup [.str nm,.int x])) L' H)→((∀ k∈ks,gd b hs qs (a+hours-k)=true)→∀ L',Q .next L' H) →
  j7 (A4 Ψf boB XF) (fun _=>True) 5 (ks.map V.int) [some (.ref k.b),some v1,some (.int hours),some (.int a),some (.int b),t5,t6,t7,t8,t9,t10] H Q:=by
 intro ks
 have hl:=S.list
 induction ks with
 | nil=>intro t5 t6 t7 _ _ q;exact q (fun _ h=>nomatch h) _
 | cons j ks ih =>
  intro t5 t6 t7 hk q1 q2
  have hk0:=hk j List.mem_cons_self
  rw [List.map_cons,g4]
  refine d7 ?_
  simp_arith only [g5]
  refine b0 ?_
  have run:∀ (st:Hp→Prop),st H→j7 (A4 Ψf baB XF) st 7 (nmL qs) [some (.ref k.b),some v1,some (.int hours),some (.int a),some (.int b),some (.int j),some (.int (a+hours-j)),t7,t8,t9,t10] H (sqX Ψf [] (fkX (A4 Ψf boB XF) (fun _=>True) 5 (ks.map V.int) Q) XF):=fun st hst=>?_
  ·rw [aJ3]
   rcases hl with ⟨n,rfl,hl⟩|rfl
   ·show oK (b6 H n) _
    rw [hl];exact run _ hl
   ·exact run _ trivial
  refine cg6 hst S.book qs _ S.sub (fun nm h L'=>q1 nm _ (by lia) (by lia) h L') fun h t7'=>?_
  exact ⟨trivial,ih _ _ _ (fun k' h=>hk k' (List.mem_cons_of_mem _ h)) q1 fun hks=>q2 fun k' hk'=>by
   rcases List.mem_cons.mp hk' with q|q
   ·rw [q];exact h
   ·exact hks k' q⟩
theorem bX2:∀ vs H Q X,bt3 vs H Q X→v8 Ψf f_B_bar vs H Q X:=by
 rintro vs H Q X ⟨k,v1,ps,hs,qs,hours,a,b,S,hh,h0,h1,q1,q2⟩
 refine i9 rfl ?_
 have e1:=hh.1
 have e2:=hh.2
 change j1 Ψf f_B_bar.body [some (.ref k.b),some v1,some (.int hours),some (.int a),some (.int b),none,none,none,none,none,none] H _ _
 refine d7 ?_
 simp_arith only [g5]
 refine ⟨⟨by lia,by lia⟩,?_⟩
 rw [C5]
 refine bI2 S _ _ _ _ (fun k hk=>?_) (fun nm x k1 k2 k3 L'=>q2 nm x k1 k2 k3) fun h L'=>q1 fun x k1 k2=>?_
 ·have:=q9.mp hk;lia
 ·have:=h (a+hours-x) (q9.mpr (by lia))
  rw [show a+hours-(a+hours-x)=x by lia] at this
  exact this
noncomputable def Ψ5:Orc:=ext (Str.ofString "Book."++Str.ofString "bar") bt3 Ψf
theorem b38:Ψ5 (Str.ofString "Book."++Str.ofString "bar")=bt3:=rfl
inductive aZ6 (H:Hp)(Q:V→Hp→Prop):List V→Prop where
 | mk (k:Bk) (v1:V) (ps:List Prs) (hs:List Mtg) (qs:List Prs) (hours lo last b:Int):Som H k v1 ps hs qs→m7 hours→0≤lo→lo<2 ^ 45→last≤lo+100000→(∀ v rows,IsFirst (gd b hs qs) hours lo last v→Q (.tup [v,.ref H.length]) (H++[.list rows]))→aZ6 H Q [.ref k.b,v1,.int hours,.int lo,.int last,.int b]
noncomputable def aH9:Ctr:=fun vs H Q _=>aZ6 H Q vs
noncomputable abbrev loT:IE:=.cmp (.loc 3) .LtE (.loc 4)
noncomputable abbrev loB:List IS:=bdy (f_B_look.body.getD 1 .fail)
theorem bg1 {k:Bk}{v1:V}{ps qs:List Prs}{hs:List Mtg}{hours lo last b:Int}{t8 t9 t10:Option V}{H:Hp}{Q:QS}(S:Som H k v1 ps hs qs)(hh:m7 hours)(h0:0≤lo)(hl:lo<2 ^ 45)(hla:last≤lo+100000)
  (q1:∀ a rows L',IsFirst (gd b hs qs) hours lo last (.int a)→Q (.ret (.tup [.int a,.ref H.length])) L' (H++[.list rows]))
  (q2:∀ rows t3 t7,IsFirst (gd b hs qs) hours lo last .none→Q .next [some (.ref k.b),some v1,some (.int hours),t3,some (.int last),some (.int b),some (.ref H.length),t7,t8,t9,t10] (H++[.list rows])):∀ (z:Nat) (a:Int) (rows:List V) (t7:Option V),
  last+1-a<(z:Int)→lo≤a→a≤lo+200000→rows.length+z≤1000000→(∀ x,lo≤x→x<a→¬ okW (gd b hs qs) hours x) →
  z5 (a39 Ψ5 loT noX) (A4 Ψ5 loB aR0) z [some (.ref k.b),some v1,some (.int hours),some (.int a),some (.int last),some (.int b),some (.ref H.length),t7,t8,t9,t10] (H++[.list rows]) Q∨z=0:=by
 intro z
 have e1:=hh.1
 have e2:=hh.2
 induction z with
 | zero=>intro a rows t7 _ _ _ _ _;exact .inr rfl
 | succ z ih =>
  intro a rows t7 hk ha ha2 hz hno
  refine .inl ?_
  have S':=S.pre (b8 (o:=.list rows))
  have hns:=S'.book.ns
  rw [ab5]
  show ifP (decide (a≤last)) _ _
  refine bw7 (fun hle=>?_) (fun hle=>?_)
  ·refine d7 ?_
   simp_arith only [hns,↓b38]
   refine ⟨k,v1,ps,hs,qs,hours,a,b,S',hh,by lia,by lia,fun hok=>?_,fun nm x k1 k2 k3=>?_⟩
   ·refine d7 ?_
    simp_arith only [w8]
    exact q1 a rows _ (.inl ⟨a,rfl,ha,hle,hok,hno⟩)
   ·refine d7 ?_
    simp_arith only [w8]
    refine d7 ?_
    simp_arith only [b5,aO2]
    refine ⟨⟨_,b5⟩,by lia,?_⟩
    refine j3 ?_
    simp_arith only [g5]
    have no:∀ y,lo≤y→y<x+1→¬ okW (gd b hs qs) hours y:=fun y y1 y2 hy=>by
     by_cases hya:y<a
     ·exact hno y y1 hya hy
     ·have:=hy x (by lia) (by lia)
      rw [k3] at this;exact Bool.noConfusion this
    rcases ih (x+1) (rows++[.tup [.int a,.int (min last x),.str nm,.int x]]) (some (.tup [.str nm,.int x])) (by lia) (by lia) (by lia) (by rw [List.length_append,List.length_singleton];lia) no with h|h
    ·exact h
    ·lia
  ·exact q2 rows _ _ (.inr ⟨rfl,fun x x1 x2=>hno x x1 (by lia)⟩)
theorem bP3:∀ vs H Q X,aH9 vs H Q X→v8 Ψ5 f_B_look vs H Q X:=by
 rintro vs H Q X ⟨k,v1,ps,hs,qs,hours,lo,last,b,S,hh,h0,h1,h2,q⟩
 refine i9 rfl ?_
 change j1 Ψ5 f_B_look.body [some (.ref k.b),some v1,some (.int hours),some (.int lo),some (.int last),some (.int b),none,none,none,none,none] H _ _
 refine d7 ?_
 simp_arith only [g5]
 refine b0 ?_
 rw [T9]
 refine ⟨(last+1-lo).toNat+1,(bg1 S hh h0 h1 h2 (fun a rows L' h=>q _ rows h) (fun rows t3 t7 h=>?_) _ lo [] _ (by lia) (by lia) (by lia) (by show 0+_≤_;lia) (fun x x1 x2=>by lia)).resolve_right (by lia)⟩
 simp_arith only [g5]
 exact q _ rows h
noncomputable def Ψ6:Orc:=ext (Str.ofString "Book."++Str.ofString "look") aH9 Ψ5
theorem bZ5:Ψ6 (Str.ofString "Book."++Str.ofString "need_all")=Y2:=rfl
theorem b91:Ψ6 "need_stretch" = B7:=rfl
theorem ch1:Ψ6 (Str.ofString "Book."++Str.ofString "look")=aH9:=rfl
structure Can (hours lo hi:Int):Prop where
 hh:m7 hours
 hl:x7 lo
 hu:x7 hi
 le:lo≤hi
 ge:hi≤lo+10000
inductive aG6 (H:Hp)(Q:V→Hp→Prop):List V→Prop where
 | mk (k:Bk) (n:Nat) (ps:List Prs) (hs:List Mtg) (qs:List Prs) (hours lo hi:Int):Some' H k n ps hs qs→(∀ q∈qs,q.fine)→qs≠[]→(qs.map Prs.nm).Nodup→Can hours lo hi→(∀ v rows,IsFirst (gd 0 hs qs) hours lo (hi-hours) v→Q (.tup [v,.ref H.length]) (H++[.list rows]))→aG6 H Q [.ref k.b,.ref n,.int hours,.int lo,.int hi]
noncomputable def ap9:Ctr:=fun vs H Q _=>aG6 H Q vs
theorem bu9:∀ vs H Q X,ap9 vs H Q X→v8 Ψ6 W0 vs H Q X:=by
 rintro vs H Q X ⟨k,n,ps,hs,qs,hours,lo,hi,S,hf,hne,hn,C,q⟩
 refine i9 rfl ?_
 have hns:=S.book.ns
 have e1:=C.hh.1
 have e2:=C.hl.1
 have e3:=C.hl.2
 have e4:=C.ge
 simp_arith only [W0,E2,List.map_cons,List.map_nil,List.replicate,List.cons_append,List.nil_append,hns,↓bZ5]
 refine ⟨k,n,ps,hs,qs,S,hne,hn,?_⟩
 simp_arith only [↓b91]
 refine ⟨hours,lo,hi,C.hh,C.hl,C.hu,C.le,C.ge,?_⟩
 simp_arith only [hns,↓ch1]
 exact ⟨k,_,ps,hs,qs,hours,lo,hi-hours,0,S.som hf,C.hh,e2,by lia,by lia,q⟩
noncomputable def Ψ7:Orc:=ext (Str.ofString "Book."++Str.ofString "first") ap9 Ψ6
noncomputable def Y8:Ctr:=fun vs H Q _=>∃ (k:Bk) (ps:List Prs) (hs:List Mtg),vs=[.ref k.b]∧BkAt H k ps hs∧Q (.ref H.length) (H++[.list (hs.map mtv)])
theorem aK2:∀ vs H Q X,Y8 vs H Q X→v8 Ψ7 F5 vs H Q X:=by
 rintro vs H Q X ⟨k,ps,hs,rfl,B,q⟩
 refine i9 rfl ?_
 simp_arith only [F5,E2,List.map_cons,List.map_nil,List.replicate,List.cons_append,List.nil_append,B.ns,B.fH,B.lh]
 exact q
noncomputable def Ψ8:Orc:=ext (Str.ofString "Book."++Str.ofString "meetings") Y8 Ψ7
end Mine
namespace Mine
open PySem
theorem bT8:Ψ8 (Str.ofString "Book."++Str.ofString "first")=ap9:=rfl
structure ck0 (k:Bk):Prop where
 bj:k.b≠k.j
 bn:k.b≠k.n
 bh:k.b≠k.h
 bd:k.b≠k.d
 be:k.b≠k.e
 jn:k.j≠k.n
 jh:k.j≠k.h
 jd:k.j≠k.d
 je:k.j≠k.e
 nh:k.n≠k.h
 nd:k.n≠k.d
 ne:k.n≠k.e
 hd:k.h≠k.d
 he:k.h≠k.e
 de:k.d≠k.e
 ls:∀ i∈k.fl++k.ul,i≠k.b∧i≠k.j∧i≠k.n∧i≠k.h∧i≠k.d∧i≠k.e
 ll:(k.fl++k.ul).Nodup
theorem bP5 {k:Bk}(h:k.foot.Nodup):ck0 k:=by
 refine j4 (List.nodup_cons.mp h) fun h1 h=>?_
 refine j4 (List.nodup_cons.mp h) fun h2 h=>?_
 refine j4 (List.nodup_cons.mp h) fun h3 h=>?_
 refine j4 (List.nodup_cons.mp h) fun h4 h=>?_
 refine j4 (List.nodup_cons.mp h) fun h5 h=>?_
 refine j4 (List.nodup_cons.mp h) fun h6 h=>?_
 rw [List.mem_cons,List.mem_cons,List.mem_cons,List.mem_cons,List.mem_cons,not_or,not_or,not_or,not_or,not_or] at h1
 rw [List.mem_cons,List.mem_cons,List.mem_cons,List.mem_cons,not_or,not_or,not_or,not_or] at h2
 rw [List.mem_cons,List.mem_cons,List.mem_cons,not_or,not_or,not_or] at h3
 rw [List.mem_cons,List.mem_cons,not_or,not_or] at h4
 rw [List.mem_cons,not_or] at h5
 exact ⟨h1.1,h1.2.1,h1.2.2.1,h1.2.2.2.1,h1.2.2.2.2.1,h2.1,h2.2.1,h2.2.2.1,h2.2.2.2.1,h3.1,h3.2.1,h3.2.2.1,h4.1,h4.2.1,h5.1,fun i hi=>⟨fun q=>h1.2.2.2.2.2 (q▸hi),fun q=>h2.2.2.2.2 (q▸hi),fun q=>h3.2.2.2 (q▸hi),fun q=>h4.2.2 (q▸hi),fun q=>h5.2 (q▸hi),fun q=>h6 (q▸hi)⟩,h⟩
theorem aI2 {H:Hp}{b j:Nat}{fs gs:List (Str × V)}(h:au4 H b=some (j,fs))(hb:b≠j):au4 (H.set j (.ns gs)) b=some (j,gs):=by
 refine j4 (ae8 h) fun h1 h2=>?_
 unfold au4
 rw [List.getElem?_set_ne (Ne.symm hb),h1]
 show (((H.set j (.ns gs))[j]?).bind nsO).map _=_
 rw [List.getElem?_set_self (Z0 h2)];rfl
theorem j8 {H:Hp}{n:Nat}{l m:List V}(h:b6 H n=some l):b6 (H.set n (.list m)) n=some m:=by
 refine e1_2 (Option.bind_eq_some_iff.mp h) fun o e _=>?_
 unfold b6
 rw [List.getElem?_set_self (Z0 e)];rfl
theorem w6 {H:Hp}{n m:Nat}{o:O}(h:n≠m):b6 (H.set n o) m=b6 H m:=by
 unfold b6;rw [List.getElem?_set_ne h]
theorem bV1 {v:V}{fs:List (Str × V)}:List.lookup (Str.ofString "given") ((Str.ofString "given",v)::fs)=some v:=by rw [List.lookup_cons,beq_self_eq_true]
theorem bJ6 {x:Str}{v:V}{fs:List (Str × V)}(h:(x==Str.ofString "given")=false):List.lookup x ((Str.ofString "given",v)::fs)=fs.lookup x:=by rw [List.lookup_cons,h]
theorem g_n:(Str.ofString "names"==Str.ofString "given")=false:=by decide
theorem g_h:(Str.ofString "held"==Str.ofString "given")=false:=by decide
theorem g_f:(Str.ofString "free_rules"==Str.ofString "given")=false:=by decide
theorem g_b:(Str.ofString "busy_rules"==Str.ofString "given")=false:=by decide
inductive aR7 (H:Hp)(Q:V→Hp→Prop):List V→Prop where
 | mk (k:Bk) (n:Nat) (ps:List Prs) (hs:List Mtg) (qs:List Prs) (hours lo hi:Int):Some' H k n ps hs qs→(∀ q∈qs,q.fine)→qs≠[]→(qs.map Prs.nm).Nodup→Can hours lo hi→n∉k.foot→hs.length≤1000→k.c≤1000 →
   (∀ H',H<+:H'→IsFirst (gd 0 hs qs) hours lo (hi-hours) .none→Q .none H') →
   (∀ (a:Int) (k':Bk) (H':Hp),IsFirst (gd 0 hs qs) hours lo (hi-hours) (.int a)→Fr k.foot H H'→k'.foot=k.foot→k'.b=k.b→k'.g=k.g+1→k'.c=k.c+1→BkAt H' k' ps (hs++[⟨k.g+1,a,hours,qs.map Prs.nm⟩])→Q (.tup [.int (k.g+1),.int a]) H')→aR7 H Q [.ref k.b,.ref n,.int hours,.int lo,.int hi]
noncomputable def aE1:Ctr:=fun vs H Q _=>aR7 H Q vs
theorem IsFirst.kind {G:Int→Bool}{hours lo last:Int}{v:V}(h:IsFirst G hours lo last v):v=.none∨∃ a,v=.int a:=by
 rcases h with ⟨a,rfl,_⟩|⟨rfl,_⟩
 ·exact .inr ⟨a,rfl⟩
 ·exact .inl rfl
theorem bO9:∀ vs H Q X,aE1 vs H Q X→v8 Ψ8 f_B_meet vs H Q X:=by
 rintro vs H Q X ⟨k,n,ps,hs,qs,hours,lo,hi,S,hf,hne,hnd,C,hn,hz,hc,q1,q3⟩
 refine i9 rfl ?_
 have B0:=S.book
 have hl0:=S.list
 change j1 Ψ8 f_B_meet.body [some (.ref k.b),some (.ref n),some (.int hours),some (.int lo),some (.int hi),none,none,none,none] H _ _
 refine b0 ?_
 generalize hK:sqX Ψ8 (_::_)=K
 simp_arith only [B0.ns,↓bT8]
 refine ⟨k,n,ps,hs,qs,hours,lo,hi,S,hf,hne,hnd,C,fun v rows F=>?_⟩
 simp_arith only [g5]
 subst hK
 rcases F.kind with rfl|⟨a0,rfl⟩
 ·refine b0 ?_
  generalize hK:sqX Ψ8 (_::_)=K
  simp_arith only [w8]
  subst hK
  exact q1 _ b8 F
 have B:=B0.pre (b8 (o:=.list rows))
 have hl:=b7 (b8 (o:=.list rows)) hl0
 have fr1:Fr k.foot H (H++[.list rows]):=Fr.pre b8
 have p1:H<+:H++[.list rows]:=b8
 generalize H++[O.list rows]=H1 at *
 refine b0 ?_
 generalize hK:sqX Ψ8 (_::_)=K
 simp_arith only [w8]
 subst hK
 have N:=bP5 B.nd
 have hb:=B.z
 refine b0 ?_
 generalize hK:sqX Ψ8 (_::_)=K
 simp_arith only [B.ns,B.fG]
 refine ⟨by lia,?_⟩
 subst hK
 have ns2:=aI2 (gs:=(Str.ofString "given",.int (k.g+1))::k.fs) B.ns N.bj
 have f2:Fr [k.j] H1 (H1.set k.j (.ns ((Str.ofString "given",.int (k.g+1))::k.fs))):=Fr.set
 generalize hH2:H1.set k.j (.ns ((Str.ofString "given",.int (k.g+1))::k.fs))=H2 at *
 have lh2:=f2.list (m6 (Ne.symm N.jh)) B.lh
 have ln2:=f2.list (m6 (fun q=>hn (by rw [q];exact bL6))) hl
 refine b0 ?_
 generalize hK:sqX Ψ8 (_::_)=K
 simp_arith only [ns2,bJ6 g_h,bV1,B.fH,lh2,ln2]
 refine ⟨⟨_,lh2⟩,by rw [List.length_map];lia,?_⟩
 subst hK
 have f3:Fr [k.h] H2 (H2.set k.h (.list (hs.map mtv++[.tup [.int (k.g+1),.int a0,.int hours,.tup (qs.map fun p=>.str p.nm)]]))):=Fr.set
 have ns3:=f3.ns (m6 N.bh) (m6 N.jh) ns2
 have lh3:b6 (H2.set k.h (.list (hs.map mtv++[.tup [.int (k.g+1),.int a0,.int hours,.tup (qs.map fun p=>.str p.nm)]]))) k.h=some _:=j8 lh2
 generalize H2.set k.h (.list (hs.map mtv++[.tup [.int (k.g+1),.int a0,.int hours,.tup (qs.map fun p=>.str p.nm)]]))=H3 at *
 simp_arith only [ns3,bV1]
 refine q3 a0 { k with fs:=(Str.ofString "given",.int (k.g+1))::k.fs,g:=k.g+1,c:=k.c+1 } H3 F ((fr1.trans f2 fun i hi=>.inl (by rw [List.mem_singleton.mp hi];exact bL6)).trans f3 fun i hi=>.inl (by rw [List.mem_singleton.mp hi];exact bT4)) rfl rfl rfl rfl ?_
 have tl:∀ {i l},i≠k.j→i≠k.h→b6 H1 i=some l→b6 H3 i=some l:=fun h1 h2 h=>f3.list (m6 h2) (f2.list (m6 h1) h)
 have td:∀ {i l},i≠k.j→i≠k.h→j6 H1 i=some l→j6 H3 i=some l:=fun h1 h2 h=>f3.dict (m6 h2) (f2.dict (m6 h1) h)
 have g0:=B.g0
 refine ⟨B.nd,ns3,(bJ6 g_n).trans B.fN,(bJ6 g_h).trans B.fH,(bJ6 g_f).trans B.fF,(bJ6 g_b).trans B.fB,bV1,tl (Ne.symm N.jn) N.nh B.ln,?_,td (Ne.symm N.jd) (Ne.symm N.hd) B.dd,td (Ne.symm N.je) (Ne.symm N.he) B.de,(B.rf.fr f2 fun i hi=>m6 (N.ls i (List.mem_append_left _ hi)).2.1).fr f3 fun i hi=>m6 (N.ls i (List.mem_append_left _ hi)).2.2.2.1,
  (B.ru.fr f2 fun i hi=>m6 (N.ls i (List.mem_append_right _ hi)).2.1).fr f3 fun i hi=>m6 (N.ls i (List.mem_append_right _ hi)).2.2.2.1,by show 0≤k.g+1;lia,fun m hm=>?_,?_,Nat.succ_le_succ B.z,B.ze,B.zu⟩
 ·rw [lh3,List.map_append,show [(⟨k.g+1,a0,hours,qs.map Prs.nm⟩:Mtg)].map mtv=[.tup [.int (k.g+1),.int a0,.int hours,.tup ((qs.map Prs.nm).map V.str)]] from rfl,←af4]
 ·rcases List.mem_append.mp hm with h|h
  ·have:=B.no m h;exact ⟨this.1,by show m.no≤k.g+1;lia⟩
  ·rw [List.mem_singleton.mp h];show 0<k.g+1∧k.g+1≤k.g+1;lia
 ·rw [List.map_append]
  refine List.nodup_append.mpr ⟨B.nu,List.nodup_cons.mpr ⟨List.not_mem_nil,List.nodup_nil⟩,fun x hx y hy=>?_⟩
  refine e1_2 (List.mem_map.mp hx) fun m hm e_286=>?_
  obtain rfl:=e_286
  rw [List.mem_singleton.mp hy]
  have:=B.no m hm
  show m.no≠k.g+1;lia
noncomputable def Ψm:Orc:=ext (Str.ofString "Book."++Str.ofString "meet") aE1 Ψ8
end Mine
namespace Mine
open PySem
theorem as0 {H X:Hp}{k:Nat}:(H++X)[H.length+k]? = X[k]?:=by
 rw [List.getElem?_append_right (Nat.le_add_right _ _),Nat.add_sub_cancel_left]
theorem a63 {H X:Hp}:(H++X)[H.length]? = X[0]?:=as0 (k:=0)
theorem bm0 {H X:Hp}{k:Nat}{o:O}:(H++X).set (H.length+k) o=H++X.set k o:=by
 rw [List.set_append_right _ _ (Nat.le_add_right _ _),Nat.add_sub_cancel_left]
theorem a36 {H X:Hp}{o:O}:(H++X).set H.length o=H++X.set 0 o:=bm0 (k:=0)
theorem aG2 {H X:Hp}{k:Nat}:b6 (H++X) (H.length+k)=b6 X k:=by unfold b6;rw [as0]
theorem ab7 {H X:Hp}{k:Nat}:j6 (H++X) (H.length+k)=j6 X k:=by unfold j6;rw [as0]
theorem bc9 {H X:Hp}{fs:List (Str × V)}:au4 (H++(.ns fs::.inst H.length::X)) (H.length+1)=some (H.length,fs):=by
 unfold au4
 rw [as0]
 show (((H++_)[H.length]?).bind nsO).map _=_
 rw [a63];rfl
noncomputable def bkF (n:Nat):List (Str × V):=[(Str.ofString "given",.int 0),(Str.ofString "held",.ref (n+5)),(Str.ofString "busy_rules",.ref (n+4)),(Str.ofString "free_rules",.ref (n+3)),(Str.ofString "names",.ref (n+2))]
noncomputable def bk0 (n:Nat):Bk:=⟨n+1,n,n+2,n+5,n+3,n+4,bkF n,[],[],[],[],0,5⟩
theorem bI3 (n:Nat):(bk0 n).foot=[1,0,2,5,3,4].map (n + ·):=rfl
theorem bA5 {H:Hp}:BkAt (H++[.ns (bkF H.length),.inst H.length,.list [],.dict [],.dict [],.list []]) (bk0 H.length) [] []:=by
 refine ⟨?_,bc9,by rfl,by rfl,by rfl,by rfl,by rfl,aG2,aG2,ab7,ab7,rfl,rfl,Int.le_refl _,fun _ h=>(nomatch h),List.nodup_nil,Nat.le_refl _,rfl,rfl⟩
 rw [bI3]
 exact List.Pairwise.map (H.length + ·) (fun a b h q=>h (Nat.add_left_cancel q)) (show [1,0,2,5,3,4].Nodup by decide)
noncomputable def aT4:Ctr:=fun vs H Q _=>∃ H0:Hp,vs=[.ref (H0.length+1)]∧H=H0++[.ns []]++[.inst H0.length]∧∀ (H':Hp) (k:Bk),H0<+:H'→k.b=H0.length+1→k.g=0→k.c=5→(∀ i∈k.foot,H0.length≤i)→BkAt H' k [] []→Q .none H'
theorem bD6:∀ vs H Q X,aT4 vs H Q X→v8 Ψm G3 vs H Q X:=by
 rintro vs H Q X ⟨H0,rfl,rfl,q⟩
 refine i9 rfl ?_
 simp_arith only [G3,E2,List.map_cons,List.map_nil,List.replicate,List.cons_append,List.nil_append,List.append_assoc,List.length_append,bc9,a36]
 exact q _ (bk0 H0.length) (List.prefix_append _ _) rfl rfl rfl (fun i hi=>by rw [bI3] at hi;obtain ⟨j,_,rfl⟩:=List.mem_map.mp hi;exact Nat.le_add_right _ _) bA5
noncomputable def Ψ9:Orc:=ext "Book.__init__" aT4 Ψm
theorem bU5:Ψ9 "is_name" = ag1:=rfl
theorem b80:Ψ9 "is_rule" = V2:=rfl
theorem ah8 {H:Hp}{i:Nat}{l:List (Str × V)}(h:j6 H i=some l):i<H.length:=by
 refine e1_2 (Option.bind_eq_some_iff.mp h) fun o e _=>?_
 exact Z0 e
theorem G9 {H:Hp}{n:Nat}{l m:List (Str × V)}(h:j6 H n=some l):j6 (H.set n (.dict m)) n=some m:=by
 unfold j6
 rw [List.getElem?_set_self (ah8 h)];rfl
theorem RlAt.lt {H:Hp}{es:List (Str × V)}{f:Prs→List Rl}:∀ {ps:List Prs} {is:List Nat},RlAt H es f ps is→∀ i∈is,i<H.length
 | [],_,h,i,hi=>by rw [show _=[] from h] at hi;exact nomatch hi
 | _::_,_,⟨i,js,e,h1,h2,r⟩,j,hj=>by
  rw [e] at hj
  rcases List.mem_cons.mp hj with q|q
  ·rw [q];exact f9 h2
  ·exact r.lt j q
theorem BkAt.lt {H:Hp}{k:Bk}{ps:List Prs}{hs:List Mtg}(B:BkAt H k ps hs):∀ i∈k.foot,i<H.length:=fun i hi=>by
 refine j4 (ae8 B.ns) fun h1 h2=>?_
 rcases List.mem_cons.mp hi with q|hi
 ·rw [q];exact Z0 h1
 rcases List.mem_cons.mp hi with q|hi
 ·rw [q];exact Z0 h2
 rcases List.mem_cons.mp hi with q|hi
 ·rw [q];exact f9 B.ln
 rcases List.mem_cons.mp hi with q|hi
 ·rw [q];exact f9 B.lh
 rcases List.mem_cons.mp hi with q|hi
 ·rw [q];exact ah8 B.dd
 rcases List.mem_cons.mp hi with q|hi
 ·rw [q];exact ah8 B.de
 rcases List.mem_append.mp hi with q|q
 ·exact B.rf.lt i q
 ·exact B.ru.lt i q
theorem RlAt.app {H:Hp}{es:List (Str × V)}{f:Prs→List Rl}{p:Prs}{i:Nat}(h1:es.lookup p.nm=some (.ref i))(h2:b6 H i=some ((f p).map rv)):∀ {ps:List Prs} {is:List Nat},RlAt H es f ps is→RlAt H es f (ps++[p]) (is++[i])
 | [],is,h=>by obtain rfl:=h;exact ⟨i,[],rfl,h1,h2,rfl⟩
 | _::_,_,⟨j,js,e,k1,k2,r⟩=>⟨j,js++[i],by rw [e];rfl,k1,k2,r.app h1 h2⟩
theorem RlAt.new {H:Hp}{es:List (Str × V)}{f:Prs→List Rl}{x:Str}{v:V}:∀ {ps:List Prs} {is:List Nat},x∉ps.map Prs.nm→RlAt H es f ps is→RlAt H ((x,v)::es) f ps is
 | [],_,_,h=>h
 | a::ps,_,hx,⟨j,js,e,k1,k2,r⟩=>by
  rw [List.map_cons,List.mem_cons,not_or] at hx
  exact ⟨j,js,e,by rw [List.lookup_cons,beq_eq_false_iff_ne.mpr (Ne.symm hx.1)];exact k1,k2,r.new hx.2⟩
inductive aO4 (H:Hp)(Q:V→Hp→Prop):List V→Prop where
 | mk (k:Bk) (ps:List Prs) (hs:List Mtg) (nm:Str) (i:Nat) (rs:List Rl):(BkAt H k ps hs)→(b6 H i=some (rs.map rv))→(i∉k.foot)→(ao1 nm)→(nm∉ps.map Prs.nm)→(rs.length≤20)→((∀ r∈rs,r.ok))→(ps.length≤1000)→(∀ (H':Hp) (k':Bk),Fr k.foot H H'→k'.b=k.b→k'.g=k.g→k'.c=k.c→(∀ i∈k'.foot,i∈k.foot∨H.length≤i)→BkAt H' k' (ps++[⟨nm,rs,[]⟩]) hs→Q .none H')→aO4 H Q ([.ref k.b,.str nm,.ref i])
noncomputable def aS0:Ctr:=fun vs H Q _=>aO4 H Q vs
theorem bp0 {XF:XS}{v0 v1 v2:V}{t4 t5 t6:Option V}{H:Hp}{Q:QS}{st:Hp→Prop}(hst:st H):∀ (rs:List Rl) (t3:Option V),(∀ r∈rs,r.ok)→(∀ t3',Q .next [some v0,some v1,some v2,t3',t4,t5,t6] H) →
  j7 (A4 Ψ9 (bdy (f_B_come.body.getD 3 .fail)) XF) st 3 (rs.map rv) [some v0,some v1,some v2,t3,t4,t5,t6] H Q:=by
 intro rs
 induction rs with
 | nil=>intro t3 _ q;exact q _
 | cons r rs ih =>
  intro t3 hf q
  rw [List.map_cons,g4]
  simp_arith only [↓b80]
  refine ⟨r,rfl,hf r List.mem_cons_self,?_⟩
  simp_arith only [g5]
  exact ⟨hst,ih _ (fun r h=>hf r (List.mem_cons_of_mem _ h)) q⟩
theorem bS2 {i x y z:Nat}(h1:i≠x)(h2:i≠y)(h3:i≠z):i∉[x,y,z]:=fun q=>by
 rcases List.mem_cons.mp q with q|q
 ·exact h1 q
 rcases List.mem_cons.mp q with q|q
 ·exact h2 q
 exact h3 (List.mem_singleton.mp q)
theorem aX6 {A B C:List Nat}{m x:Nat}(hx:x=m)(h:(A++(B++C)).Nodup)(hl:∀ i∈A++(B++C),i<m):(A++((B++[x])++(C++[x+1]))).Nodup:=by
 have p:(A++((B++[x])++(C++[x+1]))).Perm ((A++(B++C))++[x,x+1]):=by
  rw [List.append_assoc A]
  refine List.Perm.append_left A ?_
  rw [List.append_assoc,List.append_assoc]
  refine List.Perm.append_left B ?_
  rw [←List.append_assoc [x] C [x+1],show [x,x+1]=[x]++[x+1] from rfl,←List.append_assoc C [x] [x+1]]
  exact List.Perm.append_right _ List.perm_append_comm
 refine p.symm.nodup ?_
 refine List.nodup_append.mpr ⟨h,?_,fun a ha b hb q=>?_⟩
 ·exact List.nodup_cons.mpr ⟨fun q=>by have:=List.mem_singleton.mp q;lia,List.nodup_cons.mpr ⟨List.not_mem_nil,List.nodup_nil⟩⟩
 ·have:=hl a ha
  rcases List.mem_cons.mp hb with q'|q'
  ·lia
  ·have:=List.mem_singleton.mp q';lia
theorem bF7:∀ vs H Q X,aS0 vs H Q X→v8 Ψ9 f_B_come vs H Q X:=by
 rintro vs H Q X ⟨k,ps,hs,nm,i,rs,B,hl,hi,hnm,hni,hz,hf,hps,q⟩
 refine i9 rfl ?_
 have N:=bP5 B.nd
 have hc:(ps.map Prs.nm).contains nm=false:=by
  cases h:(ps.map Prs.nm).contains nm with
  | false=>rfl
  | true=>exact absurd (List.contains_iff_mem.mp h) hni
 have h3:=B.ln
 rw [af4] at h3
 change j1 Ψ9 f_B_come.body [some (.ref k.b),some (.str nm),some (.ref i),none,none,none,none] _ _ _
 refine b0 ?_
 generalize hK:sqX Ψ9 (_::_)=K
 simp_arith only [↓bU5]
 refine ⟨nm,rfl,hnm,?_⟩
 simp_arith only [g5]
 subst hK
 refine b0 ?_
 generalize hK:sqX Ψ9 (_::_)=K
 simp_arith only [B.ns,B.fN,h3,O1,hc]
 subst hK
 refine b0 ?_
 generalize hK:sqX Ψ9 (_::_)=K
 simp_arith only [hl,List.length_map]
 refine ⟨fun h=>absurd h (by lia),fun _=>?_⟩
 subst hK
 refine b0 ?_
 generalize hK:sqX Ψ9 (_::_)=K
 simp_arith only [hl]
 subst hK
 refine bp0 hl rs _ hf fun t3'=>?_
 refine b0 ?_
 generalize hK:sqX Ψ9 (_::_)=K
 simp_arith only [B.ns,B.fN,B.ln]
 refine ⟨⟨_,B.ln⟩,by rw [List.length_map];lia,?_⟩
 subst hK
 have f1:Fr [k.n] H (H.set k.n (.list ((ps.map fun p=>V.str p.nm)++[.str nm]))):=Fr.set
 have ln1:b6 (H.set k.n (.list ((ps.map fun p=>V.str p.nm)++[.str nm]))) k.n=some ((ps.map fun p=>V.str p.nm)++[.str nm]):=j8 B.ln
 have e1:(H.set k.n (.list ((ps.map fun p=>V.str p.nm)++[.str nm]))).length=H.length:=List.length_set
 generalize H.set k.n (.list ((ps.map fun p=>V.str p.nm)++[.str nm]))=H1 at *
 have hl1:=f1.list (m6 (i:=i) fun q=>hi (by rw [q];exact cg9)) hl
 have f2:Fr [k.n] H (H1++[.list (rs.map rv)]):=f1.trans (Fr.pre (F:=[]) b8) fun _ h=>nomatch h
 have ln2:=b7 (b8 (o:=.list (rs.map rv))) ln1
 have lx2:=b5 (H:=H1) (l:=rs.map rv)
 have e2:(H1++[O.list (rs.map rv)]).length=H.length+1:=by rw [List.length_append,e1];rfl
 have ns2:=f2.ns (m6 N.bn) (m6 N.jn) B.ns
 have dd2:=f2.dict (m6 (Ne.symm N.nd)) B.dd
 refine b0 ?_
 generalize hK:sqX Ψ9 (_::_)=K
 have ze:=B.ze
 have zu:=B.zu
 simp_arith only [hl1,ns2,B.fF,dd2]
 refine ⟨by lia,?_⟩
 subst hK
 rw [e1] at lx2 ⊢
 generalize H1++[O.list (rs.map rv)]=H2 at *
 have f3:Fr [k.d] H2 (H2.set k.d (.dict ((nm,.ref H.length)::k.es))):=Fr.set
 have dd3:j6 (H2.set k.d (.dict ((nm,.ref H.length)::k.es))) k.d=some ((nm,.ref H.length)::k.es):=G9 dd2
 have e3:(H2.set k.d (.dict ((nm,.ref H.length)::k.es))).length=H.length+1:=List.length_set.trans e2
 generalize H2.set k.d (.dict ((nm,.ref H.length)::k.es))=H3 at *
 have f4:Fr [k.d] H2 (H3++[.list []]):=f3.trans (Fr.pre (F:=[]) b8) fun _ h=>nomatch h
 have dd4:j6 (H3++[.list []]) k.d=some ((nm,.ref H.length)::k.es):=(Fr.pre (F:=[]) b8).dict (fun h=>nomatch h) dd3
 have ns4:=f4.ns (m6 N.bd) (m6 N.jd) ns2
 have de4:=f4.dict (m6 (Ne.symm N.de)) (f2.dict (m6 (Ne.symm N.ne)) B.de)
 have ly4:=b5 (H:=H3) (l:=[])
 have lt:=B.lt
 have ld:=lt _ b44
 have le:=lt _ cc3
 have lx4:=f4.list (m6 (show H.length≠k.d by lia)) lx2
 have ln4:=f4.list (m6 N.nd) ln2
 refine b0 ?_
 generalize hK:sqX Ψ9 []=K
 simp_arith only [ns4,B.fB,de4]
 refine ⟨by lia,?_⟩
 subst hK
 rw [e3] at ly4 ⊢
 have e4:(H3++[O.list []]).length=H.length+2:=by rw [List.length_append,e3];rfl
 generalize H3++[O.list []]=H4 at *
 have f5:Fr [k.e] H4 (H4.set k.e (.dict ((nm,.ref (H.length+1))::k.us))):=Fr.set
 have de5:j6 (H4.set k.e (.dict ((nm,.ref (H.length+1))::k.us))) k.e=some ((nm,.ref (H.length+1))::k.us):=G9 de4
 generalize H4.set k.e (.dict ((nm,.ref (H.length+1))::k.us))=H5 at *
 have FF:Fr [k.n,k.d,k.e] H H5:=((f2.mono (G:=[k.n,k.d,k.e]) fun i hi=>.inl (by rw [List.mem_singleton.mp hi];exact .head _)).trans f4 fun i hi=>.inl (by rw [List.mem_singleton.mp hi];exact .tail _ (.head _))).trans f5 fun i hi=>.inl (by rw [List.mem_singleton.mp hi];exact .tail _ (.tail _ (.head _)))
 have ls:∀ j∈k.fl++k.ul,j∉[k.n,k.d,k.e]:=fun j hj=>let ⟨_,_,a,_,b,c⟩:=N.ls j hj;bS2 a b c
 refine q H5 { k with es:=(nm,.ref H.length)::k.es,us:=(nm,.ref (H.length+1))::k.us,fl:=k.fl++[H.length],ul:=k.ul++[H.length+1] } (FF.mono fun j hj=>.inl ?_) rfl rfl rfl (fun j hj=>?_) ?_
 ·rcases List.mem_cons.mp hj with h|hj
  ·rw [h];exact cg9
  rcases List.mem_cons.mp hj with h|hj
  ·rw [h];exact b44
  rw [List.mem_singleton.mp hj];exact cc3
 ·have hj:j∈[k.b,k.j,k.n,k.h,k.d,k.e]++((k.fl++[H.length])++(k.ul++[H.length+1])):=hj
  rcases List.mem_append.mp hj with h|h
  ·exact .inl (show j∈[k.b,k.j,k.n,k.h,k.d,k.e]++(k.fl++k.ul) from List.mem_append_left _ h)
  rcases List.mem_append.mp h with h|h
  ·rcases List.mem_append.mp h with h|h
   ·exact .inl (bK7 h)
   ·rw [List.mem_singleton.mp h];exact .inr (Nat.le_refl _)
  ·rcases List.mem_append.mp h with h|h
   ·exact .inl (aV3 h)
   ·rw [List.mem_singleton.mp h];exact .inr (Nat.le_succ _)
 ·refine ⟨aX6 (A:=[k.b,k.j,k.n,k.h,k.d,k.e]) rfl B.nd lt,FF.ns (bS2 N.bn N.bd N.be) (bS2 N.jn N.jd N.je) B.ns,B.fN,B.fH,B.fF,B.fB,B.fG,?_,FF.list (bS2 (Ne.symm N.nh) N.hd N.he) B.lh,f5.dict (m6 N.de) dd4,de5,?_,?_,B.g0,B.no,B.nu,B.z,congrArg (· + 1) ze |>.trans ?_,congrArg (· + 1) zu |>.trans ?_⟩
  ·rw [f5.list (m6 N.ne) ln4,List.map_append];rfl
  ·exact ((B.rf.fr FF fun j hj=>ls j (List.mem_append_left _ hj)).new hni).app (p:=⟨nm,rs,[]⟩) (by rw [List.lookup_cons,beq_self_eq_true]) (f5.list (m6 (by lia)) lx4)
  ·exact ((B.ru.fr FF fun j hj=>ls j (List.mem_append_right _ hj)).new hni).app (p:=⟨nm,rs,[]⟩) (by rw [List.lookup_cons,beq_self_eq_true]) (f5.list (m6 (by lia)) ly4)
  ·rw [List.length_append];rfl
  ·rw [List.length_append];rfl
noncomputable def Ψa:Orc:=ext (Str.ofString "Book."++Str.ofString "come") aS0 Ψ9
theorem bX0:Ψa (Str.ofString "Book."++Str.ofString "need_somebody")=u8:=rfl
theorem cf5:Ψa "is_rule" = V2:=rfl
theorem b51:Ψa "covers" = ab9:=rfl
theorem RlAt.mid {H:Hp}{es:List (Str × V)}{f:Prs→List Rl}{p:Prs}{qs:List Prs}:∀ {ps:List Prs} {is:List Nat},RlAt H es f (ps++p::qs) is→∃ js i ks,is=js++i::ks∧RlAt H es f ps js∧es.lookup p.nm=some (.ref i)∧b6 H i=some ((f p).map rv)∧RlAt H es f qs ks
 | [],_,⟨j,js,e,k1,k2,r⟩=>⟨[],j,js,e,rfl,k1,k2,r⟩
 | a::ps,_,⟨j,js,e,k1,k2,r⟩=>by
  refine e3_5 (RlAt.mid (ps:=ps) r) fun js' i ks e' r' h1 h2 h3=>?_
  exact ⟨j::js',i,ks,by rw [e,e'];rfl,⟨j,js',rfl,k1,k2,r'⟩,h1,h2,h3⟩
theorem RlAt.join {H:Hp}{es:List (Str × V)}{f:Prs→List Rl}{qs:List Prs}{ks:List Nat}(h:RlAt H es f qs ks):∀ {ps:List Prs} {is:List Nat},RlAt H es f ps is→RlAt H es f (ps++qs) (is++ks)
 | [],is,h'=>by obtain rfl:=h';exact h
 | _::_,_,⟨j,js,e,k1,k2,r⟩=>⟨j,js++ks,by rw [e];rfl,k1,k2,RlAt.join h r⟩
noncomputable abbrev xc (n:Str):Exc:=⟨n,[n,"HourError","ValueError"]⟩
noncomputable def mOk (m:Mtg):Prop:=x7 m.hr∧m7 m.sz
noncomputable def Z1 (hs:List Mtg)(nm:Str)(r:Rl):Bool:=hs.any fun m=>m.who.contains nm&&(m9 0 m.sz).any fun j=>cov r (m.hr+j)
inductive aN9 (H:Hp)(Q:V→Hp→Prop)(X:XL):List V→Prop where
 | mk (k:Bk) (ps qs:List Prs) (p:Prs) (hs:List Mtg) (r:Rl):BkAt H k (ps++p::qs) hs→r.ok→p.bu.length<20→(∀ m∈hs,mOk m)→(Z1 hs p.nm r=true→X (xc "Clash") H)→(Z1 hs p.nm r=false→∀ H',Fr k.ul H H'→BkAt H' k (ps++⟨p.nm,p.fr,p.bu++[r]⟩::qs) hs→Q .none H')→aN9 H Q X [.ref k.b,.str p.nm,rv r]
noncomputable def aE2:Ctr:=fun vs H Q X=>aN9 H Q X vs
noncomputable abbrev b2B:List IS:=[(.ite (.call (.fn "covers") [(.loc 2),(.bin .Add (.sub (.loc 3) (.lit (.int 1))) (.loc 4))]) [(.raise "Clash" ["Clash","HourError","ValueError"])] [])]
noncomputable abbrev b1B:List IS:=[(.ite (.cmp (.loc 1) .In (.sub (.loc 3) (.lit (.int 3)))) [(.for 4 .range (.sub (.loc 3) (.lit (.int 2))) b2B)] [])]
theorem bi4 {XF:XS}{v0 v1:V}{r:Rl}{m:Mtg}{t5 t6 t7:Option V}{H:Hp}{Q:QS}(hf:r.ok)(h0:0≤m.hr):∀ (ks:List Int) (t4:Option V),(∀ j∈ks,0≤j)→((ks.any fun j=>cov r (m.hr+j))=false→∀ t4',Q .next [some v0,some v1,some (rv r),some (mtv m),t4',t5,t6,t7] H)→((ks.any fun j=>cov r (m.hr+j))=true→∀ L',XF (xc "Clash") L' H) →
  j7 (A4 Ψa b2B XF) (fun _=>True) 4 (ks.map V.int) [some v0,some v1,some (rv r),some (mtv m),t4,t5,t6,t7] H Q:=by
 intro ks
 induction ks with
 | nil=>intro t4 _ q _;exact q rfl _
 | cons j ks ih =>
  intro t4 hk q1 q2
  have j0:=hk j List.mem_cons_self
  rw [List.any_cons] at q1 q2
  rw [List.map_cons,g4]
  rw [show mtv m=V.tup [.int m.no,.int m.hr,.int m.sz,.tup (m.who.map V.str)] from rfl] at q1 ⊢
  simp_arith only [↓b51]
  refine ⟨r,m.hr+j,rfl,hf,by lia,?_⟩
  cases e:cov r (m.hr+j) with
  | true=>rw [e] at q2;exact q2 rfl _
  | false=>rw [e,Bool.false_or] at q1 q2;simp_arith only [g5];exact ih _ (fun j h=>hk j (List.mem_cons_of_mem _ h)) q1 q2
theorem bh9 {XF:XS}{v0:V}{nm:Str}{r:Rl}{t5 t6 t7:Option V}{H:Hp}{Q:QS}{st:Hp→Prop}(hst:st H)(hf:r.ok):∀ (hs:List Mtg) (t3 t4:Option V),(∀ m∈hs,mOk m)→(Z1 hs nm r=false→∀ t3' t4',Q .next [some v0,some (.str nm),some (rv r),t3',t4',t5,t6,t7] H)→(Z1 hs nm r=true→∀ L',XF (xc "Clash") L' H) →
  j7 (A4 Ψa b1B XF) st 3 (hs.map mtv) [some v0,some (.str nm),some (rv r),t3,t4,t5,t6,t7] H Q:=by
 intro hs
 induction hs with
 | nil=>intro t3 t4 _ q _;exact q rfl _ _
 | cons m hs ih =>
  intro t3 t4 hc q1 q2
  refine R8 (hc m List.mem_cons_self) fun e_287 h1 h1'=>?_
  refine j4 e_287 fun h0 _=>?_
  have e:Z1 (m::hs) nm r=((m.who.contains nm&&(m9 0 m.sz).any fun j=>cov r (m.hr+j))||Z1 hs nm r):=List.any_cons
  rw [e] at q1 q2
  have nx:(m.who.contains nm&&(m9 0 m.sz).any fun j=>cov r (m.hr+j))=false→∀ t4',st H∧j7 (A4 Ψa b1B XF) st 3 (hs.map mtv) [some v0,some (.str nm),some (rv r),some (mtv m),t4',t5,t6,t7] H Q:=fun h t4'=>by
   rw [h,Bool.false_or] at q1 q2
   exact ⟨hst,ih _ _ (fun m h=>hc m (List.mem_cons_of_mem _ h)) q1 q2⟩
  rw [List.map_cons,g4]
  refine b0 ?_
  rw [show mtv m=V.tup [.int m.no,.int m.hr,.int m.sz,.tup (m.who.map V.str)] from rfl] at nx ⊢
  simp_arith only [O1]
  refine aN7 (fun hw=>?_) (fun hw=>nx (by rw [hw];rfl) _)
  refine ⟨by lia,?_⟩
  rw [C5]
  rw [hw,Bool.true_and] at nx q2
  exact bi4 (m:=m) hf h0 _ _ (fun j hj=>(q9.mp hj).1) (fun e t4'=>nx e _) fun e L'=>q2 (by rw [e];rfl) L'
theorem bQ4:∀ vs H Q X,aE2 vs H Q X→v8 Ψa f_B_busy vs H Q X:=by
 rintro vs H Q X ⟨k,ps,qs,p,hs,r,B,hf,hz,hm,q2,q⟩
 refine i9 rfl ?_
 have N:=bP5 B.nd
 refine e3_5 (B.ru.mid) fun js i ks e r1 h1 h2 r2=>?_
 refine e3_5 (B.rf.mid) fun js' i' ks' e' r1' h1' h2' r2'=>?_
 change j1 Ψa f_B_busy.body [some (.ref k.b),some (.str p.nm),some (rv r),none,none,none,none,none] _ _ _
 refine b0 ?_
 generalize hK:sqX Ψa (_::_)=K
 simp_arith only [B.ns,↓bX0]
 refine ⟨k,ps++p::qs,hs,p.nm,B,by rw [List.map_append];exact List.mem_append_right _ (.head _),?_⟩
 subst hK
 refine b0 ?_
 generalize hK:sqX Ψa (_::_)=K
 simp_arith only [↓cf5]
 refine ⟨r,rfl,hf,?_⟩
 simp_arith only [B.ns,B.fB,B.de,h1,h2,List.length_map]
 refine ⟨fun h=>absurd h (by lia),fun _=>?_⟩
 subst hK
 refine b0 ?_
 generalize hK:sqX Ψa (_::_)=K
 simp_arith only [B.ns,B.fH,B.lh]
 subst hK
 refine bh9 B.lh hf hs _ _ hm (fun hcl t3' t4'=>?_) fun hcl L'=>q2 hcl
 have q:=q hcl
 simp_arith only [B.ns,B.fB,B.de,h1,h2]
 refine ⟨⟨_,h2⟩,by rw [List.length_map];lia,?_⟩
 have f:Fr [i] H (H.set i (.list (p.bu.map rv++[rv r]))):=Fr.set
 have l3:b6 (H.set i (.list (p.bu.map rv++[rv r]))) i=some (p.bu.map rv++[rv r]):=j8 h2
 generalize H.set i (.list (p.bu.map rv++[rv r]))=H1 at *
 have hu:i∈k.ul:=by rw [e];exact List.mem_append_right _ (.head _)
 obtain ⟨nb,nj,nn,nh,nd',ne⟩:=N.ls i (List.mem_append_right _ hu)
 have nl:=N.ll
 refine R8 (List.nodup_append.mp nl) fun _ nu ndis=>?_
 rw [e] at nu
 refine R8 (List.nodup_append.mp nu) fun _ nu2 nlast=>?_
 have nu3:=(List.nodup_cons.mp nu2).1
 have hfr:∀ j∈k.fl,j∉[i]:=fun j hj=>m6 (ndis j hj i hu)
 refine q H1 (f.mono fun j hj=>.inl (by rw [List.mem_singleton.mp hj];exact hu)) ⟨B.nd,f.ns (m6 (Ne.symm nb)) (m6 (Ne.symm nj)) B.ns,B.fN,B.fH,B.fF,B.fB,B.fG,?_,f.list (m6 (Ne.symm nh)) B.lh,f.dict (m6 (Ne.symm nd')) B.dd,f.dict (m6 (Ne.symm ne)) B.de,?_,?_,B.g0,B.no,B.nu,B.z,?_,?_⟩
 ·rw [f.list (m6 (Ne.symm nn)) B.ln,List.map_append,List.map_append];rfl
 ·rw [e'] at hfr ⊢
  exact RlAt.join (qs:=⟨p.nm,p.fr,p.bu++[r]⟩::qs) ⟨i',ks',rfl,h1',f.list (hfr i' (List.mem_append_right _ (.head _))) h2',r2'.fr f fun j hj=>hfr j (List.mem_append_right _ (.tail _ hj))⟩ (r1'.fr f fun j hj=>hfr j (List.mem_append_left _ hj))
 ·rw [e]
  exact RlAt.join (qs:=⟨p.nm,p.fr,p.bu++[r]⟩::qs) ⟨i,ks,rfl,h1,by rw [l3,List.map_append];rfl,r2.fr f fun j hj=>m6 fun q=>nu3 (q▸hj)⟩ (r1.fr f fun j hj=>m6 (nlast j hj i (.head _)))
 ·rw [B.ze,List.length_append,List.length_append];rfl
 ·rw [B.zu,List.length_append,List.length_append];rfl
noncomputable def Ψb:Orc:=ext (Str.ofString "Book."++Str.ofString "busy") aE2 Ψa
end Mine
namespace Mine
open PySem
theorem b84:Ψb "is_whole" = N7:=rfl
theorem ad7 {a b:Int}(h:a<b):m9 a b=a::m9 (a+1) b:=by
 unfold m9
 obtain ⟨n,hn⟩:∃ n:Nat,(b-a).toNat=n+1:=⟨(b-a).toNat-1,by lia⟩
 rw [hn,show (b-(a+1)).toNat=n by lia,List.range_succ_eq_map,List.map_cons,List.map_map]
 refine congr (congrArg _ (by lia)) (List.map_congr_left fun k _=>?_)
 show a+((k+1:Nat):Int)=a+1+(k:Int);lia
theorem aX9 {l r:List V}{x:V}:idx (l++x::r) (l.length:Int)=some x:=by
 unfold idx
 rw [if_pos (Int.natCast_nonneg _),Int.toNat_natCast,List.getElem?_append_right (Nat.le_refl _),Nat.sub_self];rfl
inductive Q9 (H:Hp)(Q:V→Hp→Prop)(X:XL):List V→Prop where
 | ok (k:Bk) (ps:List Prs) (hs:List Mtg) (m:Mtg) (h2:List Mtg):BkAt H k ps (hs++m::h2)→(hs++m::h2).length≤1000→Q (.int (hs.length:Int)) H→Q9 H Q X [.ref k.b,.int m.no]
 | no (k:Bk) (ps:List Prs) (hs:List Mtg) (n:Int):BkAt H k ps hs→hs.length≤1000→(∀ m∈hs,m.no≠n)→X (xc "NoMeeting") H→Q9 H Q X [.ref k.b,.int n]
noncomputable def O5:Ctr:=fun vs H Q X=>Q9 H Q X vs
noncomputable abbrev poB:List IS:=[(.ite (.cmp (.sub (.sub (.attr (.loc 0) "held") (.loc 2)) (.lit (.int 0))) .Eq (.loc 1)) [(.ret (.loc 2))] [])]
theorem a28 {hs h2:List Mtg}{m:Mtg}:idx ((hs++m::h2).map mtv) (hs.length:Int)=some (.tup [.int m.no,.int m.hr,.int m.sz,.tup (m.who.map V.str)]):=by
 have:=aX9 (l:=hs.map mtv) (x:=mtv m) (r:=h2.map mtv)
 rw [List.length_map] at this
 rw [List.map_append];exact this
theorem aP2 {XF:XS}{k:Bk}{ps:List Prs}{n N:Int}{t3 t4 t5:Option V}{H:Hp}{Q:QS}{rest:List Mtg}:∀ (l h1:List Mtg) (t2:Option V),BkAt H k ps (h1++(l++rest))→(h1.length:Int)+(l.length:Int)≤N→(∀ m∈l,m.no≠n) →
  (∀ t2',j7 (A4 Ψb poB XF) (fun _=>True) 2 ((m9 ((h1++l).length:Int) N).map V.int) [some (.ref k.b),some (.int n),t2',t3,t4,t5] H Q) →
  j7 (A4 Ψb poB XF) (fun _=>True) 2 ((m9 (h1.length:Int) N).map V.int) [some (.ref k.b),some (.int n),t2,t3,t4,t5] H Q:=by
 intro l
 induction l with
 | nil=>intro h1 t2 _ _ _ q;have:=q t2;rw [List.append_nil] at this;exact this
 | cons x l ih =>
  intro h1 t2 B hN hn q
  rw [List.length_cons] at hN
  have hl:=B.lh
  have hi:=a28 (hs:=h1) (m:=x) (h2:=l++rest)
  rw [ad7 (by lia),List.map_cons,g4]
  rw [List.cons_append] at hl
  simp_arith only [B.ns,B.fH,hl,hi]
  refine ⟨fun h=>absurd h (hn x List.mem_cons_self),fun _=>?_⟩
  have:=ih (h1++[x]) (some (.int (h1.length:Int))) (by rw [List.append_assoc];exact B) (by rw [List.length_append];show ((h1.length+1:Nat):Int)+_≤N;lia) (fun m h=>hn m (List.mem_cons_of_mem _ h)) (by rw [List.append_assoc];exact q)
  rw [List.length_append] at this
  exact this
theorem aN3:∀ vs H Q X,O5 vs H Q X→v8 Ψb f_B_place_of vs H Q X:=by
 intro vs H Q X h
 refine i9 (by cases h<;>rfl) ?_
 have main:∀ (k:Bk) (ps:List Prs) (hs:List Mtg) (n:Int),BkAt H k ps hs→hs.length≤1000→(∀ K:QS,(∀ L',K .next L' H=X (xc "NoMeeting") H)→(∀ v L',K (.ret v) L' H=Q v H)→j7 (A4 Ψb poB (rX X)) (fun _=>True) 2 ((m9 ((([]:List Mtg).length:Nat):Int) (hs.length:Int)).map V.int) [some (.ref k.b),some (.int n),none,none,none,none] H K) →
   j1 Ψb f_B_place_of.body [some (.ref k.b),some (.int n),none,none,none,none] H (rQ Q) (rX X):=fun k ps hs n B hz q=>by
  refine b0 ?_
  generalize hK:sqX Ψb (_::_)=K
  simp_arith only [↓b84]
  refine ⟨n,rfl,?_⟩
  have hl:=B.lh
  simp_arith only [B.ns,B.fH,hl,List.length_map]
  refine ⟨by lia,?_⟩
  subst hK
  rw [C5]
  exact q _ (fun L'=>rfl) fun v L'=>rfl
 rcases h with ⟨k,ps,hs,m,h2,B,hz,q⟩|⟨k,ps,hs,n,B,hz,hn,q⟩
 ·refine main k ps _ m.no B hz fun K _ k2=>aP2 (rest:=m::h2) hs [] _ B (by rw [List.length_append,List.length_nil];lia) (fun x hx=>?_) fun t2'=>?_
  ·have nu:=B.nu
   rw [List.map_append] at nu
   exact (List.nodup_append.mp nu).2.2 x.no (List.mem_map_of_mem hx) m.no (.head _)
  ·rw [List.nil_append,ad7 (by rw [List.length_append,List.length_cons];lia),List.map_cons,g4]
   have hl:=B.lh
   simp_arith only [B.ns,B.fH,hl,a28,k2]
   exact q
 ·refine main k ps hs n B hz fun K k1 _=>aP2 (rest:=[]) hs [] _ (by rw [List.append_nil];exact B) (by rw [List.length_nil];lia) hn fun t2'=>?_
  rw [List.nil_append,show m9 (hs.length:Int) (hs.length:Int)=[] by unfold m9;rw [show ((hs.length:Int)-(hs.length:Int)).toNat=0 by lia];rfl,List.map_nil,ah0,k1]
  exact q
noncomputable def Ψc:Orc:=ext (Str.ofString "Book."++Str.ofString "place_of") O5 Ψb
theorem bI9:Ψc (Str.ofString "Book."++Str.ofString "place_of")=O5:=rfl
theorem a82 {l r:List V}:aC0 .none (.int (l.length:Int)) (l++r)=some l:=by
 show some (((l++r).drop 0).take ((if (l.length:Int)<0 then (l++r).length-(-(l.length:Int)).toNat else min (l.length:Int).toNat (l++r).length)-0))=_
 rw [if_neg (by lia),Int.toNat_natCast,List.drop_zero,Nat.sub_zero,Nat.min_eq_left (by rw [List.length_append];exact Nat.le_add_right _ _),List.take_left' rfl]
theorem br9 {l r:List V}{x:V}:aC0 (.int ((l.length:Int)+1)) .none (l++x::r)=some r:=by
 have e:aM6 (some ((l.length:Int)+1)) 0 (l++x::r).length=(l++[x]).length:=by
  show (if (l.length:Int)+1<0 then (l++x::r).length-(-((l.length:Int)+1)).toNat else min ((l.length:Int)+1).toNat (l++x::r).length)=_
  rw [if_neg (by lia),List.length_append,List.length_append,List.length_cons,List.length_singleton];lia
 show some (((l++x::r).drop (aM6 (some ((l.length:Int)+1)) 0 (l++x::r).length)).take ((l++x::r).length-aM6 (some ((l.length:Int)+1)) 0 (l++x::r).length))=_
 rw [e,show l++x::r=(l++[x])++r by rw [List.append_assoc];rfl,List.drop_left' rfl,List.length_append,Nat.add_sub_cancel_left,List.take_length]
theorem av4 {hs h2:List Mtg}{m:Mtg}:aC0 .none (.int (hs.length:Int)) ((hs++m::h2).map mtv)=some (hs.map mtv)∧aC0 (.int ((hs.length:Int)+1)) .none ((hs++m::h2).map mtv)=some (h2.map mtv):=by
 have a:=a82 (l:=hs.map mtv) (r:=(m::h2).map mtv)
 have b:=br9 (l:=hs.map mtv) (x:=mtv m) (r:=h2.map mtv)
 rw [List.length_map] at a b
 rw [List.map_append]
 exact ⟨a,b⟩
theorem bS8 {x:Str}{v:V}{fs:List (Str × V)}(h:(x==Str.ofString "held")=false):List.lookup x ((Str.ofString "held",v)::fs)=fs.lookup x:=by rw [List.lookup_cons,h]
theorem h_n:(Str.ofString "names"==Str.ofString "held")=false:=by decide
theorem h_g:(Str.ofString "given"==Str.ofString "held")=false:=by decide
theorem h_f:(Str.ofString "free_rules"==Str.ofString "held")=false:=by decide
theorem h_b:(Str.ofString "busy_rules"==Str.ofString "held")=false:=by decide
inductive aC8 (H:Hp)(Q:V→Hp→Prop)(X:XL):List V→Prop where
 | ok (k:Bk) (ps:List Prs) (hs:List Mtg) (m:Mtg) (h2:List Mtg):BkAt H k ps (hs++m::h2)→(hs++m::h2).length≤1000→k.c≤1000→(∀ (H':Hp) (k':Bk),Fr k.foot H H'→k'.b=k.b→k'.g=k.g→k'.c=k.c+1→(∀ i∈k'.foot,i∈k.foot∨H.length≤i)→BkAt H' k' ps (hs++h2)→Q .none H')→aC8 H Q X [.ref k.b,.int m.no]
 | no (k:Bk) (ps:List Prs) (hs:List Mtg) (n:Int):BkAt H k ps hs→hs.length≤1000→(∀ m∈hs,m.no≠n)→X (xc "NoMeeting") H→aC8 H Q X [.ref k.b,.int n]
noncomputable def aE5:Ctr:=fun vs H Q X=>aC8 H Q X vs
theorem bD3:∀ vs H Q X,aE5 vs H Q X→v8 Ψc f_B_drop vs H Q X:=by
 intro vs H Q X h
 refine i9 (by cases h<;>rfl) ?_
 rcases h with ⟨k,ps,hs,m,h2,B,hz,hc,q⟩|⟨k,ps,hs,n,B,hz,hn,q⟩
 case no =>
  change j1 Ψc f_B_drop.body [some (.ref k.b),some (.int n),none,none,none,none] H _ _
  refine b0 ?_
  generalize hK:sqX Ψc (_::_)=K
  simp_arith only [B.ns,↓bI9]
  exact .no k ps hs n B hz hn q
 change j1 Ψc f_B_drop.body [some (.ref k.b),some (.int m.no),none,none,none,none] H _ _
 refine b0 ?_
 generalize hK:sqX Ψc (_::_)=K
 simp_arith only [B.ns,↓bI9]
 refine .ok k ps hs m h2 B hz ?_
 subst hK
 refine b0 ?_
 generalize hK:sqX Ψc []=K
 refine j4 (av4 (hs:=hs) (h2:=h2) (m:=m)) fun c1 c2=>?_
 have p1:H<+:H++[.list (hs.map mtv)]:=b8
 have l1:=b5 (H:=H) (l:=hs.map mtv)
 have e1:(H++[O.list (hs.map mtv)]).length=H.length+1:=List.length_append
 simp_arith only [B.ns,B.fH,B.lh,c1]
 generalize H++[O.list (hs.map mtv)]=H1 at *
 have B1:=B.pre p1
 simp_arith only [B1.ns,B1.fH,B1.lh,c2]
 have p2:H1<+:H1++[.list (h2.map mtv)]:=b8
 have l2:=b5 (H:=H1) (l:=h2.map mtv)
 have l1':=b7 p2 l1
 have e2:(H1++[O.list (h2.map mtv)]).length=H.length+2:=by rw [List.length_append,e1];rfl
 rw [e1] at l2 ⊢
 generalize H1++[O.list (h2.map mtv)]=H2 at *
 simp_arith only [l1',l2,List.length_map]
 rw [List.length_append,List.length_cons] at hz
 refine ⟨by lia,?_⟩
 rw [←List.map_append]
 have p3:H2<+:H2++[.list ((hs++h2).map mtv)]:=b8
 have l3:=b5 (H:=H2) (l:=(hs++h2).map mtv)
 have e3:(H2++[O.list ((hs++h2).map mtv)]).length=H.length+3:=by rw [List.length_append,e2];rfl
 rw [e2] at l3 ⊢
 generalize H2++[O.list ((hs++h2).map mtv)]=H3 at *
 have B3:=B.pre ((p1.trans p2).trans p3)
 have hb:=B.z
 simp_arith only [B3.ns]
 refine ⟨by lia,?_⟩
 subst hK
 have N:=bP5 B.nd
 have lt:=B.lt
 have f:Fr [k.j] H3 (H3.set k.j (.ns ((Str.ofString "held",.ref (H.length+2))::k.fs))):=Fr.set
 have ns4:=aI2 (gs:=(Str.ofString "held",.ref (H.length+2))::k.fs) B3.ns N.bj
 generalize H3.set k.j (.ns ((Str.ofString "held",.ref (H.length+2))::k.fs))=H4 at *
 have lj:=lt _ bL6
 refine q H4 { k with fs:=(Str.ofString "held",.ref (H.length+2))::k.fs,h:=H.length+2,c:=k.c+1 } ((Fr.pre ((p1.trans p2).trans p3)).trans f fun i hi=>.inl (by rw [List.mem_singleton.mp hi];exact bL6)) rfl rfl rfl (fun i hi=>?_) ?_
 ·have hi:i∈[k.b,k.j,k.n]++((H.length+2)::([k.d,k.e]++(k.fl++k.ul))):=hi
  rcases List.mem_append.mp hi with h|h
  ·exact .inl (show i∈[k.b,k.j,k.n]++(k.h::([k.d,k.e]++(k.fl++k.ul))) from List.mem_append_left _ h)
  rcases List.mem_cons.mp h with h|h
  ·rw [h];exact .inr (Nat.le_add_right _ _)
  ·exact .inl (show i∈[k.b,k.j,k.n]++(k.h::([k.d,k.e]++(k.fl++k.ul))) from List.mem_append_right _ (List.mem_cons_of_mem _ h))
 ·refine ⟨?_,ns4,(bS8 h_n).trans B.fN,by rw [List.lookup_cons,beq_self_eq_true],(bS8 h_f).trans B.fF,(bS8 h_b).trans B.fB,(bS8 h_g).trans B.fG,f.list (m6 (Ne.symm N.jn)) B3.ln,f.list (m6 (show H.length+2≠k.j by lia)) l3,f.dict (m6 (Ne.symm N.jd)) B3.dd,f.dict (m6 (Ne.symm N.je)) B3.de,B3.rf.fr f fun i hi=>m6 (N.ls i (List.mem_append_left _ hi)).2.1,B3.ru.fr f fun i hi=>m6 (N.ls i (List.mem_append_right _ hi)).2.1,B.g0,fun x hx=>B.no x ((List.mem_append.mp hx).elim (List.mem_append_left _) fun h=>List.mem_append_right _ (List.mem_cons_of_mem _ h)),?_,Nat.succ_le_succ hb,B.ze,B.zu⟩
  ·have p:(k.h::(k.b::k.j::k.n::k.d::k.e::(k.fl++k.ul))).Perm k.foot:=(List.perm_middle (a:=k.h) (l₁:=[k.b,k.j,k.n]) (l₂:=k.d::k.e::(k.fl++k.ul))).symm
   have p':((H.length+2)::(k.b::k.j::k.n::k.d::k.e::(k.fl++k.ul))).Perm (k.b::k.j::k.n::(H.length+2)::k.d::k.e::(k.fl++k.ul)):=(List.perm_middle (a:=H.length+2) (l₁:=[k.b,k.j,k.n]) (l₂:=k.d::k.e::(k.fl++k.ul))).symm
   refine p'.nodup (List.nodup_cons.mpr ⟨fun h=>?_,(List.nodup_cons.mp (p.symm.nodup B.nd)).2⟩)
   have:=lt _ (p.subset (List.mem_cons_of_mem _ h));lia
  ·have nu:=B.nu
   exact ((List.sublist_cons_self m h2).append_left hs |>.map Mtg.no).nodup nu
noncomputable def Ψd:Orc:=ext (Str.ofString "Book."++Str.ofString "drop") aE5 Ψc
theorem bA9:Ψd (Str.ofString "Book."++Str.ofString "place_of")=O5:=rfl
theorem cf3:Ψd "need_stretch" = B7:=rfl
theorem bF9:Ψd (Str.ofString "Book."++Str.ofString "look")=aH9:=rfl
structure Mv (H:Hp)(k:Bk)(ps:List Prs)(hs:List Mtg)(m:Mtg)(h2:List Mtg)(qs:List Prs)(lo hi:Int):Prop where
 book:BkAt H k ps (hs++m::h2)
 who:m.who=qs.map Prs.nm
 sub:∀ q∈qs,q∈ps∧q.fine
 can:Can m.sz lo hi
 z:(hs++m::h2).length≤1000
inductive aA2 (H:Hp)(Q:V→Hp→Prop)(X:XL):List V→Prop where
 | ok (k:Bk) (ps:List Prs) (hs:List Mtg) (m:Mtg) (h2:List Mtg) (qs:List Prs) (lo hi:Int):Mv H k ps hs m h2 qs lo hi→(∀ H',H<+:H'→IsFirst (gd m.no (hs++m::h2) qs) m.sz lo (hi-m.sz) .none→Q .none H')→(∀ (a:Int) (H':Hp),IsFirst (gd m.no (hs++m::h2) qs) m.sz lo (hi-m.sz) (.int a)→Fr k.foot H H'→BkAt H' k ps (hs++⟨m.no,a,m.sz,m.who⟩::h2)→Q (.int a) H')→aA2 H Q X [.ref k.b,.int m.no,.int lo,.int hi]
 | no (k:Bk) (ps:List Prs) (hs:List Mtg) (n:Int) (v w:V):BkAt H k ps hs→hs.length≤1000→(∀ m∈hs,m.no≠n)→X (xc "NoMeeting") H→aA2 H Q X [.ref k.b,.int n,v,w]
noncomputable def aE4:Ctr:=fun vs H Q X=>aA2 H Q X vs
theorem bB7:∀ vs H Q X,aE4 vs H Q X→v8 Ψd f_B_move vs H Q X:=by
 intro vs H Q X h
 refine i9 (by cases h<;>rfl) ?_
 rcases h with ⟨k,ps,hs,m,h2,qs,lo,hi,M,q1,q2⟩|⟨k,ps,hs,n,v,w,B,hz,hn,q⟩
 case no =>
  change j1 Ψd f_B_move.body [some (.ref k.b),some (.int n),some v,some w,none,none,none,none,none,none] H _ _
  refine b0 ?_
  generalize hK:sqX Ψd (_::_)=K
  simp_arith only [B.ns,↓bA9]
  exact .no k ps hs n B hz hn q
 have B:=M.book
 change j1 Ψd f_B_move.body [some (.ref k.b),some (.int m.no),some (.int lo),some (.int hi),none,none,none,none,none,none] H _ _
 refine b0 ?_
 generalize hK:sqX Ψd (_::_)=K
 simp_arith only [B.ns,↓bA9]
 refine .ok k ps hs m h2 B M.z ?_
 subst hK
 have ix:idx ((hs++m::h2).map mtv) (hs.length:Int)=some (.tup [.int m.no,.int m.hr,.int m.sz,.tup (nmL qs)]):=by
  rw [a28,nmL,af4,←M.who]
 refine b0 ?_
 generalize hK:sqX Ψd (_::_)=K
 simp_arith only [B.ns,B.fH,B.lh,ix]
 subst hK
 refine b0 ?_
 generalize hK:sqX Ψd (_::_)=K
 simp_arith only [↓cf3]
 refine ⟨m.sz,lo,hi,M.can.hh,M.can.hl,M.can.hu,M.can.le,M.can.ge,?_⟩
 subst hK
 have hh1:=M.can.hh.1
 have h4:=M.can.ge
 have h5:=M.can.hl.1
 have h6:=M.can.hl.2
 refine b0 ?_
 generalize hK:sqX Ψd (_::_)=K
 simp_arith only [B.ns,↓bF9]
 refine ⟨k,.tup (nmL qs),ps,hs++m::h2,qs,m.sz,lo,hi-m.sz,m.no,⟨B,.inr rfl,M.sub⟩,M.can.hh,h5,by lia,by lia,fun v rows F=>?_⟩
 have p1:H<+:H++[.list rows]:=b8
 have B1:=B.pre p1
 simp_arith only [g5]
 generalize H++[O.list rows]=H1 at *
 subst hK
 refine b0 ?_
 generalize hK:sqX Ψd (_::_)=K
 rcases F.kind with rfl|⟨a,rfl⟩
 ·simp_arith only [w8]
  subst hK
  simp_arith only [g5]
  exact q1 _ p1 F
 ·simp_arith only [w8,B1.ns,B1.fH,B1.lh]
  refine ⟨⟨by lia,by rw [List.length_map,List.length_append,List.length_cons];lia⟩,?_⟩
  subst hK
  have N:=bP5 B.nd
  have es:((hs++m::h2).map mtv).set (hs.length:Int).toNat (.tup [.int m.no,.int a,.int m.sz,.tup (nmL qs)])=(hs++Mtg.mk m.no a m.sz m.who::h2).map mtv:=by
   rw [Int.toNat_natCast,List.map_append,List.map_append,List.set_append_right _ _ (by rw [List.length_map];exact Nat.le_refl _),List.length_map,Nat.sub_self,nmL,af4,←M.who];rfl
  rw [es]
  have f:Fr [k.h] H1 (H1.set k.h (.list ((hs++Mtg.mk m.no a m.sz m.who::h2).map mtv))):=Fr.set
  have l2:b6 (H1.set k.h (.list ((hs++Mtg.mk m.no a m.sz m.who::h2).map mtv))) k.h=some _:=j8 B1.lh
  generalize H1.set k.h (.list ((hs++Mtg.mk m.no a m.sz m.who::h2).map mtv))=H2 at *
  simp_arith only [g5]
  refine q2 a H2 F ((Fr.pre p1).trans f fun i hi=>.inl (by rw [List.mem_singleton.mp hi];exact bT4)) ⟨B.nd,f.ns (m6 N.bh) (m6 N.jh) B1.ns,B.fN,B.fH,B.fF,B.fB,B.fG,f.list (m6 N.nh) B1.ln,l2,f.dict (m6 (Ne.symm N.hd)) B1.dd,f.dict (m6 (Ne.symm N.he)) B1.de,B1.rf.fr f fun i hi=>m6 (N.ls i (List.mem_append_left _ hi)).2.2.2.1,B1.ru.fr f fun i hi=>m6 (N.ls i (List.mem_append_right _ hi)).2.2.2.1,B.g0,fun x hx=>?_,?_,B.z,B.ze,B.zu⟩
  ·rcases List.mem_append.mp hx with h|h
   ·exact B.no x (List.mem_append_left _ h)
   rcases List.mem_cons.mp h with h|h
   ·rw [h];exact B.no m (List.mem_append_right _ (.head _))
   ·exact B.no x (List.mem_append_right _ (.tail _ h))
  ·have nu:=B.nu
   rw [List.map_append] at nu ⊢
   exact nu
noncomputable def Ψe:Orc:=ext (Str.ofString "Book."++Str.ofString "move") aE4 Ψd
end Mine
namespace Mine
open PySem
noncomputable def cell (ns:List Int)(k:Int):Int:=if ns.length=0 then 0 else ns.getD (k%(ns.length:Int)).toNat 0+k/(ns.length:Int)*31
noncomputable def I1:Ctr:=fun vs H Q _=>∃ ns k,vs=[.scr ns,.int k]∧ns.length≤1000∧Q (.int (cell ns k)) H
theorem C3 {ns:List Int}{k:Int}{H:Hp}{Q:V→Hp→Prop}{X:XL}:I1 [.scr ns,.int k] H Q X=(ns.length≤1000∧Q (.int (cell ns k)) H):=by
 refine propext ⟨?_,fun ⟨a,b⟩=>⟨ns,k,rfl,a,b⟩⟩
 rintro ⟨ns',k',e,a,b⟩
 cases e
 exact ⟨a,b⟩
theorem aS4:∀ vs H Q X,I1 vs H Q X→v8 Ψe J7 vs H Q X:=by
 rintro vs H Q X ⟨ns,k,rfl,hz,q⟩
 refine i9 rfl ?_
 simp_arith only [J7,E2,List.map_cons,List.map_nil,List.replicate,List.cons_append,List.nil_append]
 unfold cell at q
 refine ⟨fun h=>?_,fun h=>?_⟩
 ·rw [if_pos (by lia)] at q;exact q
 ·have hp:0<(ns.length:Int):=by lia
  have h1:=Int.emod_nonneg k (show (ns.length:Int)≠0 by lia)
  have h2:=Int.emod_lt_of_pos k hp
  have h3:(k%(ns.length:Int)).toNat<ns.length:=by lia
  rw [if_neg (by lia)] at q
  have e:aJ0 ns (k%(ns.length:Int))=some (ns.getD (k%(ns.length:Int)).toNat 0):=by
   unfold aJ0
   rw [if_pos h1,List.getElem?_eq_getElem h3]
   simp [h3]
  have dv:=aa0.mpr ⟨hp,by lia⟩
  refine ⟨dv,?_⟩
  simp_arith only [↓bB1 e]
  refine ⟨dv,?_⟩
  simp_arith only [g5]
  exact q
noncomputable def Θ1:Orc:=ext "_law_cell_at" I1 Ψe
noncomputable def aq0:Ctr:=fun vs H Q _=>∃ x:Int,vs=[.int x]∧Q (.bool true) H
theorem br1:∀ vs H Q X,aq0 vs H Q X→v8 Θ1 U9 vs H Q X:=by
 rintro vs H Q X ⟨x,rfl,q⟩
 refine i9 rfl ?_
 simp_arith only [U9,E2,List.map_cons,List.map_nil,List.replicate,List.cons_append,List.nil_append,ae1,Z2]
 exact q
noncomputable def Θ2:Orc:=ext "_law_whole" aq0 Θ1
noncomputable def am5:Ctr:=fun vs H Q _=>∃ y m:Int,vs=[.int y,.int m]∧1≤m∧m≤12∧∀ H',H<+:H'→Q (.int (ai4 (decide (y%4=0)) m)) H'
theorem bG6:∀ vs H Q X,am5 vs H Q X→v8 Θ2 ab8 vs H Q X:=by
 rintro vs H Q X ⟨y,m,rfl,h1,h2,q⟩
 refine i9 rfl ?_
 simp_arith only [ab8,E2,List.map_cons,List.map_nil,List.replicate,List.cons_append,List.nil_append,b5,ay1 h1 h2]
 have q:=q (H++[.list [.int 31,.int 28,.int 31,.int 30,.int 31,.int 30,.int 31,.int 31,.int 30,.int 31,.int 30,.int 31]]) b8
 refine ⟨fun h=>?_,fun h=>?_⟩
 ·subst h
  by_cases hy:y%4=0
  ·simpa [ai4,hy] using q
  ·simpa [ai4,hy] using q
 ·simpa [ai4,h] using q
noncomputable def Θ2a:Orc:=ext "_law_days" am5 Θ2
theorem bj9:Θ2a "_law_days" = am5:=rfl
noncomputable def X5:Ctr:=fun vs H Q _=>∃ d:Int,vs=[.int d]∧∀ H',H<+:H'→Q (.ref H'.length) (H'++[.list [.int (ac8 d),.int (ac8 d-aM1 d-1)]])
theorem bl2 {d:Int}{t4 t5 t6:Option V}{Q:QS}:∀ (n:Nat) (r y m:Int) (H:Hp),1≤m→m≤12 →
  (aI8 n r y m).1<ai4 (decide ((aI8 n r y m).2.1%4=0)) (aI8 n r y m).2.2 →
  (∀ H',H<+:H'→Q .next [some (V.int d),some (.int (aI8 n r y m).1),some (.int (aI8 n r y m).2.1),some (.int (aI8 n r y m).2.2),t4,t5,t6] H') →
  z5 (a39 Θ2a (.cmp (.loc 1) .GtE (.call (.fn "_law_days") [(.loc 2),(.loc 3)])) noX)
   (A4 Θ2a [(.assign 1 (.bin .Sub (.loc 1) (.call (.fn "_law_days") [(.loc 2),(.loc 3)]))),(.assign 2 (.bin .Add (.loc 2) (.bin .FloorDiv (.loc 3) (.lit (.int 12))))),(.assign 3 (.bin .Add (.bin .Mod (.loc 3) (.lit (.int 12))) (.lit (.int 1))))] aR0)
   (n+1) [some (V.int d),some (.int r),some (.int y),some (.int m),t4,t5,t6] H Q:=by
 intro n
 induction n with
 | zero =>
  intro r y m H h1 h2 h3 q
  simp_arith only [↓ab5,↓bj9,am5]
  refine ⟨y,m,rfl,h1,h2,fun H' hp=>?_⟩
  exact ⟨fun h=>absurd h (Int.not_le.mpr h3),fun _=>q _ hp⟩
 | succ n ih =>
  intro r y m H h1 h2 h3 q
  rw [ab5]
  simp_arith only [↓bj9,am5]
  refine ⟨y,m,rfl,h1,h2,fun H' hp=>⟨fun h=>⟨y,m,rfl,h1,h2,fun H2 hp2=>?_⟩,fun h=>?_⟩⟩
  ·have e:aI8 (n+1) r y m=aI8 n (r-ai4 (decide (y%4=0)) m) (y+m/12) (m%12+1):=by simp only [aI8];rw [if_pos h]
   rw [e] at h3 q
   exact ih _ _ _ _ (by lia) (by lia) h3 (fun H3 hp3=>q _ (hp.trans (hp2.trans hp3)))
  ·have e:aI8 (n+1) r y m=(r,y,m):=by simp only [aI8];rw [if_neg h]
   rw [e] at q
   exact q _ hp
theorem aL3:∀ vs H Q X,X5 vs H Q X→v8 Θ2a F7 vs H Q X:=by
 rintro vs H Q X ⟨d,rfl,q⟩
 refine i9 rfl ?_
 simp_arith only [F7,E2,List.map_cons,List.map_nil,List.replicate,List.cons_append,List.nil_append]
 rw [T9]
 obtain ⟨a,b,c,e,f⟩:=ae9 d
 have hl:decide (y0 (d%1461)%4=0)=decide (y0 (d%1461)=0):=by
  unfold y0;rw [Bool.eq_iff_iff];simp only [decide_eq_true_eq]
  split
  ·lia
  ·split
   ·lia
   ·split<;>lia
 refine ⟨48,bl2 47 _ 0 1 H (by lia) (by lia) ?_ ?_⟩
 ·rw [f];simp only;rw [hl];exact b
 ·rw [f]
  intro H' hp
  simp_arith only [↓bj9,am5]
  refine ⟨_,_,rfl,c,e,fun H2 hp2=>?_⟩
  have:=q H2 (hp.trans hp2)
  rw [hl]
  have e1:ac8 d-aM1 d-1=(au5 (d%1461)).1-ai4 (decide (y0 (d%1461)=0)) (au5 (d%1461)).2:=by
   unfold ac8 aM1 ao5;lia
  rw [e1] at this
  exact this
noncomputable def Θ2b:Orc:=ext "_law_in_month" X5 Θ2a
theorem bW7:Θ2b "_law_in_month" = X5:=rfl
theorem by8 (d:Int):1≤ac8 d∧ac8 d-aM1 d-1<0:=by
 refine R8 (ae9 d) fun a b _=>?_
 unfold ac8 aM1 ao5;exact ⟨by lia,by lia⟩
noncomputable def G7:Ctr:=fun vs H Q _=>∃ (r:Pl) (x:Int),vs=[pv r,.int x]∧r.fine∧0≤x∧∀ H',H<+:H'→Q (.bool (bp r x)) H'
theorem al1:∀ vs H Q X,G7 vs H Q X→v8 Θ2b f_l_plain_begins vs H Q X:=by
 rintro vs H Q X ⟨r,x,rfl,hok,h0,q0⟩
 refine i9 rfl ?_
 have q:=q0 H (List.prefix_refl _)
 cases r with
 | once h s =>
  change j1 Θ2b f_l_plain_begins.body [some (V.tup [.str "once",.int h,.int s]),some (.int x),none,none,none] H _ _
  exact b0 (aO5 G0 q)
 | every h s p =>
  change j1 Θ2b f_l_plain_begins.body [some (V.tup [.str "every",.int h,.int s,.int p]),some (.int x),none,none,none] H _ _
  refine b0 (ad5 C8 (b0 (aO5 B8 ?_)))
  generalize hK:sqX Θ2b (_::_)=K
  simp_arith only [←hK]
  have h1:=hok.2.2.1
  have h2:=hok.2.2.2
  refine ⟨fun hx=>⟨aa0.mpr ⟨by lia,by lia⟩,?_⟩,fun hx=>?_⟩
  ·have e:bp (.every h s p) x=decide ((x-h)%p=0):=by show (decide (h≤x)&&_)=_;rw [decide_eq_true hx];rfl
   rw [e] at q;exact q
  ·have e:bp (.every h s p) x=false:=by show (decide (h≤x)&&_)=_;rw [decide_eq_false hx];rfl
   rw [e] at q;rw [decide_eq_false hx];exact q
 | week ds t s =>
  change j1 Θ2b f_l_plain_begins.body [some (V.tup [.str "week",am2 ds,.int t,.int s]),some (.int x),none,none,none] H _ _
  refine b0 (ad5 F9 (b0 (ad5 C9 (b0 ?_))))
  generalize hK:sqX Θ2b (_::_)=K
  simp_arith only [g5]
  refine ⟨fun h=>absurd h (by lia),fun _=>⟨fun hx=>?_,fun hx=>?_⟩⟩
  ·have e:bp (.week ds t s) x=false:=by show (decide (x%24=t)&&_)=_;rw [decide_eq_false hx];rfl
   rw [e] at q;subst hK;exact q
  ·have e:bp (.week ds t s) x=ds.contains (x/24%7):=by show (decide (x%24=t)&&_)=_;rw [decide_eq_true (Classical.not_not.mp hx)];rfl
   rw [e] at q
   subst hK
   refine b0 (aO5 K7 ?_)
   generalize hK:sqX Θ2b (_::_)=K
   simp_arith only [am2,V5]
   subst hK
   exact q
 | month d t s =>
  change j1 Θ2b f_l_plain_begins.body [some (V.tup [.str "month",.int d,.int t,.int s]),some (.int x),none,none,none] H _ _
  refine b0 (ad5 C4 (b0 (ad5 B5 (b0 ?_))))
  generalize hK:sqX Θ2b (_::_)=K
  simp_arith only [g5]
  refine ⟨fun h=>absurd h (by lia),fun _=>⟨fun hx=>?_,fun hx=>?_⟩⟩
  ·have e:bp (.month d t s) x=false:=by show (decide (x%24=t)&&_)=_;rw [decide_eq_false hx];rfl
   rw [e] at q;subst hK;exact q
  ·have e:bp (.month d t s) x=[ac8 (x/24),ac8 (x/24)-aM1 (x/24)-1].contains d:=by
    show (decide (x%24=t)&&_)=_
    refine j4 (by8 (x/24)) fun d1 d2=>?_
    rw [decide_eq_true (Classical.not_not.mp hx),Bool.true_and,Bool.eq_iff_iff,List.contains_iff_mem,List.mem_cons,List.mem_singleton]
    by_cases hd:d<0
    ·rw [if_pos hd,decide_eq_true_eq];lia
    ·rw [if_neg hd,decide_eq_true_eq];lia
   subst hK
   refine b0 (ad5 J6 (b0 ?_))
   generalize hK:sqX Θ2b []=K
   simp_arith only [↓bW7]
   refine ⟨_,rfl,fun H' hp=>?_⟩
   have q:=q0 _ (hp.trans (b8 (o:=.list ([ac8 (x/24),ac8 (x/24)-aM1 (x/24)-1].map V.int))))
   rw [e] at q
   have hm:=V5 (x:=d) (ds:=[ac8 (x/24),ac8 (x/24)-aM1 (x/24)-1])
   simp_arith only [b5]
   rw [show [V.int (ac8 (x/24)),.int (ac8 (x/24)-aM1 (x/24)-1)]=[ac8 (x/24),ac8 (x/24)-aM1 (x/24)-1].map V.int from rfl,hm]
   subst hK
   exact q
noncomputable def Θ3:Orc:=ext "_law_plain_begins" G7 Θ2b
noncomputable abbrev bw9:O:=.list az4
noncomputable def ad0:Ctr:=fun vs H Q _=>vs=[]∧Q (.ref H.length) (H++[bw9])
theorem aX7:∀ vs H Q X,ad0 vs H Q X→v8 Θ3 I9 vs H Q X:=by
 rintro vs H Q X ⟨rfl,q⟩
 refine i9 rfl ?_
 simp_arith only [I9,E2,List.map_nil,List.replicate,List.nil_append]
 exact q
noncomputable def Θ4:Orc:=ext "_law_bearing" ad0 Θ3
theorem b83:Θ4 "_law_bearing" = ad0:=rfl
noncomputable def hdi:Rl→List V
 | .pl _=>[]
 | .hd k r=>rv (.hd k r)::hdi r
noncomputable def hds (r:Rl):List V:=hdi r++[pv r.inner]
theorem bf1:∀ r:Rl,(hdi r).length=r.deep
 | .pl _=>rfl
 | .hd _ r=>congrArg Nat.succ (bf1 r)
noncomputable abbrev hdT:IE:=.cmp (.sub (.loc 0) (.lit (.int 0))) .In (.call (.fn "_law_bearing") [])
theorem cj9 {u:Str}{rest:List V}{Lr:Lc}{H:Hp}{P:Bool→Hp→Prop}{X:XL}{b:Bool}(hm:Q3 (.str u) az4=some b)(h:P b (H++[bw9])):(wp2 Θ4 hdT).T (some (.tup (.str u::rest))::Lr) H P X:=by
 simp_arith only [↓b83]
 refine ⟨rfl,?_⟩
 simp_arith only [b5,hm]
 exact h
theorem bZ8 {p:Pl}{Lr:Lc}{H:Hp}{P:Bool→Hp→Prop}{X:XL}(h:P false (H++[bw9])):(wp2 Θ4 hdT).T (some (pv p)::Lr) H P X:=by
 refine e1_1 (bR7 p) fun r e=>?_
 rw [e];exact cj9 (bu2 p) h
theorem aA9 {H H':Hp}{n:Nat}{o:O}(p:H<+:H')(hn:H.length≤n):H<+:H'.set n o:=by
 refine e1_1 p fun Δ e_288=>?_
 obtain rfl:=e_288
 rw [List.set_append_right _ _ hn]
 exact List.prefix_append _ _
noncomputable def as4:Ctr:=fun vs H Q _=>∃ r:Rl,vs=[rv r]∧r.deep≤7∧∀ H',H<+:H'→Q (.ref H'.length) (H'++[.list (hds r)])
noncomputable abbrev heB:List IS:=[(.expr (.meth (.loc 1) .append [(.loc 0)])),(.assign 0 (.sub (.loc 0) (.lit (.int 2))))]
theorem b72 {n:Nat}{H:Hp}{Q:V→Hp→Prop}{X:XL}(hn:H.length≤n):∀ (r:Rl) (l:List V) (H':Hp),l.length+r.deep≤7→H<+:H'→b6 H' n=some l→(∀ H2,H<+:H2→Q (.ref H2.length) (H2++[.list (l++hds r)])) →
  z5 (a39 Θ4 hdT noX) (A4 Θ4 heB aR0) (r.deep+1) [some (rv r),some (.ref n),none,none,none] H' (sqX Θ4 [.ret (.bin .Add (.loc 1) (.lst [.loc 0]))] (rQ Q) (rX X)):=by
 intro r
 induction r with
 | pl p =>
  intro l H' hz hp hl q
  rw [ab5]
  refine bZ8 ?_
  have hl1:=b7 (b8 (o:=.list [pv p])) (b7 (b8 (o:=bw9)) hl)
  simp_arith only [rv,hl1,b5]
  exact ⟨by have:l.length+0≤7:=hz;lia,q _ (hp.trans (b8.trans b8))⟩
 | hd k r ih =>
  intro l H' hz hp hl q
  have hz:l.length+(r.deep+1)≤7:=hz
  have hd:(.hd k r:Rl).deep+1=(r.deep+1)+1:=rfl
  rw [hd,ab5]
  refine cj9 (bi1 k) ?_
  have hl1:=b7 (b8 (o:=bw9)) hl
  have nx:=ih (l++[rv (.hd k r)]) ((H'++[bw9]).set n (.list (l++[rv (.hd k r)]))) (by rw [List.length_append];show l.length+1+r.deep≤7;lia) (aA9 (hp.trans b8) hn) (j8 hl1) fun H2 h2=>by
   have:=q H2 h2
   rw [List.append_assoc];exact this
  simp_arith only [rv,hl1]
  exact ⟨⟨_,hl1⟩,by lia,nx⟩
theorem bi6:∀ vs H Q X,as4 vs H Q X→v8 Θ4 f_l_heads vs H Q X:=by
 rintro vs H Q X ⟨r,rfl,hd,q⟩
 refine i9 rfl ?_
 change j1 Θ4 f_l_heads.body [some (rv r),none,none,none,none] H _ _
 refine b0 ?_
 generalize hK:sqX Θ4 (_::_)=K
 simp_arith only [g5]
 subst hK
 refine b0 ?_
 rw [T9]
 exact ⟨_,b72 (Nat.le_refl _) r [] _ (by show 0+_≤_;lia) b8 b5 q⟩
noncomputable def Θ5:Orc:=ext "_law_heads" as4 Θ4
theorem cg0:Θ5 "_law_heads" = as4:=rfl
theorem b59:Θ5 "_law_plain_begins" = G7:=rfl
theorem aU9 {l:List V}{v:V}:idx (l++[v]) (-1)=some v:=by
 unfold idx
 rw [if_neg (by decide),List.length_append,if_pos (by show 0≤-1+((l.length+1:Nat):Int);lia),show (-1+((l.length+[v].length:Nat):Int)).toNat=l.length by show (-1+((l.length+1:Nat):Int)).toNat=_;lia,List.getElem?_append_right (Nat.le_refl _),Nat.sub_self];rfl
theorem bv1 {l:List V}{v:V}:aC0 .none (.int (-1)) (l++[v])=some l:=by
 show some (((l++[v]).drop 0).take ((l++[v]).length-1-0))=_
 rw [List.drop_zero,List.length_append,Nat.sub_zero,show l.length+[v].length-1=l.length from rfl,List.take_left' rfl]
theorem bp3 {body:Lc→Hp→QS→Prop}{st:Hp→Prop}{j:Nat}{l2:List V}{Q:QS}:∀ (l1:List V) (L:Lc) (H:Hp),j7 body st j l1 L H (nxt (fun L1 H1=>j7 body st j l2 L1 H1 Q) Q)→j7 body st j (l1++l2) L H Q:=by
 intro l1
 have key:∀ (l1:List V),(fun L H=>j7 body st j (l1++l2) L H Q)=fun L H=>j7 body st j l1 L H (nxt (fun L1 H1=>j7 body st j l2 L1 H1 Q) Q):=by
  intro l1
  induction l1 with
  | nil=>rfl
  | cons x r ih =>
   funext L H
   show body _ _ (lop (fun L1 H1=>st H1∧j7 body st j (r++l2) L1 H1 Q) Q)=body _ _ (lop (fun L1 H1=>st H1∧j7 body st j r L1 H1 _) _)
   congr 1
   funext fl L1 H1
   cases fl with
   | next=>exact congrArg (st H1∧·) (congrFun (congrFun ih L1) H1)
   | ret v=>rfl
 intro L H h
 have:=congrFun (congrFun (key l1) L) H
 exact this.mpr h
noncomputable def aC5:Ctr:=fun vs H Q _=>∃ (r:Rl) (x:Int),vs=[rv r,.int x]∧r.ok∧0≤x∧∀ H',H<+:H'→Q (.bool (bgo r x)) H'
noncomputable abbrev buB:List IS:=bdy (f_l_begun.body.getD 2 .fail)
theorem bL8 {XF:XS}{k:Hd}{r:Rl}{x:Int}{b:Bool}{v0 v2:V}{t4 t5 t6 t7:Option V}{H:Hp}{Q:QS}{st:Hp→Prop}(hst:st H)(q:∀ t4',Q .next [some v0,some (.int x),some v2,some (.bool (hdB k x b)),t4',t5,t6,t7] H) :
  j7 (A4 Θ5 buB XF) st 4 [rv (.hd k r)] [some v0,some (.int x),some v2,some (.bool b),t4,t5,t6,t7] H Q:=by
 rw [g4]
 cases k with
 | frm h =>
  refine b0 ?_
  simp_arith only [↓ah0,↓g4,rv,Hd.w,Hd.v,Z4]
  cases b with
  | true=>simp_arith only [g5];exact ⟨hst,q _⟩
  | false=>simp_arith only [g5];exact ⟨hst,q _⟩
 | til h =>
  refine b0 ?_
  simp_arith only [↓ah0,↓g4,rv,Hd.w,Hd.v,V0,Q6]
  cases b with
  | true=>simp_arith only [g5];exact ⟨hst,q _⟩
  | false=>simp_arith only [g5];exact ⟨hst,q _⟩
 | als h =>
  refine b0 ?_
  simp_arith only [↓ah0,↓g4,rv,Hd.w,Hd.v,Z3,U1,Y9]
  cases b with
  | true=>simp_arith only [g5];exact ⟨hst,q _⟩
  | false=>simp_arith only [g5];exact ⟨hst,q _⟩
 | but ds =>
  refine b0 ?_
  simp_arith only [↓ah0,↓g4,rv,Hd.w,Hd.v,af6,Z7,ad8,am2,V5]
  cases b with
  | true=>simp_arith only [g5];exact ⟨hst,q _⟩
  | false=>simp_arith only [g5];exact ⟨hst,q _⟩
theorem bA7 {XF:XS}{x:Int}{v0 v2:V}{t5 t6 t7:Option V}{H:Hp}{st:Hp→Prop}(hst:st H):∀ (r:Rl) (t4:Option V) (Q:QS),(∀ t4',Q .next [some v0,some (.int x),some v2,some (.bool (bgo r x)),t4',t5,t6,t7] H) →
  j7 (A4 Θ5 buB XF) st 4 (hdi r).reverse [some v0,some (.int x),some v2,some (.bool (bp r.inner x)),t4,t5,t6,t7] H Q
 | .pl p,t4,Q,q=>q t4
 | .hd k r,t4,Q,q=>by
  rw [show (hdi (.hd k r)).reverse=(hdi r).reverse++[rv (.hd k r)] from List.reverse_cons]
  exact bp3 _ _ _ (bA7 hst r t4 _ fun t4'=>bL8 hst q)
theorem bg9:∀ vs H Q X,aC5 vs H Q X→v8 Θ5 f_l_begun vs H Q X:=by
 rintro vs H Q X ⟨r,x,rfl,⟨hf,hd⟩,h0,q⟩
 refine i9 rfl ?_
 change j1 Θ5 f_l_begun.body [some (rv r),some (.int x),none,none,none,none,none,none] H _ _
 refine b0 ?_
 generalize hK:sqX Θ5 (_::_)=K
 simp_arith only [↓cg0]
 refine ⟨r,rfl,hd,fun H1 hp1=>?_⟩
 have l1:=b5 (H:=H1) (l:=hds r)
 have p1:H<+:H1++[.list (hds r)]:=hp1.trans b8
 generalize H1.length=i at *
 generalize H1++[O.list (hds r)]=H2 at *
 subst hK
 unfold hds at l1
 refine b0 ?_
 generalize hK:sqX Θ5 (_::_)=K
 simp_arith only [l1,aU9,↓b59]
 refine ⟨r.inner,x,rfl,hf.inner,h0,fun H4 hp4=>?_⟩
 have l1:=b7 hp4 l1
 have p1:=p1.trans hp4
 clear hp4
 clear hp1
 generalize hh2:H4=H2 at *
 subst hK
 refine b0 ?_
 generalize hK:sqX Θ5 (_::_)=K
 have l2:=b5 (H:=H2) (l:=hdi r)
 have p2:=p1.trans (b8 (o:=.list (hdi r)))
 simp_arith only [l1,bv1]
 generalize H2.length=i2 at *
 generalize H2++[O.list (hdi r)]=H3 at *
 simp_arith only [l2]
 have q3:=q H3 p2
 refine bA7 l2 r _ _ fun t4'=>?_
 subst hK
 rw [n7]
 exact q3
noncomputable def Θ6:Orc:=ext "_law_begun" aC5 Θ5
theorem bY4:Θ6 "_law_heads" = as4:=rfl
theorem bl6:Q3 (.str "once") [V.str "once",.str "every"]=some true:=by decide
theorem a83:Q3 (.str "every") [V.str "once",.str "every"]=some true:=by decide
theorem br5:Q3 (.str "week") [V.str "once",.str "every"]=some false:=by decide
theorem a05:Q3 (.str "month") [V.str "once",.str "every"]=some false:=by decide
theorem a09 (r:Rl):idx (hds r) (-1)=some (pv r.inner):=aU9
noncomputable def aS7:Ctr:=fun vs H Q _=>∃ r:Rl,vs=[rv r]∧r.deep≤7∧∀ H',H<+:H'→Q (.int r.size) H'
theorem bI5:∀ vs H Q X,aS7 vs H Q X→v8 Θ6 f_l_size vs H Q X:=by
 rintro vs H Q X ⟨r,rfl,hd,q⟩
 refine i9 rfl ?_
 change j1 Θ6 f_l_size.body [some (rv r),none,none,none,none] H _ _
 refine b0 ?_
 generalize hK:sqX Θ6 (_::_)=K
 simp_arith only [↓bY4]
 refine ⟨r,rfl,hd,fun H1 hp1=>?_⟩
 simp_arith only [b5,a09]
 have q':∀ o,Q (.int r.inner.size) ((H1++[.list (hds r)])++[o]):=fun o=>q _ (hp1.trans (b8.trans b8))
 generalize H1++[O.list (hds r)]=H3 at *
 subst hK
 revert q'
 cases r.inner with
 | once h s=>intro q';simp_arith only [pv,b5,bl6];exact q' _
 | every h s p=>intro q';simp_arith only [pv,b5,a83];exact q' _
 | week ds t s=>intro q';simp_arith only [pv,b5,br5];exact q' _
 | month d t s=>intro q';simp_arith only [pv,b5,a05];exact q' _
noncomputable def Θ7:Orc:=ext "_law_size" aS7 Θ6
end Mine
namespace Mine
open PySem
noncomputable def a85 (most:Int):Int→List Int→Bool
 | _,[]=>true
 | a,d::r=>decide (a<d)&&decide (d≤most)&&a85 most d r
theorem aQ4 {most:Int}:∀ {ds:List Int} {a:Int},a85 most a ds=true→a72 most a ds
 | [],_,_=>trivial
 | d::r,a,h=>by
  have h:(decide (a<d)&&decide (d≤most)&&a85 most d r)=true:=h
  rw [Bool.and_eq_true,Bool.and_eq_true,decide_eq_true_eq,decide_eq_true_eq] at h
  exact ⟨h.1.1,h.1.2,aQ4 h.2⟩
noncomputable def bb2:List Int→Int→List Int
 | [],_=>[]
 | k::r,b=>if b%2=1 then k::bb2 r (b/2) else bb2 r (b/2)
noncomputable def wd (b:Int):List Int:=bb2 [0,1,2,3,4,5,6] b
theorem bN3:∀ k:Fin 127,(decide (1≤(wd (1+(k.val:Int))).length)&&decide ((wd (1+(k.val:Int))).length≤7)&&a85 6 (-1) (wd (1+(k.val:Int))))=true:=by decide +kernel
theorem aV4 (c:Int):1≤(wd (1+c%127)).length∧(wd (1+c%127)).length≤7∧a72 6 (-1) (wd (1+c%127)):=by
 have h1:0≤c%127:=Int.emod_nonneg _ (by decide)
 have h2:c%127<127:=Int.emod_lt_of_pos _ (by decide)
 have:=bN3 ⟨(c%127).toNat,by lia⟩
 simp only [Int.toNat_of_nonneg h1] at this
 rw [Bool.and_eq_true,Bool.and_eq_true,decide_eq_true_eq,decide_eq_true_eq] at this
 exact ⟨this.1.1,this.1.2,aQ4 this.2⟩
noncomputable def D0:Ctr:=fun vs H Q _=>∃ b:Int,vs=[.int b]∧∀ H',H<+:H'→Q (am2 (wd b)) H'
theorem bn7 {XF:XS}{t3 t4 t5:Option V}{H:Hp}{Q:QS}:∀ (ks:List Int) (b:Int) (t2:Option V) (acc:List Int),acc.length+ks.length≤1000000 →
  (∀ b' t',Q .next [some (V.int b'),some (.ref H.length),t',t3,t4,t5] (H++[.list ((acc++bb2 ks b).map .int)])) →
  j7 (A4 Θ7 [(.ite (.cmp (.bin .Mod (.loc 0) (.lit (.int 2))) .Eq (.lit (.int 1))) [(.expr (.meth (.loc 1) .append [(.loc 2)]))] []),(.assign 0 (.bin .FloorDiv (.loc 0) (.lit (.int 2))))] XF) (fun _=>True) 2 (ks.map V.int)
   [some (V.int b),some (.ref H.length),t2,t3,t4,t5] (H++[.list (acc.map .int)]) Q:=by
 intro ks
 induction ks with
 | nil =>
  intro b t2 acc _ q
  have:=q b t2
  rw [show bb2 [] b=[] from rfl,List.append_nil] at this
  exact this
 | cons k r ih =>
  intro b t2 acc hl q
  rw [List.map_cons,g4]
  simp_arith only [b5,aO2]
  rw [List.length_cons] at hl
  have e:bb2 (k::r) b=if b%2=1 then k::bb2 r (b/2) else bb2 r (b/2):=rfl
  rw [e] at q
  refine ⟨fun h=>⟨⟨_,b5⟩,?_⟩,fun h=>?_⟩
  ·rw [if_pos h] at q
   have:=ih (b/2) (some (.int k)) (acc++[k]) (by rw [List.length_append,List.length_singleton];lia) (by
    intro b' t'
    have:=q b' t'
    rw [List.append_cons acc] at this
    exact this)
   rw [List.map_append] at this
   exact ⟨by rw [List.length_map];lia,this⟩
  ·rw [if_neg h] at q
   exact ih (b/2) (some (.int k)) acc (by lia) q
theorem bJ4:E4 0 7=[0,1,2,3,4,5,6].map V.int:=rfl
theorem aJ4:∀ vs H Q X,D0 vs H Q X→v8 Θ7 G6 vs H Q X:=by
 rintro vs H Q X ⟨b,rfl,q⟩
 refine i9 rfl ?_
 simp_arith only [G6,E2,List.map_cons,List.map_nil,List.replicate,List.cons_append,List.nil_append]
 rw [bJ4]
 refine bn7 (acc:=[]) [0,1,2,3,4,5,6] b _ (by decide) ?_
 intro b' t'
 simp_arith only [b5,List.nil_append]
 exact q _ b8
noncomputable def Θa:Orc:=ext "_law_weekdays" D0 Θ7
theorem bU6:Θa "_law_weekdays" = D0:=rfl
noncomputable def M5 (f:Int):Prop:=0≤f∧f≤999999999800
theorem bu8:∀ k:Fin 10,(-31:Int)≤[-1,0,30,29,28,-31,-30,-29,-28,27].getD k.val 0∧[-1,0,30,29,28,-31,-30,-29,-28,27].getD k.val (0:Int)≤30:=by decide
theorem bB4 {k:Int}(h1:0≤k)(h2:k<10):∃ d:Int,idx [V.int (-1),.int 0,.int 30,.int 29,.int 28,.int (-31),.int (-30),.int (-29),.int (-28),.int 27] k=some (.int d)∧-31≤d∧d≤30 :=
 ⟨_,aq4 (l:=[-1,0,30,29,28,-31,-30,-29,-28,27]) h1 h2 0,bu8 ⟨k.toNat,by lia⟩⟩
noncomputable def I0:Ctr:=fun vs H Q _=>∃ i a b c far most,vs=[.ref i,.int far,.int most]∧b6 H i=some [.int a,.int b,.int c]∧M5 far∧m7 most∧∀ (p:Pl) (H':Hp),H<+:H'→p.fine→Q (pv p) H'
theorem bt8 {d t s:Int}(h1:-31≤d)(h2:d≤30)(h3:0≤t)(h4:t≤23)(h5:m7 s):(Pl.month (d+(if decide (0≤d)=true then 1 else 0)) t s).fine:=by
 refine ⟨⟨h3,h4⟩,h5,?_⟩
 by_cases hd:0≤d
 ·rw [decide_eq_true hd,if_pos rfl];lia
 ·rw [decide_eq_false hd,if_neg Bool.false_ne_true];lia
theorem aM5:∀ vs H Q X,I0 vs H Q X→v8 Θa f_l_plain_by vs H Q X:=by
 rintro vs H Q X ⟨i,a,b,c,far,most,rfl,hl,hfar,hm,q⟩
 refine i9 rfl ?_
 have hm1:=hm.1
 have hm2:=hm.2
 have hf1:=hfar.1
 have hf2:=hfar.2
 have hl':∀ o,b6 (H++[o]) i=some [.int a,.int b,.int c]:=fun o=>b7 b8 hl
 refine e1_3 (bB4 (k:=c/124%10) (Int.emod_nonneg _ (by decide)) (Int.emod_lt_of_pos _ (by decide))) fun d hd hd1 hd2=>?_
 have hs:m7 (1+a/4%most):=by
  have h1:=Int.emod_nonneg (a/4) (show most≠0 by lia)
  have h2:=Int.emod_lt_of_pos (a/4) (show 0<most by lia)
  exact ⟨by lia,by lia⟩
 have hh:x7 (far+b%60):=⟨by lia,by lia⟩
 change j1 Θa f_l_plain_by.body [some (.ref i),some (.int far),some (.int most),none,none,none,none,none,none,none] H _ _
 refine b0 ?_
 generalize hK:sqX Θa (_::_)=K
 simp_arith only [hl]
 subst hK
 refine b0 ?_
 generalize hK:sqX Θa (_::_)=K
 simp_arith only [hl]
 refine ⟨aa0.mpr ⟨by lia,by lia⟩,?_⟩
 simp_arith only [g5]
 subst hK
 generalize 1+a/4%most=sz at *
 refine b0 ?_
 generalize hK:sqX Θa (_::_)=K
 simp_arith only [hl]
 subst hK
 generalize far+b%60=hr at *
 refine b0 ?_
 generalize hK:sqX Θa (_::_)=K
 simp_arith only [g5]
 subst hK
 refine ⟨fun _=>q (.once _ _) H (List.prefix_refl _) ⟨hh,hs⟩,fun _=>?_⟩
 refine b0 ?_
 generalize hK:sqX Θa (_::_)=K
 simp_arith only [hl]
 subst hK
 refine ⟨fun _=>q (.every _ _ _) H (List.prefix_refl _) ⟨hh,hs,by lia,by lia⟩,fun _=>?_⟩
 have hb:0≤b%24∧b%24≤23:=⟨by lia,by lia⟩
 refine b0 ?_
 generalize hK:sqX Θa (_::_)=K
 simp_arith only [hl,↓bU6,D0]
 refine ⟨fun _=>⟨_,rfl,fun H' hp=>?_⟩,fun _=>?_⟩
 ·simp_arith only [b7 hp hl]
  subst hK
  exact q (.week _ _ _) H' hp ⟨hb,hs,aV4 c⟩
 subst hK
 have fin:∀ (d:Int) (H':Hp),-31≤d→d≤30→H<+:H'→j1 Θa (f_l_plain_by.body.drop 8) [some (.ref i),some (.int far),some (.int most),some (.int (a%4)),some (.int sz),some (.int hr),some (.int d),none,none,none] H' (rQ Q) (rX X):=fun d H' h1 h2 hp=>by
  refine b0 ?_
  generalize hK:sqX Θa []=K
  simp_arith only [b7 hp hl]
  subst hK
  exact q (.month _ _ _) H' hp (bt8 h1 h2 hb.1 hb.2 hs)
 refine b0 ?_
 generalize hK:sqX Θa (_::_)=K
 simp_arith only [hl]
 subst hK
 refine b0 ?_
 generalize hK:sqX Θa (_::_)=K
 simp_arith only [hl,hl',b5,hd]
 subst hK
 exact ⟨fun _=>fin d _ hd1 hd2 b8,fun _=>fin _ H (by lia) (by lia) (List.prefix_refl _)⟩
noncomputable def Θb:Orc:=ext "_law_plain_by" I0 Θa
theorem aW2 {most a s:Int}(hs:1≤s):∀ (n j:Nat) (b:Int),b<a+(j:Int)*s→a+((j+n:Nat):Int)*s≤most→a72 most b ((List.range' j n).map fun (k:Nat)=>a+(k:Int)*s)
 | 0,_,_,_,_=>trivial
 | n+1,j,b,h1,h2=>by
  have e1:(((j+(n+1):Nat):Int))*s=(j:Int)*s+((n:Int)+1)*s:=by rw [←Int.add_mul];rfl
  have e2:(((j+1+n:Nat):Int))*s=(j:Int)*s+((n:Int)+1)*s:=by rw [←Int.add_mul];congr 1;lia
  have e3:(((j+1:Nat):Int))*s=(j:Int)*s+s:=by rw [show ((j+1:Nat):Int)=(j:Int)+1 by lia,Int.add_mul,Int.one_mul]
  have e4:0≤((n:Int)+1)*s:=Int.mul_nonneg (by lia) (by lia)
  exact ⟨h1,show a+(j:Int)*s≤most by lia,aW2 hs n (j+1) _ (show a+(j:Int)*s<_ by lia) (by lia)⟩
theorem aK5 {most a s n:Int}(hs:1≤s)(h0:0≤a)(hn:0≤n)(h:a+n*s≤most):a72 most (-1) ((m9 0 n).map fun k=>a+k*s):=by
 have:=aW2 (most:=most) (a:=a) hs n.toNat 0 (-1) (by lia) (by rw [show ((0+n.toNat:Nat):Int)=n by lia];exact h)
 rw [←List.range_eq_range'] at this
 unfold m9
 rw [List.map_map,show (n-0).toNat=n.toNat by lia]
 have e:(fun (k:Nat)=>a+(k:Int)*s)=((fun k=>a+k*s)∘fun (k:Nat)=>0+(k:Int)):=funext fun k=>by show _=a+(0+(k:Int))*s;rw [Int.zero_add]
 rw [←e];exact this
theorem a48:∀ k:Fin 4,(1:Int)≤[1,2,5,20].getD k.val 1∧[1,2,5,20].getD k.val (1:Int)≤20:=by decide
theorem bh0 {k:Int}(h1:0≤k)(h2:k<4):∃ m:Int,idx [V.int 1,.int 2,.int 5,.int 20] k=some (.int m)∧1≤m∧m≤20:=⟨_,aq4 (l:=[1,2,5,20]) h1 h2 1,a48 ⟨k.toNat,by lia⟩⟩
theorem ok1 {k:Hd}{p:Pl}(h:k.fine)(hp:p.fine):(Rl.hd k (.pl p)).ok:=⟨⟨h,hp⟩,by show 1≤7;decide⟩
theorem ok0 {p:Pl}(hp:p.fine):(Rl.pl p).ok:=⟨hp,Nat.zero_le _⟩
inductive ao6 (H:Hp)(Q:V→Hp→Prop):List V→Prop where
 | mk (c:Int) (far:Int) (p:Pl):(M5 far)→(p.fine)→(∀ (r:Rl) (H':Hp),H<+:H'→r.ok→Q (rv r) H')→ao6 H Q ([.int c,.int far,pv p])
noncomputable def X1:Ctr:=fun vs H Q _=>ao6 H Q vs
theorem be4 {c far h5:Int}{v2 v3:V}{t5 t7 t8:Option V}{H:Hp}{X:XL}{Q:List V→Hp→Prop}{t6:Option V}:∀ (ks:List Int) (acc:List V),Q (acc++ks.map fun k=>V.int (h5/24+k*(1+c/1120%3))) H →
  n9 (av5 Θb (.bin .Add (.bin .FloorDiv (.loc 4) (.lit (.int 24))) (.bin .Mult (.loc 6) (.bin .Add (.lit (.int 1)) (.bin .Mod (.bin .FloorDiv (.loc 0) (.lit (.int 1120))) (.lit (.int 3)))))) X) (fun _=>True) 6
   [some (.int c),some (.int far),some v2,some v3,some (.int h5),t5,t6,t7,t8] (ks.map V.int) acc H Q:=by
 intro ks
 induction ks with
 | nil=>intro acc q;rw [List.map_nil,List.append_nil] at q;exact q
 | cons k ks ih =>
  intro acc q
  rw [List.map_cons,y9]
  simp_arith only [g5]
  refine ⟨aG1.mpr (.inr ⟨by lia,by lia⟩),?_⟩
  simp_arith only [g5]
  refine ih _ ?_
  rw [List.map_cons,List.append_cons] at q
  exact q
theorem aP8:∀ vs H Q X,X1 vs H Q X→v8 Θb f_l_head_by vs H Q X:=by
 rintro vs H Q X ⟨c,far,p,hfar,hp,q⟩
 refine i9 rfl ?_
 change j1 Θb f_l_head_by.body [some (.int c),some (.int far),some (pv p),none,none,none,none,none,none] H _ _
 have hf1:=hfar.1
 have hf2:=hfar.2
 refine e1_3 (bh0 (k:=c/280%4) (Int.emod_nonneg _ (by decide)) (Int.emod_lt_of_pos _ (by decide))) fun m hm hm1 hm2=>?_
 have hw:c%4=0∨c%4=1∨c%4=2∨c%4=3:=by lia
 have hh:x7 (far+c/4%70):=⟨by lia,by lia⟩
 refine b0 ?_
 generalize hK:sqX Θb (_::_)=K
 simp_arith only [b5]
 subst hK
 generalize hH:H++[O.list [V.str "from",.str "until",.str "also",.str "but"]]=H1
 have q:∀ (r:Rl) (H':Hp),H1<+:H'→r.ok→Q (rv r) H':=fun r H' hp=>q r H' (by subst hH;exact b8.trans hp)
 rcases hw with e|e|e|e
 ·rw [e];simp_arith only [K4]
  exact q (.hd (.frm _) (.pl p)) H1 (List.prefix_refl _) (ok1 hh hp)
 ·rw [e];simp_arith only [F6]
  exact q (.hd (.til _) (.pl p)) H1 (List.prefix_refl _) (ok1 hh hp)
 ·rw [e];simp_arith only [K1]
  exact q (.hd (.als _) (.pl p)) H1 (List.prefix_refl _) (ok1 hh hp)
 ·rw [e];simp_arith only [P9,b5,hm]
  refine ⟨⟨by lia,by lia⟩,?_⟩
  rw [C5]
  refine be4 _ [] ?_
  rw [List.nil_append]
  have hlen:=Y6 0 m
  refine ⟨by rw [List.length_map];lia,?_⟩
  have e2:((m9 0 m).map fun k=>V.int ((far+c/4%70)/24+k*(1+c/1120%3)))=((m9 0 m).map fun k=>(far+c/4%70)/24+k*(1+c/1120%3)).map V.int:=by rw [List.map_map];rfl
  rw [e2]
  refine q (.hd (.but _) (.pl p)) _ (b8.trans b8) (ok1 ⟨by rw [List.length_map];lia,by rw [List.length_map];lia,aK5 (by lia) (by lia) (by lia) ?_⟩ hp)
  have:m*(1+c/1120%3)≤20*3:=Int.mul_le_mul hm2 (by lia) (by lia) (by decide)
  lia
noncomputable def Θc:Orc:=ext "_law_head_by" X1 Θb
noncomputable def bv4:Ctr:=fun vs H Q _=>∃ c:Int,vs=[.int c]∧∀ (f:Int) (H':Hp),H<+:H'→M5 f→Q (.int f) H'
theorem co5 {i:Int}{H:Hp}{Q:V→Hp→Prop}:s9 .Mod (.int i) (.int 1000000) H Q=Q (.int (i%1000000)) H:=cT rfl
theorem cm4 {i:Int}{H:Hp}{Q:V→Hp→Prop}:s9 .Mod (.int i) (.int 999999980000) H Q=Q (.int (i%999999980000)) H:=cT rfl
theorem bX1:∀ vs H Q X,bv4 vs H Q X→v8 Θc ar5 vs H Q X:=by
 rintro vs H Q X ⟨c,rfl,q⟩
 refine i9 rfl ?_
 have hw:c%4=0∨c%4=1∨c%4=2∨c%4=3:=by lia
 simp_arith only [ar5,E2,List.map_cons,List.map_nil,List.replicate,List.cons_append,List.nil_append,↓co5,↓cm4,b5]
 rcases hw with e|e|e|e
 ·rw [e];simp_arith only [g5];exact q _ _ b8 ⟨by decide,by decide⟩
 ·rw [e];simp_arith only [g5];exact q _ _ b8 ⟨by lia,by lia⟩
 ·rw [e];simp_arith only [g5];exact q _ _ b8 ⟨by lia,by lia⟩
 ·rw [e];simp_arith only [g5];exact q _ _ b8 ⟨by decide,by decide⟩
noncomputable def Θd:Orc:=ext "_law_far" bv4 Θc
end Mine
namespace Mine
open PySem
noncomputable abbrev ABC:Str:="abcdefghijklmnopqrstuvwxyz"
theorem be9:∀ k:Fin 26,aJ0 ABC.cps.toList (k.val:Int)=some (97+k.val):=by decide +kernel
theorem aT3 {i:Int}(h1:0≤i)(h2:i<26):aJ0 ABC.cps.toList i=some (97+i.toNat):=by
 have:=be9 ⟨i.toNat,by lia⟩
 simp only [Int.toNat_of_nonneg h1] at this
 exact this
theorem ac2 {x:Str}{c:Nat}:(x++(⟨#[c]⟩:Str)).cps.toList=x.cps.toList++[c]:=Array.toList_append
theorem aC2 {x:Str}{c:Nat}:(x++(⟨#[c]⟩:Str)).length=x.length+1:=by
 show (x++(⟨#[c]⟩:Str)).cps.size=x.cps.size+1
 rw [←Array.length_toList,ac2,List.length_append,Array.length_toList];rfl
theorem bj2 {x:Str}{c:Nat}(h:ba2 x)(hc:97≤c∧c≤122):ba2 (x++(⟨#[c]⟩:Str)):=by
 intro d hd
 rw [ac2] at hd
 rcases List.mem_append.mp hd with q|q
 ·exact h d q
 ·rw [List.mem_singleton.mp q];exact hc
noncomputable def plc (sh:Int):Nat:=(sh/2%12).toNat
noncomputable def bw8 (sh k:Int):Nat:=97+(sh/24%2*13+k).toNat
noncomputable def lowY (x:Str):Prop:=∀ c∈x.cps.toList,97≤c∧c≤121
theorem lowY.s {x:Str}(h:lowY x):ba2 x:=fun c hc=>⟨(h c hc).1,Nat.le_succ_of_le (h c hc).2⟩
theorem a07 {x:Str}{c:Nat}(h:lowY x)(hc:97≤c∧c≤121):lowY (x++(⟨#[c]⟩:Str)):=by
 intro d hd
 rw [ac2] at hd
 rcases List.mem_append.mp hd with q|q
 ·exact h d q
 ·rw [List.mem_singleton.mp q];exact hc
noncomputable def Tag (sh k:Int)(x:Str):Prop:=if sh%6=4 then x.length=k.toNat+1∧lowY x else x.cps.toList[plc sh]? = some (bw8 sh k)
theorem Tag.ne {sh k k':Int}{x y:Str}(h0:0≤k)(h1:k<k')(h:Tag sh k x)(h':Tag sh k' y):x≠y:=by
 intro e
 subst e
 unfold Tag at h h'
 by_cases c:sh%6=4
 ·rw [if_pos c] at h h';have:=h.1;have:=h'.1;lia
 ·rw [if_neg c] at h h'
  rw [h] at h'
  have:=Option.some.inj h'
  unfold bw8 at this
  lia
theorem Tag.nz {sh k:Int}{x:Str}(h0:0≤k)(h1:k≤6)(h:Tag sh k x):∃ c∈x.cps.toList,c≠122:=by
 unfold Tag at h
 by_cases d:sh%6=4
 ·rw [if_pos d] at h
  have hl:x.cps.toList.length=k.toNat+1:=(Array.length_toList ..).trans h.1
  cases e:x.cps.toList with
  | nil=>rw [e] at hl;exact nomatch hl
  | cons c r=>exact ⟨c,.head _,by have:=(h.2 c (by rw [e];exact .head _)).2;lia⟩
 ·rw [if_neg d] at h
  exact ⟨_,List.mem_of_getElem? h,by unfold bw8;lia⟩
theorem br4:ba2 "":=fun c h=>by cases h
theorem a75:lowY "":=fun c h=>by cases h
inductive am4 (H:Hp)(Q:V→Hp→Prop):List V→Prop where
 | mk (sh:Int) (ce:Int) (k:Int):(0≤k)→(k≤11)→(∀ x,ao1 x→Tag sh k x→Q (.str x) H)→am4 H Q ([.int sh,.int ce,.int k])
noncomputable def af5:Ctr:=fun vs H Q _=>am4 H Q vs
theorem aH1 {i j:Int}{H:Hp}{Q:V→Hp→Prop}(h:(smI i||smI j)=true):s9 .Mult (.int i) (.int j) H Q=Q (.int (i*j)) H:=cT h
theorem ax1 {i j:Int}{H:Hp}{Q:V→Hp→Prop}(h:bP6 j=true):s9 .Mod (.int i) (.int j) H Q=Q (.int (i%j)) H:=cT h
theorem ch7 {i j:Int}(h:-5≤j∧j≤1000):(smI i||smI j)=true:=aG1.mpr (.inr (by lia))
theorem bS3 {j:Int}(h:1≤j∧j≤1000000):bP6 j=true:=aa0.mpr (by lia)
theorem bt2 {XF:XS}{sh ce k:Int}{v4:V}{t7 t8 t9:Option V}{H:Hp}{Q:QS}:∀ (js:List Int) (x:Str) (t6:Option V),lowY x→x.length+js.length≤12 →
  (∀ x' t6',lowY x'→x'.length=x.length+js.length→Q .next [some (.int sh),some (.int ce),some (.int k),some (.str ABC),some v4,some (.str x'),t6',t7,t8,t9] H) →
  j7 (A4 Θd [(.assign 5 (.bin .Add (.loc 5) (.sub (.loc 3) (.bin .Mod (.bin .Add (.bin .FloorDiv (.loc 0) (.lit (.int 6))) (.bin .Mult (.loc 6) (.bin .Add (.lit (.int 1)) (.bin .Mod (.bin .FloorDiv (.loc 0) (.lit (.int 150))) (.lit (.int 5)))))) (.lit (.int 25))))))] XF) (fun _=>True) 6 (js.map V.int)
   [some (.int sh),some (.int ce),some (.int k),some (.str ABC),some v4,some (.str x),t6,t7,t8,t9] H Q:=by
 intro js
 induction js with
 | nil=>intro x t6 hl hz q;exact q x t6 hl rfl
 | cons j js ih =>
  intro x t6 hl hz q
  rw [List.map_cons,g4]
  rw [List.length_cons] at hz q
  have hi:=aT3 (i:=(sh/6+j*(1+sh/150%5))%25) (Int.emod_nonneg _ (by decide)) (by have:=Int.emod_lt_of_pos (sh/6+j*(1+sh/150%5)) (show (0:Int)<25 by decide);lia)
  have hc:97≤97+((sh/6+j*(1+sh/150%5))%25).toNat∧97+((sh/6+j*(1+sh/150%5))%25).toNat≤121:=by
   have:=Int.emod_lt_of_pos (sh/6+j*(1+sh/150%5)) (show (0:Int)<25 by decide)
   lia
  simp_arith only [↓G5,↓r9,↓F8,↓X2,↓E9,↓W7,↓F0,hi,↓aH1 (ch7 (i:=j) (j:=1+sh/150%5) (by lia))]
  refine ⟨by show x.length+1≤_;lia,ih _ _ (a07 hl hc) (by rw [aC2];lia) fun x' t6' h1 h2=>q x' t6' h1 (by rw [h2,aC2];lia)⟩
theorem bq8 {XF:XS}{sh ce k:Int}{t7 t8 t9:Option V}{H:Hp}{Q:QS}(hk:0≤k∧k≤11):∀ (n:Nat) (j:Nat) (x:Str) (t6:Option V),ba2 x→x.length=j→j+n≤12→(plc sh<j→x.cps.toList[plc sh]? = some (bw8 sh k)) →
  (∀ x' t6',ba2 x'→x'.length=j+n→(plc sh<j+n→x'.cps.toList[plc sh]? = some (bw8 sh k))→Q .next [some (.int sh),some (.int ce),some (.int k),some (.str ABC),some (.int (sh/2%12)),some (.str x'),t6',t7,t8,t9] H) →
  j7 (A4 Θd [(.ite (.cmp (.loc 6) .Eq (.loc 4)) [(.assign 5 (.bin .Add (.loc 5) (.sub (.loc 3) (.bin .Add (.bin .Mult (.bin .Mod (.bin .FloorDiv (.loc 0) (.lit (.int 24))) (.lit (.int 2))) (.lit (.int 13))) (.loc 2)))))] [(.assign 5 (.bin .Add (.loc 5) (.sub (.loc 3) (.bin .Mod (.bin .Add (.bin .FloorDiv (.loc 1) (.lit (.int 288))) (.bin .Mult (.loc 6) (.bin .Add (.lit (.int 1)) (.bin .Mod (.loc 1) (.lit (.int 5)))))) (.lit (.int 26))))))])] XF) (fun _=>True) 6
   ((List.range' j n).map fun (m:Nat)=>V.int (m:Int)) [some (.int sh),some (.int ce),some (.int k),some (.str ABC),some (.int (sh/2%12)),some (.str x),t6,t7,t8,t9] H Q:=by
 intro n
 induction n with
 | zero=>intro j x t6 hl hx _ ht q;exact q x t6 hl hx ht
 | succ n ih =>
  intro j x t6 hl hx hz ht q
  show j7 _ _ _ (V.int (j:Int)::((List.range' (j+1) n).map fun (m:Nat)=>V.int (m:Int))) _ _ _
  rw [g4]
  have hi1:=aT3 (i:=sh/24%2*13+k) (by lia) (by lia)
  have hi2:=aT3 (i:=(ce/288+(j:Int)*(1+ce%5))%26) (Int.emod_nonneg _ (by decide)) (Int.emod_lt_of_pos _ (by decide))
  have hpl:0≤sh/2%12:=by lia
  have nxt:∀ c,97≤c∧c≤122→(plc sh=j→c=bw8 sh k)→j7 (A4 Θd _ XF) (fun _=>True) 6 ((List.range' (j+1) n).map fun (m:Nat)=>V.int (m:Int)) [some (.int sh),some (.int ce),some (.int k),some (.str ABC),some (.int (sh/2%12)),some (.str (x++(⟨#[c]⟩:Str))),some (.int (j:Int)),t7,t8,t9] H Q:=fun c hc hp=>by
   refine ih (j+1) _ _ (bj2 hl hc) (by rw [aC2,hx]) (by lia) (fun h=>?_) fun x' t6' h1 h2 h3=>q x' t6' h1 (by lia) fun h=>h3 (by lia)
   rw [ac2]
   have hxl:x.cps.toList.length=j:=by rw [Array.length_toList];exact hx
   by_cases hj:plc sh=j
   ·rw [List.getElem?_append_right (by lia),hxl,hj,Nat.sub_self,←hp hj];rfl
   ·rw [List.getElem?_append_left (by lia)];exact ht (by lia)
  simp_arith only [↓G5,↓r9,↓F8,↓X2,↓E9,↓W7,↓F0,hi1,hi2,↓aH1 (ch7 (i:=(j:Int)) (j:=1+ce%5) (by lia))]
  refine ⟨fun h=>⟨by show x.length+1≤_;lia,?_⟩,fun h=>⟨by show x.length+1≤_;lia,?_⟩⟩
  ·exact nxt _ (by lia) fun _=>rfl
  ·refine nxt _ ?_ fun hp=>absurd ?_ h
   ·have:=Int.emod_lt_of_pos (ce/288+(j:Int)*(1+ce%5)) (show (0:Int)<26 by decide)
    lia
   ·unfold plc at hp;lia
theorem J3 {b:Int}:E4 0 b=(List.range' 0 b.toNat).map fun (m:Nat)=>V.int (m:Int):=by
 unfold E4
 rw [←List.range_eq_range',show b-0=b by lia]
 exact List.map_congr_left fun k _=>by rw [Int.zero_add]
theorem aT9:∀ vs H Q X,af5 vs H Q X→v8 Θd f_l_name_by vs H Q X:=by
 rintro vs H Q X ⟨sh,ce,k,h0,h1,q⟩
 refine i9 rfl ?_
 change j1 Θd f_l_name_by.body [some (.int sh),some (.int ce),some (.int k),none,none,none,none,none,none,none] H _ _
 have two:∀ ce:Int,¬ sh%6=4→j1 Θd (f_l_name_by.body.drop 5) [some (.int sh),some (.int ce),some (.int k),some (.str ABC),some (.int (sh/2%12)),some (.str ""),none,none,none,none] H (rQ Q) (rX X):=fun ce h6=>by
  refine b0 ?_
  generalize hK:sqX Θd (_::_)=K
  have hp1:0≤sh/2%12:=by lia
  have hp2:sh/2%12<12:=by lia
  have he1:=Int.emod_nonneg (ce/24) (show 12-sh/2%12≠0 by lia)
  have he2:=Int.emod_lt_of_pos (ce/24) (show 0<12-sh/2%12 by lia)
  simp_arith only [↓G5,↓r9,↓F8,↓X2,↓E9,↓W7,↓F0,↓ax1 (bS3 (j:=12-sh/2%12) (by lia))]
  refine ⟨⟨by lia,by lia⟩,?_⟩
  rw [J3]
  subst hK
  refine bq8 ⟨h0,h1⟩ _ 0 _ _ br4 rfl (by lia) (fun h=>by lia) fun x' t6' k1 k2 k3=>?_
  simp_arith only [↓G5,↓r9,↓F8,↓X2,↓E9,↓W7,↓F0]
  refine q x' ⟨by lia,by lia,k1⟩ ?_
  unfold Tag
  rw [if_neg h6]
  exact k3 (by unfold plc;lia)
 have main:∀ ce:Int,j1 Θd (f_l_name_by.body.drop 3) [some (.int sh),some (.int ce),some (.int k),some (.str ABC),some (.int (sh/2%12)),none,none,none,none,none] H (rQ Q) (rX X):=fun ce=>by
  refine b0 ?_
  generalize hK:sqX Θd (_::_)=K
  simp_arith only [↓G5,↓r9,↓F8,↓X2,↓E9,↓W7,↓F0]
  subst hK
  refine b0 ?_
  generalize hK:sqX Θd (_::_)=K
  simp_arith only [↓G5,↓r9,↓F8,↓X2,↓E9,↓W7,↓F0]
  refine ⟨fun h6=>⟨⟨by lia,by lia⟩,?_⟩,fun h6=>by subst hK;exact two ce h6⟩
  rw [C5]
  have hlen:=Y6 0 (k+1)
  refine bt2 _ _ _ a75 (by show 0+_≤_;lia) fun x' t6' k1 k2=>?_
  have k2:x'.length=0+(m9 0 (k+1)).length:=k2
  simp_arith only [↓G5,↓r9,↓F8,↓X2,↓E9,↓W7,↓F0]
  subst hK
  refine q x' ⟨by lia,by lia,k1.s⟩ ?_
  unfold Tag
  rw [if_pos h6];exact ⟨by lia,k1⟩
 refine b0 ?_
 generalize hK:sqX Θd (_::_)=K
 simp_arith only [↓G5,↓r9,↓F8,↓X2,↓E9,↓W7,↓F0]
 subst hK
 refine b0 ?_
 generalize hK:sqX Θd (_::_)=K
 simp_arith only [↓G5,↓r9,↓F8,↓X2,↓E9,↓W7,↓F0]
 subst hK
 refine b0 ?_
 generalize hK:sqX Θd (_::_)=K
 simp_arith only [↓G5,↓r9,↓F8,↓X2,↓E9,↓W7,↓F0]
 subst hK
 exact ⟨fun _=>main _,fun _=>main _⟩
noncomputable def Θe:Orc:=ext "_law_name_by" af5 Θd
end Mine
namespace Mine
open PySem
theorem b08:Θe "_law_weekdays" = D0:=rfl
theorem b69:Θe "_law_plain_by" = I0:=rfl
noncomputable def ad9:Ctr:=fun vs H Q _=>∃ i a b c far,vs=[.ref i,.int far]∧b6 H i=some [.int a,.int b,.int c]∧M5 far∧∀ (p:Pl) (H':Hp),H<+:H'→p.fine→Q (pv p) H'
theorem aQ3:∀ vs H Q X,ad9 vs H Q X→v8 Θe f_l_free_by vs H Q X:=by
 rintro vs H Q X ⟨i,a,b,c,far,rfl,hl,hfar,q⟩
 refine i9 rfl ?_
 have hf1:=hfar.1
 have hf2:=hfar.2
 change j1 Θe f_l_free_by.body [some (.ref i),some (.int far),none,none,none,none,none] H _ _
 refine b0 ?_
 generalize hK:sqX Θe (_::_)=K
 simp_arith only [hl]
 subst hK
 refine b0 ?_
 generalize hK:sqX Θe (_::_)=K
 simp_arith only [hl]
 subst hK
 have hs:1≤1+a/4%5∧1+a/4%5≤5:=⟨by lia,by lia⟩
 generalize 1+a/4%5=sz at *
 have hh:x7 (far+b%6):=⟨by lia,by lia⟩
 refine b0 ?_
 generalize hK:sqX Θe (_::_)=K
 simp_arith only [hl]
 subst hK
 refine ⟨fun _=>q (.every _ _ _) H (List.prefix_refl _) ⟨hh,⟨by lia,by lia⟩,by lia,by lia⟩,fun _=>?_⟩
 refine b0 ?_
 generalize hK:sqX Θe (_::_)=K
 simp_arith only [hl]
 subst hK
 refine ⟨fun _=>q (.every _ _ _) H (List.prefix_refl _) ⟨hh,⟨hs.1,by lia⟩,by lia,by lia⟩,fun _=>?_⟩
 refine b0 ?_
 generalize hK:sqX Θe (_::_)=K
 simp_arith only [hl,↓b08,D0]
 refine ⟨fun _=>⟨_,rfl,fun H' hp=>?_⟩,fun _=>?_⟩
 ·simp_arith only [b7 hp hl]
  subst hK
  exact q (.week _ _ _) H' hp ⟨⟨by lia,by lia⟩,⟨by lia,by lia⟩,aV4 c⟩
 subst hK
 simp_arith only [↓b69]
 exact ⟨i,a,b,c,far,5,rfl,hl,hfar,⟨by decide,by decide⟩,q⟩
noncomputable def Θf:Orc:=ext "_law_free_by" ad9 Θe
structure Ad where
 i:Nat
 f:Nat
 u:Nat
 e:Nat
noncomputable def Ad.all (a:Ad):List Nat:=[a.i,a.f,a.u,a.e]
noncomputable def ap4 (q:Int × Int):V:=.tup [.int q.1,.int q.2]
structure PA (H:Hp)(a:Ad)(p:Prs)(ms:List (Int × Int)):Prop where
 li:b6 H a.i=some [.str p.nm,.ref a.f,.ref a.u,.ref a.e]
 lf:b6 H a.f=some (p.fr.map rv)
 lu:b6 H a.u=some (p.bu.map rv)
 le:b6 H a.e=some (ms.map ap4)
section
variable {a:Ad}
theorem a76:a.i∈a.all:=.head _
theorem bi8:a.f∈a.all:=.tail _ (.head _)
theorem aN6:a.u∈a.all:=.tail _ (.tail _ (.head _))
theorem bf7:a.e∈a.all:=.tail _ (.tail _ (.tail _ (.head _)))
theorem PA.fr {F:List Nat}{H H':Hp}{p:Prs}{ms:List (Int × Int)}(P:PA H a p ms)(f:Fr F H H')(hd:∀ i∈a.all,i∉F):PA H' a p ms:=⟨f.list (hd _ a76) P.li,f.list (hd _ bi8) P.lf,f.list (hd _ aN6) P.lu,f.list (hd _ bf7) P.le⟩
theorem PA.lt {H:Hp}{p:Prs}{ms:List (Int × Int)}(P:PA H a p ms):∀ i∈a.all,i<H.length:=fun i hi=>by
 rcases List.mem_cons.mp hi with q|hi
 ·rw [q];exact f9 P.li
 rcases List.mem_cons.mp hi with q|hi
 ·rw [q];exact f9 P.lf
 rcases List.mem_cons.mp hi with q|hi
 ·rw [q];exact f9 P.lu
 rw [List.mem_singleton.mp hi];exact f9 P.le
end
noncomputable def PsAt (H:Hp)(me:Prs→List (Int × Int)):List Ad→List Prs→Prop
 | [],ps=>ps=[]
 | a::as,ps=>∃ p qs,ps=p::qs∧PA H a p (me p)∧PsAt H me as qs
noncomputable def ads (as:List Ad):List Nat:=as.flatMap Ad.all
theorem y4 {as:List Ad}{a:Ad}{i:Nat}(h:a∈as)(hi:i∈a.all):i∈ads as:=List.mem_flatMap.mpr ⟨a,h,hi⟩
section
variable {H H':Hp} {me:Prs→List (Int × Int)}
theorem PsAt.fr {F:List Nat}(f:Fr F H H'):∀ {as:List Ad} {ps:List Prs},(∀ i∈ads as,i∉F)→PsAt H me as ps→PsAt H' me as ps
 | [],_,_,h=>h
 | a::_,_,hd,⟨p,qs,e,h,r⟩=>⟨p,qs,e,h.fr f fun i hi=>hd i (y4 List.mem_cons_self hi),r.fr f fun i hi=>hd i (List.mem_append_right _ hi)⟩
theorem PsAt.pre (q:H<+:H'){as:List Ad}{ps:List Prs}(P:PsAt H me as ps):PsAt H' me as ps:=P.fr (F:=[]) (Fr.pre q) fun _ _ h=>nomatch h
theorem PsAt.lt:∀ {as:List Ad} {ps:List Prs},PsAt H me as ps→∀ i∈ads as,i<H.length
 | [],_,_,_,hi=>nomatch hi
 | a::_,_,⟨p,qs,e,h,r⟩,i,hi=>by
  rcases List.mem_append.mp (show i∈a.all++ads _ from hi) with q|q
  ·exact h.lt i q
  ·exact r.lt i q
theorem PsAt.snoc {a:Ad}{p:Prs}(hp:PA H a p (me p)):∀ {as:List Ad} {ps:List Prs},PsAt H me as ps→PsAt H me (as++[a]) (ps++[p])
 | [],ps,h=>by obtain rfl:=h;exact ⟨p,[],rfl,hp,rfl⟩
 | _::_,_,⟨b,qs,e,h,r⟩=>⟨b,qs++[p],by rw [e];rfl,h,r.snoc hp⟩
theorem PsAt.reverse:∀ {as:List Ad} {ps:List Prs},PsAt H me as ps→PsAt H me as.reverse ps.reverse
 | [],ps,h=>by obtain rfl:=h;exact rfl
 | _::_,_,⟨b,qs,e,h,r⟩=>by rw [e,List.reverse_cons,List.reverse_cons];exact r.reverse.snoc h
theorem PsAt.take:∀ (k:Nat) {as:List Ad} {ps:List Prs},PsAt H me as ps→PsAt H me (as.take k) (ps.take k)
 | 0,_,_,_=>rfl
 | k+1,[],ps,h=>by obtain rfl:=h;exact rfl
 | k+1,_::_,_,⟨b,qs,e,h,r⟩=>by rw [e];exact ⟨b,_,rfl,h,r.take k⟩
theorem PsAt.length:∀ {as:List Ad} {ps:List Prs},PsAt H me as ps→as.length=ps.length
 | [],ps,h=>by obtain rfl:=h;rfl
 | _::_,_,⟨b,qs,e,h,r⟩=>by rw [e,List.length_cons,List.length_cons,r.length]
end
noncomputable def i5 (as:List Ad):List V:=as.map fun a=>.ref a.i
structure Gp (p:Prs):Prop where
 nm:ao1 p.nm
 fine:p.fine
 fr:p.fr.length≤2
 bu:p.bu.length≤2
theorem bI6:Θf "_law_cell_at" = I1:=rfl
theorem b43:Θf "_law_free_by" = ad9:=rfl
theorem bn1:Θf "_law_plain_by" = I0:=rfl
theorem bD4:Θf "_law_head_by" = X1:=rfl
theorem b20:Θf "_law_name_by" = af5:=rfl
noncomputable abbrev peB:List IS:=bdy (f_l_people_by.body.getD 2 .fail)
structure PeS (n:Nat)(vs:List V)(Hs H:Hp)(ce:Nat)(cs:List Int):Prop where
 pre:Hs<+:H
 lt:n<Hs.length
 ppl:b6 Hs n=some vs
 cells:b6 H ce=some (cs.map V.int)
theorem PeS.to {n ce:Nat}{vs:List V}{Hs H H':Hp}{cs:List Int}(S:PeS n vs Hs H ce cs)(p:H<+:H'):PeS n vs Hs H' ce cs:=⟨S.pre.trans p,S.lt,S.ppl,b7 p S.cells⟩
structure Rls (Hs H:Hp)(f:Nat)(rs:List Rl)(k:Nat):Prop where
 at':b6 H f=some (rs.map rv)
 fine:∀ r∈rs,r.ok
 len:rs.length≤k
 new:Hs.length≤f
theorem Rls.to {Hs H H':Hp}{f k:Nat}{rs:List Rl}(S:Rls Hs H f rs k)(p:H<+:H'):Rls Hs H' f rs k:=⟨b7 p S.at',S.fine,S.len,S.new⟩
noncomputable def PeQ (n:Nat)(vs:List V)(Hs:Hp)(sh k:Int)(QF:QS)(a b c d:V):Prop:=∀ (ad:Ad) (p:Prs) (H3:Hp) (t7 t8 t9 t10 t11 t12:Option V),Fr [n] Hs H3→(∀ x∈ad.all,Hs.length≤x)→ad.all.Nodup→b6 H3 n=some (vs++[.ref ad.i])→PA H3 ad p []→Gp p→Tag sh k p.nm →
 QF .next [some a,some b,some c,some d,some (.ref n),some (.int sh),some (.int k),t7,t8,t9,t10,t11,t12] H3
theorem nd4 {f u m:Nat}(hf:f<m)(hu:u<m)(h:u≠f):(Ad.all ⟨m+1,f,u,m⟩).Nodup:=by
 unfold Ad.all
 simp only [List.nodup_cons,List.mem_cons,List.not_mem_nil,or_false,not_or,not_false_eq_true,List.nodup_nil,and_true]
 lia
section
variable {n ce f u:Nat} {vs:List V} {Hs H:Hp} {fr bu:List Rl} {sh k c0 far:Int} {cr:List Int} {QF:QS} {XF:XS} {a b c:V} {t9 t10 t11 t12:Option V}
theorem pe8 (S:PeS n vs Hs H ce (c0::cr))(F:Rls Hs H f fr 2)(U:Rls Hs H u bu 2)(hfu:u≠f)(hv:vs.length≤100)(hk:0≤k∧k≤11)(q:PeQ n vs Hs sh k QF a b c (.int far)) :
  j1 Θf (peB.drop 8) [some a,some b,some c,some (.int far),some (.ref n),some (.int sh),some (.int k),some (.ref ce),some (.ref f),some (.ref u),t10,t11,t12] H QF XF:=by
 have hce:b6 H ce=some (.int c0::cr.map V.int):=S.cells
 have hpp:=b7 S.pre S.ppl
 have hpp2:=b7 (b8 (o:=.list [])) hpp
 change j1 Θf [.expr (.meth (.loc 4) .append [.lst [(.call (.fn "_law_name_by") [(.loc 5),(.bin .FloorDiv (.sub (.loc 7) (.lit (.int 0))) (.lit (.int 36))),(.loc 6)]),(.loc 8),(.loc 9),(.lst [])]])] _ _ _ _
 simp_arith only [hpp,hce,↓b20]
 refine ⟨⟨_,hpp⟩,sh,_,k,hk.1,hk.2,fun x hx ht=>?_⟩
 have hp3:=fun l=>b7 (b8 (o:=.list l)) hpp2
 simp_arith only [hp3]
 refine ⟨by lia,?_⟩
 have hlt:=S.lt
 have hle:=S.pre.length_le
 have fl:=f9 F.at'
 have ul:=f9 U.at'
 have fn:=F.new
 have un:=U.new
 have pp:H<+:H++[O.list []]++[O.list [V.str x,V.ref f,V.ref u,V.ref H.length]]:=b8.trans b8
 have e1:(H++[O.list []]).length=H.length+1:=by rw [List.length_append];rfl
 have l2:b6 (H++[O.list []]++[O.list [V.str x,V.ref f,V.ref u,V.ref H.length]]) (H.length+1)=some [V.str x,V.ref f,V.ref u,V.ref H.length]:=e1▸b5
 have P:PA (H++[O.list []]++[O.list [V.str x,V.ref f,V.ref u,V.ref H.length]]) ⟨H.length+1,f,u,H.length⟩ ⟨x,fr,bu⟩ []:=⟨l2,b7 pp F.at',b7 pp U.at',b7 b8 b5⟩
 have hge:∀ y∈Ad.all ⟨H.length+1,f,u,H.length⟩,Hs.length≤y:=fun y hy=>by
  rcases List.mem_cons.mp hy with q|hy
  ·rw [q];show Hs.length≤H.length+1;lia
  rcases List.mem_cons.mp hy with q|hy
  ·rw [q];exact fn
  rcases List.mem_cons.mp hy with q|hy
  ·rw [q];exact un
  rw [List.mem_singleton.mp hy];exact hle
 have f1:Fr [n] Hs (H++[O.list []]++[O.list [V.str x,V.ref f,V.ref u,V.ref H.length]]):=Fr.pre (S.pre.trans pp)
 rw [e1]
 exact q ⟨H.length+1,f,u,H.length⟩ ⟨x,fr,bu⟩ _ _ _ _ _ _ _ (f1.trans Fr.set fun _ h=>.inl h) hge (nd4 fl ul hfu) (j8 (hp3 _)) (P.fr Fr.set fun y hy=>m6 (by have:=hge y hy;lia)) ⟨hx,⟨F.fine,U.fine⟩,F.len,U.len⟩ ht
theorem pe7 (S:PeS n vs Hs H ce (c0::cr))(F:Rls Hs H f fr 2)(U:Rls Hs H u bu 2)(hfu:u≠f)(hv:vs.length≤100)(hk:0≤k∧k≤11)(q:PeQ n vs Hs sh k QF a b c (.int far)) :
  j1 Θf (peB.drop 7) [some a,some b,some c,some (.int far),some (.ref n),some (.int sh),some (.int k),some (.ref ce),some (.ref f),some (.ref u),t10,t11,t12] H QF XF:=by
 have hce:b6 H ce=some (.int c0::cr.map V.int):=S.cells
 refine b0 ?_
 generalize hK:sqX Θf (_::_)=K
 simp_arith only [hce]
 subst hK
 refine ⟨fun _=>pe8 (S.to b8) (fr:=[]) ⟨b5,fun _ h=>(nomatch h),Nat.zero_le _,S.pre.length_le⟩ (U.to b8) (Nat.ne_of_lt (f9 U.at')) hv hk q,fun _=>pe8 S F U hfu hv hk q⟩
end
theorem PeS.set {n ce u:Nat}{vs:List V}{Hs H:Hp}{cs:List Int}{o:O}(S:PeS n vs Hs H ce cs)(hu:Hs.length≤u)(hne:u≠ce):PeS n vs Hs (H.set u o) ce cs:=⟨aA9 S.pre hu,S.lt,S.ppl,by rw [w6 hne];exact S.cells⟩
theorem Rls.set {Hs H:Hp}{f u k:Nat}{rs:List Rl}{o:O}(F:Rls Hs H f rs k)(hne:u≠f):Rls Hs (H.set u o) f rs k:=⟨by rw [w6 hne];exact F.at',F.fine,F.len,F.new⟩
theorem Rls.app {Hs H:Hp}{u k:Nat}{rs:List Rl}{r:Rl}(U:Rls Hs H u rs k)(hr:r.ok):Rls Hs (H.set u (.list (rs.map rv++[rv r]))) u (rs++[r]) (k+1):=by
 refine ⟨?_,fun x hx=>?_,?_,U.new⟩
 ·rw [List.map_append];exact j8 U.at'
 ·rcases List.mem_append.mp hx with q|q
  ·exact U.fine x q
  ·rw [List.mem_singleton.mp q];exact hr
 ·rw [List.length_append];exact Nat.succ_le_succ U.len
theorem Rls.le {Hs H:Hp}{u k k':Nat}{rs:List Rl}(U:Rls Hs H u rs k)(h:k≤k'):Rls Hs H u rs k':=⟨U.at',U.fine,Nat.le_trans U.len h,U.new⟩
section
variable {a0 a1 a2 a3 a4 a5 a6 a7 a8 a9 a10 a11 a12:V}
theorem k4:idx [a0,a1,a2,a3,a4,a5,a6,a7,a8,a9,a10,a11,a12] 4=some a4:=rfl
theorem k10:idx [a0,a1,a2,a3,a4,a5,a6,a7,a8,a9,a10,a11,a12] 10=some a10:=rfl
theorem s1:aC0 (.int 1) (.int 4) [a0,a1,a2,a3,a4,a5,a6,a7,a8,a9,a10,a11,a12]=some [a1,a2,a3]:=rfl
theorem s4:aC0 (.int 4) (.int 7) [a0,a1,a2,a3,a4,a5,a6,a7,a8,a9,a10,a11,a12]=some [a4,a5,a6]:=rfl
theorem s7:aC0 (.int 7) (.int 10) [a0,a1,a2,a3,a4,a5,a6,a7,a8,a9,a10,a11,a12]=some [a7,a8,a9]:=rfl
theorem s10:aC0 (.int 10) (.int 13) [a0,a1,a2,a3,a4,a5,a6,a7,a8,a9,a10,a11,a12]=some [a10,a11,a12]:=rfl
end
theorem bQ0 (b:Bool):∃ m:Int,idx [V.int 4,.int 48] (if b=true then 1 else 0)=some (.int m)∧m7 m:=by
 cases b with
 | true=>exact ⟨48,rfl,by decide,by decide⟩
 | false=>exact ⟨4,rfl,by decide,by decide⟩
section
variable {n ce f u:Nat} {vs:List V} {Hs H:Hp} {fr bu:List Rl} {sh k far c0 c1 c2 c3 c4 c5 c6 c7 c8 c9 c10 c11 c12:Int} {QF:QS} {XF:XS} {a b c:V} {t8 t9 t10 t11 t12:Option V}
theorem pe6 (S:PeS n vs Hs H ce [c0,c1,c2,c3,c4,c5,c6,c7,c8,c9,c10,c11,c12])(F:Rls Hs H f fr 2)(U:Rls Hs H u bu 1)(hcu:u≠ce)(hfu:u≠f)(hfar:M5 far)(hv:vs.length≤100)(hk:0≤k∧k≤11)(q:PeQ n vs Hs sh k QF a b c (.int far)) :
  j1 Θf (peB.drop 6) [some a,some b,some c,some (.int far),some (.ref n),some (.int sh),some (.int k),some (.ref ce),some (.ref f),some (.ref u),t10,t11,t12] H QF XF:=by
 have hce:b6 H ce=some [.int c0,.int c1,.int c2,.int c3,.int c4,.int c5,.int c6,.int c7,.int c8,.int c9,.int c10,.int c11,.int c12]:=S.cells
 refine b0 ?_
 generalize hK:sqX Θf (_::_)=K
 simp_arith only [hce,k10,s10,↓bn1]
 refine ⟨fun _=>⟨⟨_,U.at'⟩,_,c10,c11,c12,far,3,rfl,b5,hfar,⟨by decide,by decide⟩,fun p H2 hp2 hpf=>?_⟩,fun _=>by subst hK;exact pe7 S F (U.le (by decide)) hfu hv hk q⟩
 simp_arith only [↓bD4]
 refine ⟨c10,far,p,hfar,hpf,fun r H3 hp3 hr=>?_⟩
 have pp:=b8.trans (hp2.trans hp3)
 have U3:=U.to pp
 simp_arith only [U3.at']
 refine ⟨by rw [List.length_map];have:=U3.len;lia,?_⟩
 subst hK
 exact pe7 ((S.to pp).set U.new hcu) ((F.to pp).set hfu) (U3.app hr) hfu hv hk q
theorem pe5 (S:PeS n vs Hs H ce [c0,c1,c2,c3,c4,c5,c6,c7,c8,c9,c10,c11,c12])(F:Rls Hs H f fr 2)(U:Rls Hs H u bu 0)(hcu:u≠ce)(hfu:u≠f)(hfar:M5 far)(hv:vs.length≤100)(hk:0≤k∧k≤11)(q:PeQ n vs Hs sh k QF a b c (.int far)) :
  j1 Θf (peB.drop 5) [some a,some b,some c,some (.int far),some (.ref n),some (.int sh),some (.int k),some (.ref ce),some (.ref f),some (.ref u),t10,t11,t12] H QF XF:=by
 have hce:b6 H ce=some [.int c0,.int c1,.int c2,.int c3,.int c4,.int c5,.int c6,.int c7,.int c8,.int c9,.int c10,.int c11,.int c12]:=S.cells
 have hce1:=fun o=>b7 (b8 (o:=o)) hce
 have hce2:=fun o o'=>b7 (b8 (o:=o')) (hce1 o)
 refine e1_2 (bQ0 (decide (c0/5%8=1))) fun m hm hm2=>?_
 refine b0 ?_
 generalize hK:sqX Θf (_::_)=K
 simp_arith only [hce,hce1,hce2,s7,b5,hm,↓bn1]
 refine ⟨fun _=>⟨⟨_,U.at'⟩,_,c7,c8,c9,far,m,rfl,b7 b8 b5,hfar,hm2,fun p H2 hp2 hpf=>?_⟩,fun _=>by subst hK;exact pe6 S F (U.le (by decide)) hcu hfu hfar hv hk q⟩
 have pp:=b8.trans (b8.trans hp2)
 have U3:=U.to pp
 simp_arith only [U3.at']
 refine ⟨by rw [List.length_map];have:=U3.len;lia,?_⟩
 subst hK
 exact pe6 ((S.to pp).set U.new hcu) ((F.to pp).set hfu) (U3.app (r:=.pl p) (ok0 hpf)) hcu hfu hfar hv hk q
theorem pe4 (S:PeS n vs Hs H ce [c0,c1,c2,c3,c4,c5,c6,c7,c8,c9,c10,c11,c12])(F:Rls Hs H f fr 2)(hfar:M5 far)(hv:vs.length≤100)(hk:0≤k∧k≤11)(q:PeQ n vs Hs sh k QF a b c (.int far)) :
  j1 Θf (peB.drop 4) [some a,some b,some c,some (.int far),some (.ref n),some (.int sh),some (.int k),some (.ref ce),some (.ref f),t9,t10,t11,t12] H QF XF:=by
 refine b0 ?_
 generalize hK:sqX Θf (_::_)=K
 simp_arith only [g5]
 subst hK
 have h1:=f9 S.cells
 have h2:=f9 F.at'
 exact pe5 (S.to b8) (F.to b8) (bu:=[]) ⟨b5,fun _ h=>(nomatch h),Nat.le_refl _,S.pre.length_le⟩ (by lia) (by lia) hfar hv hk q
theorem pe3 {p:Pl}(S:PeS n vs Hs H ce [c0,c1,c2,c3,c4,c5,c6,c7,c8,c9,c10,c11,c12])(F:Rls Hs H f (.pl p::fr) 2)(hcf:f≠ce)(hfar:M5 far)(hv:vs.length≤100)(hk:0≤k∧k≤11)(q:PeQ n vs Hs sh k QF a b c (.int far)) :
  j1 Θf (peB.drop 3) [some a,some b,some c,some (.int far),some (.ref n),some (.int sh),some (.int k),some (.ref ce),some (.ref f),t9,t10,t11,t12] H QF XF:=by
 have hce:b6 H ce=some [.int c0,.int c1,.int c2,.int c3,.int c4,.int c5,.int c6,.int c7,.int c8,.int c9,.int c10,.int c11,.int c12]:=S.cells
 have hf:b6 H f=some (pv p::fr.map rv):=F.at'
 refine b0 ?_
 generalize hK:sqX Θf (_::_)=K
 simp_arith only [hce,k4,hf,↓bD4]
 refine ⟨fun _=>⟨c4,far,p,hfar,(F.fine (.pl p) List.mem_cons_self).1,fun r H2 hp2 hr=>?_⟩,fun _=>by subst hK;exact pe4 S F hfar hv hk q⟩
 have F2:=F.to hp2
 have hf2:=b7 hp2 hf
 simp_arith only [hf2]
 refine ⟨by lia,?_⟩
 subst hK
 refine pe4 ((S.to hp2).set F.new hcf) (fr:=r::fr) ⟨j8 hf2,fun x hx=>?_,F.len,F.new⟩ hfar hv hk q
 rcases List.mem_cons.mp hx with e|e
 ·rw [e];exact hr
 ·exact F.fine x (List.mem_cons_of_mem _ e)
theorem pe2 {p:Pl}(S:PeS n vs Hs H ce [c0,c1,c2,c3,c4,c5,c6,c7,c8,c9,c10,c11,c12])(F:Rls Hs H f [.pl p] 1)(hcf:f≠ce)(hfar:M5 far)(hv:vs.length≤100)(hk:0≤k∧k≤11)(q:PeQ n vs Hs sh k QF a b c (.int far)) :
  j1 Θf (peB.drop 2) [some a,some b,some c,some (.int far),some (.ref n),some (.int sh),some (.int k),some (.ref ce),some (.ref f),t9,t10,t11,t12] H QF XF:=by
 have hce:b6 H ce=some [.int c0,.int c1,.int c2,.int c3,.int c4,.int c5,.int c6,.int c7,.int c8,.int c9,.int c10,.int c11,.int c12]:=S.cells
 refine b0 ?_
 generalize hK:sqX Θf (_::_)=K
 simp_arith only [hce,s4,↓bn1]
 refine ⟨fun _=>⟨⟨_,F.at'⟩,_,c4,c5,c6,far,5,rfl,b5,hfar,⟨by decide,by decide⟩,fun p2 H2 hp2 hpf=>?_⟩,fun _=>by subst hK;exact pe3 S (F.le (by decide)) hcf hfar hv hk q⟩
 have pp:=b8.trans hp2
 have F3:=F.to pp
 simp_arith only [F3.at']
 refine ⟨by rw [List.length_map];have:=F3.len;lia,?_⟩
 subst hK
 exact pe3 (fr:=[.pl p2]) ((S.to pp).set F.new hcf) (F3.app (r:=.pl p2) (ok0 hpf)) hcf hfar hv hk q
theorem pe1 (S:PeS n vs Hs H ce [c0,c1,c2,c3,c4,c5,c6,c7,c8,c9,c10,c11,c12])(hfar:M5 far)(hv:vs.length≤100)(hk:0≤k∧k≤11)(q:PeQ n vs Hs sh k QF a b c (.int far)) :
  j1 Θf (peB.drop 1) [some a,some b,some c,some (.int far),some (.ref n),some (.int sh),some (.int k),some (.ref ce),t8,t9,t10,t11,t12] H QF XF:=by
 have hce:b6 H ce=some [.int c0,.int c1,.int c2,.int c3,.int c4,.int c5,.int c6,.int c7,.int c8,.int c9,.int c10,.int c11,.int c12]:=S.cells
 refine b0 ?_
 generalize hK:sqX Θf (_::_)=K
 simp_arith only [hce,s1,↓b43]
 refine ⟨_,c1,c2,c3,far,rfl,b5,hfar,fun p H2 hp2 hpf=>?_⟩
 simp_arith only [g5]
 subst hK
 have pp:=b8.trans hp2
 have h1:=f9 S.cells
 have h2:=pp.length_le
 refine pe2 ((S.to pp).to b8) ⟨b5,fun r hr=>?_,Nat.le_refl _,Nat.le_trans S.pre.length_le h2⟩ (by lia) hfar hv hk q
 rw [List.mem_singleton.mp hr];exact ok0 hpf
end
theorem bn8 {ns:List Int}{at0 k far:Int}{v2 v4 v5:V}{t7 t8 t9 t10 t11 t12:Option V}{H:Hp}{X:XL}{Q:List V→Hp→Prop}(hz:ns.length≤1000):∀ (js:List Int) (acc:List V),Q (acc++js.map fun j=>V.int (cell ns (at0+13*k+j))) H →
  n9 (av5 Θf (.call (.fn "_law_cell_at") [(.loc 0),(.bin .Add (.bin .Add (.loc 1) (.bin .Mult (.lit (.int 13)) (.loc 6))) (.loc 10))]) X) (fun _=>True) 10
   [some (.scr ns),some (.int at0),some v2,some (.int far),some v4,some v5,some (.int k),t7,t8,t9,t10,t11,t12] (js.map V.int) acc H Q:=by
 intro js
 induction js with
 | nil=>intro acc q;rw [List.map_nil,List.append_nil] at q;exact q
 | cons j js ih =>
  intro acc q
  rw [List.map_cons,y9]
  simp_arith only [↓bI6,↓C3]
  refine ⟨hz,ih _ ?_⟩
  rw [List.map_cons,List.append_cons] at q
  exact q
theorem bw2:E4 0 13=[0,1,2,3,4,5,6,7,8,9,10,11,12].map V.int:=rfl
structure Ppl (H:Hp)(n:Nat)(as:List Ad)(ps:List Prs)(me:Prs→List (Int × Int)):Prop where
 ln:b6 H n=some (i5 as)
 at':PsAt H me as ps
 nd:(n::ads as).Nodup
theorem Ppl.pre {H H':Hp}{n:Nat}{as:List Ad}{ps:List Prs}{me:Prs→List (Int × Int)}(q:H<+:H')(P:Ppl H n as ps me):Ppl H' n as ps me:=⟨b7 q P.ln,P.at'.pre q,P.nd⟩
theorem Ppl.fr {F:List Nat}{H H':Hp}{n:Nat}{as:List Ad}{ps:List Prs}{me:Prs→List (Int × Int)}(P:Ppl H n as ps me)(f:Fr F H H')(hd:∀ i∈n::ads as,i∉F):Ppl H' n as ps me:=⟨f.list (hd n List.mem_cons_self) P.ln,P.at'.fr f fun i hi=>hd i (List.mem_cons_of_mem _ hi),P.nd⟩
theorem Ppl.lt {H:Hp}{n:Nat}{as:List Ad}{ps:List Prs}{me:Prs→List (Int × Int)}(P:Ppl H n as ps me):∀ i∈n::ads as,i<H.length:=fun i hi=>by
 rcases List.mem_cons.mp hi with q|q
 ·rw [q];exact f9 P.ln
 ·exact P.at'.lt i q
theorem Ppl.snoc {H H':Hp}{n:Nat}{as:List Ad}{ps:List Prs}{me:Prs→List (Int × Int)}{a:Ad}{p:Prs}(P:Ppl H n as ps me)(f:Fr [n] H H')(hn:b6 H' n=some (i5 as++[.ref a.i]))(ha:PA H' a p (me p))(hg:∀ x∈a.all,H.length≤x)(hd:a.all.Nodup):Ppl H' n (as++[a]) (ps++[p]) me:=by
 have nd:=List.nodup_cons.mp P.nd
 have lt:=P.lt
 have e:ads (as++[a])=ads as++a.all:=by unfold ads;rw [List.flatMap_append];show _++(a.all++[])=_;rw [List.append_nil]
 refine ⟨by rw [hn];unfold i5;rw [List.map_append];rfl,(P.at'.fr f fun i hi=>m6 fun q=>nd.1 (q▸hi)).snoc ha,?_⟩
 rw [e,←List.cons_append]
 exact List.nodup_append.mpr ⟨P.nd,hd,fun x hx y hy q=>by have:=lt x hx;have:=hg y hy;lia⟩
theorem bm4 {ns:List Int}{at0 many far sh:Int}{n:Nat}{Q:QS}{XF:XS}(hz:ns.length≤1000)(hfar:M5 far)
  (q:∀ as ps H' L',Ppl H' n as ps (fun _=>[])→((ps.length:Int)=many)→(∀ (i:Nat) p,ps[i]? = some p→Tag sh i p.nm∧Gp p)→Q .next (some (.scr ns)::some (.int at0)::some (.int many)::some (.int far)::some (.ref n)::L') H'):∀ (m j:Nat) (as:List Ad) (ps:List Prs) (H':Hp) (t6 t7 t8 t9 t10 t11 t12:Option V),
  ((j+m:Nat):Int)=many→j+m≤12→Ppl H' n as ps (fun _=>[])→ps.length=j→(∀ (i:Nat) p,ps[i]? = some p→Tag sh i p.nm∧Gp p) →
  j7 (A4 Θf peB XF) (fun _=>True) 6 ((List.range' j m).map fun (m:Nat)=>V.int (m:Int)) [some (.scr ns),some (.int at0),some (.int many),some (.int far),some (.ref n),some (.int sh),t6,t7,t8,t9,t10,t11,t12] H' Q:=by
 intro m
 induction m with
 | zero=>intro j as ps H' t6 t7 t8 t9 t10 t11 t12 hm _ P hj hg;exact q as ps H' _ P (by lia) hg
 | succ m ih =>
  intro j as ps H' t6 t7 t8 t9 t10 t11 t12 hm h12 P hj hg
  show j7 _ _ _ (V.int (j:Int)::((List.range' (j+1) m).map fun (m:Nat)=>V.int (m:Int))) _ _ _
  rw [g4]
  refine b0 ?_
  generalize hK:sqX Θf (_::_)=K
  simp_arith only [g5]
  rw [bw2]
  refine bn8 hz _ [] ⟨by show 13≤1000000;decide,?_⟩
  subst hK
  have hvs:=P.at'.length
  refine pe1 (Hs:=H') (vs:=i5 as) ⟨b8,f9 P.ln,P.ln,b5⟩ hfar (by unfold i5;rw [List.length_map];lia) ⟨by lia,by lia⟩ fun a p H3 t7 t8 t9 t10 t11 t12 h1 h2 h3 h4 h5 h6 h7=>?_
  refine ⟨trivial,ih (j+1) (as++[a]) (ps++[p]) H3 _ _ _ _ _ _ _ (by lia) (by lia) (P.snoc h1 h4 h5 h2 h3) (by rw [List.length_append,List.length_singleton,hj]) fun i p' hi=>?_⟩
  by_cases hi2:i<ps.length
  ·rw [List.getElem?_append_left hi2] at hi;exact hg i p' hi
  ·rw [List.getElem?_append_right (by lia)] at hi
   have:i-ps.length=0:=by have:=(List.getElem?_eq_some_iff.mp hi).1;exact Nat.lt_one_iff.mp this
   rw [this] at hi
   obtain rfl:=Option.some.inj hi
   rw [show i=j by lia];exact ⟨h7,h6⟩
theorem aM7 {sh:Int}{ps:List Prs}(h:∀ (i:Nat) p,ps[i]? = some p→Tag sh i p.nm):(ps.map Prs.nm).Nodup:=by
 refine List.pairwise_map.mpr (List.pairwise_iff_getElem.mpr fun i j hi hj hij=>?_)
 exact (h i _ (List.getElem?_eq_getElem hi)).ne (by lia) (by lia) (h j _ (List.getElem?_eq_getElem hj))
inductive Z9 (H:Hp)(Q:V→Hp→Prop):List V→Prop where
 | mk (ns:List Int) (at0:Int) (many:Int) (far:Int):(ns.length≤1000)→(1≤many)→(many≤3)→(M5 far)→(∀ (n:Nat) (as:List Ad) (ps:List Prs) (H':Hp),Ppl H' n as ps (fun _=>[])→((ps.length:Int)=many)→(ps.map Prs.nm).Nodup→(∀ p∈ps,Gp p∧∃ c∈p.nm.cps.toList,c≠122)→Q (.ref n) H')→Z9 H Q ([.scr ns,.int at0,.int many,.int far])
noncomputable def T3:Ctr:=fun vs H Q _=>Z9 H Q vs
theorem aA8:∀ vs H Q X,T3 vs H Q X→v8 Θf f_l_people_by vs H Q X:=by
 rintro vs H Q X ⟨ns,at0,many,far,hz,h1,h2,hfar,q⟩
 refine i9 rfl ?_
 change j1 Θf f_l_people_by.body [some (.scr ns),some (.int at0),some (.int many),some (.int far),none,none,none,none,none,none,none,none,none] H _ _
 refine b0 ?_
 generalize hK:sqX Θf (_::_)=K
 simp_arith only [g5]
 subst hK
 refine b0 ?_
 generalize hK:sqX Θf (_::_)=K
 simp_arith only [↓bI6,↓C3]
 refine ⟨hz,?_⟩
 subst hK
 refine b0 ?_
 generalize hK:sqX Θf (_::_)=K
 simp_arith only [g5]
 refine ⟨⟨by lia,by lia⟩,?_⟩
 rw [J3]
 subst hK
 refine bm4 hz hfar (fun as ps H' L' P hlen hg=>?_) many.toNat 0 [] [] _ _ _ _ _ _ _ _ (by lia) (by lia) ⟨b5,rfl,List.nodup_cons.mpr ⟨List.not_mem_nil,List.nodup_nil⟩⟩ rfl (fun i p h=>b9 h)
 simp_arith only [g5]
 refine q _ as ps H' P hlen (aM7 fun i p h=>(hg i p h).1) fun p hp=>?_
 obtain ⟨i,hi,e⟩:=List.getElem_of_mem hp
 have:=hg i p (by rw [←e];exact List.getElem?_eq_getElem hi)
 exact ⟨this.2,this.1.nz (by lia) (by lia)⟩
noncomputable def Θg:Orc:=ext "_law_people_by" T3 Θf
end Mine
namespace Mine
open PySem
theorem bY0:Θg (Str.ofString "Book."++Str.ofString "come")=aS0:=rfl
theorem bX4:Θg (Str.ofString "Book."++Str.ofString "busy")=aE2:=rfl
theorem b88:Θg "Book.__init__" = aT4:=rfl
structure Mk (H0 H:Hp)(k:Bk)(ps:List Prs):Prop where
 fr:Fr [] H0 H
 foot:∀ i∈k.foot,H0.length≤i
 book:BkAt H k ps []
 g:k.g=0
 c:k.c=5
noncomputable abbrev bsB:List IS:=[(.expr (.mcall (.loc 1) "busy" [(.sub (.loc 2) (.lit (.int 0))),(.loc 3)]))]
theorem b95 {XF:XS}{v0:V}{k:Bk}{a:Ad}{p:Prs}{qs:List Prs}{t4 t5 t6:Option V}{H0:Hp}{Q:QS}{st:Hp→Prop}(P:PA H0 a p [])(hst:∀ H',Fr [] H0 H'→st H'):∀ (rs dn:List Rl) (H:Hp) (t3:Option V),Mk H0 H k (qs++[⟨p.nm,p.fr,dn⟩])→(∀ r∈rs,r.ok)→dn.length+rs.length≤20 →
  (∀ H' t3',Mk H0 H' k (qs++[⟨p.nm,p.fr,dn++rs⟩])→Q .next [some v0,some (.ref k.b),some (.ref a.i),t3',t4,t5,t6] H') →
  j7 (A4 Θg bsB XF) st 3 (rs.map rv) [some v0,some (.ref k.b),some (.ref a.i),t3,t4,t5,t6] H Q:=by
 intro rs
 induction rs with
 | nil=>intro dn H t3 M _ _ q;have:=q H t3;rw [List.append_nil] at this;exact this M
 | cons r rs ih =>
  intro dn H t3 M hf hz q
  rw [List.map_cons,g4]
  rw [List.length_cons] at hz
  have hi:=M.fr.list (fun h=>nomatch h) P.li
  simp_arith only [M.book.ns,hi,↓bX4]
  refine ⟨k,qs,[],⟨p.nm,p.fr,dn⟩,[],r,M.book,hf r List.mem_cons_self,by show dn.length<20;lia,fun _ h=>(nomatch h),fun h=>Bool.noConfusion h,fun _ H' f B=>?_⟩
  have M2:Mk H0 H' k (qs++[⟨p.nm,p.fr,dn++[r]⟩]):=⟨M.fr.trans f fun i hi=>.inr (M.foot i (aV3 hi)),M.foot,B,M.g,M.c⟩
  refine ⟨hst _ M2.fr,ih (dn++[r]) _ _ M2 (fun x h=>hf x (.tail _ h)) (by rw [List.length_append,List.length_singleton];lia) fun H' t3' M'=>q H' t3' ?_⟩
  rw [List.append_assoc] at M'
  exact M'
noncomputable abbrev boL:List IS:=[(.expr (.mcall (.loc 1) "come" [(.sub (.loc 2) (.lit (.int 0))),(.call (.ty .list) [(.sub (.loc 2) (.lit (.int 1)))])])),(.for 3 .val (.sub (.loc 2) (.lit (.int 2))) bsB)]
theorem bl8 {XF:XS}{n b:Nat}{vs0:List V}{t4 t5 t6:Option V}{H0:Hp}{Q:QS}(hl:b6 H0 n=some vs0):∀ (as:List Ad) (ps qs:List Prs) (H:Hp) (k:Bk) (t2 t3:Option V),k.b=b→PsAt H0 (fun _=>[]) as ps→Mk H0 H k qs→((qs++ps).map Prs.nm).Nodup→(∀ p∈ps,Gp p)→qs.length+ps.length≤100 →
  (∀ k' H' t2' t3',k'.b=b→Mk H0 H' k' (qs++ps)→Q .next [some (.ref n),some (.ref b),t2',t3',t4,t5,t6] H') →
  j7 (A4 Θg boL XF) (fun H'=>b6 H' n=some vs0) 2 (i5 as) [some (.ref n),some (.ref b),t2,t3,t4,t5,t6] H Q:=by
 intro as
 induction as with
 | nil =>
  intro ps qs H k t2 t3 hb hps M _ _ _ q
  obtain rfl:=hps
  have:=q k H t2 t3 hb
  rw [List.append_nil] at this
  exact this M
 | cons a as ih =>
  intro ps qs H k t2 t3 hb hps M hn hg hz q
  refine e2_3 hps fun p rest e_289 P hr=>?_
  obtain rfl:=e_289
  have gp:=hg p List.mem_cons_self
  rw [List.length_cons] at hz
  have hi:=M.fr.list (fun h=>nomatch h) P.li
  have lf:=M.fr.list (fun h=>nomatch h) P.lf
  have hni:p.nm∉qs.map Prs.nm:=fun hm=>by
   rw [List.map_append] at hn
   exact (List.nodup_append.mp hn).2.2 p.nm hm p.nm (.head _) rfl
  have hns:=M.book.ns
  obtain rfl:=hb
  rw [show i5 (a::as)=.ref a.i::i5 as from rfl,g4]
  refine b0 ?_
  generalize hK:sqX Θg (_::_)=K
  have pp:H<+:H++[.list (p.fr.map rv)]:=b8
  simp_arith only [hns,hi,lf,↓bY0]
  have B1:=M.book.pre pp
  have hd1:=b5 (H:=H) (l:=p.fr.map rv)
  have e1:(H++[O.list (p.fr.map rv)]).length=H.length+1:=by rw [List.length_append];rfl
  have hdf:H.length∉k.foot:=fun h=>by have:=M.book.lt _ h;lia
  have f1:Fr [] H0 (H++[.list (p.fr.map rv)]):=M.fr.trans (Fr.pre (F:=[]) pp) (fun _ h=>nomatch h)
  have hH0:=M.fr.len
  generalize H++[O.list (p.fr.map rv)]=H1 at *
  have fr2:=gp.fr
  refine ⟨k,qs,[],p.nm,H.length,p.fr,B1,hd1,hdf,gp.nm,hni,by lia,gp.fine.1,by lia,fun H2 k2 f2 hb2 hg2 hc2 hk2 B2=>?_⟩
  subst hK
  have M2:Mk H0 H2 k2 (qs++[⟨p.nm,p.fr,[]⟩]):=⟨f1.trans f2 fun i hi=>.inr (M.foot i hi),fun i hi=>by
   rcases hk2 i hi with h|h
   ·exact M.foot i h
   ·lia,B2,hg2.trans M.g,hc2.trans M.c⟩
  have hi2:=M2.fr.list (fun h=>nomatch h) P.li
  have lu2:=M2.fr.list (fun h=>nomatch h) P.lu
  refine b0 ?_
  generalize hK:sqX Θg []=K
  simp_arith only [hi2,lu2]
  subst hK
  have bl:=gp.bu
  rw [←hb2]
  refine b95 (k:=k2) P (fun H' f=>f.list (fun h=>nomatch h) P.lu) p.bu [] H2 _ M2 gp.fine.2 (by show 0+_≤_;lia) fun H3 t3' M3=>?_
  rw [List.nil_append] at M3
  refine ⟨M3.fr.list (fun h=>nomatch h) hl,?_⟩
  rw [hb2]
  refine ih rest (qs++[p]) H3 k2 _ _ hb2 hr M3 (by rw [List.append_assoc];exact hn) (fun x h=>hg x (.tail _ h)) (by rw [List.length_append,List.length_singleton];lia) fun k' H' t2' t3' hb' M'=>?_
  rw [List.append_assoc] at M'
  exact q k' H' t2' t3' hb' M'
inductive ao4 (H:Hp)(Q:V→Hp→Prop):List V→Prop where
 | mk (n:Nat) (as:List Ad) (ps:List Prs):b6 H n=some (i5 as)→PsAt H (fun _=>[]) as ps→((ps.map Prs.nm).Nodup)→((∀ p∈ps,Gp p))→(ps.length≤100)→(∀ (H':Hp) (k:Bk),Mk H H' k ps→Q (.ref k.b) H')→ao4 H Q ([.ref n])
noncomputable def ag2:Ctr:=fun vs H Q _=>ao4 H Q vs
theorem aQ6:∀ vs H Q X,ag2 vs H Q X→v8 Θg f_l_book_of vs H Q X:=by
 rintro vs H Q X ⟨n,as,ps,hl,P,hn,hg,hz,q⟩
 refine i9 rfl ?_
 change j1 Θg f_l_book_of.body [some (.ref n),none,none,none,none,none,none] H _ _
 refine b0 ?_
 generalize hK:sqX Θg (_::_)=K
 simp_arith only [↓b88]
 refine ⟨H,rfl,rfl,fun H1 k hp hb hk hc hf B=>⟨rfl,?_⟩⟩
 subst hK
 rw [←hb]
 have M:Mk H H1 k []:=⟨Fr.pre hp,hf,B,hk,hc⟩
 have hl2:=M.fr.list (fun h=>nomatch h) hl
 refine b0 ?_
 generalize hK:sqX Θg (_::_)=K
 simp_arith only [hl2]
 subst hK
 refine bl8 hl as ps [] H1 k _ _ rfl P M hn hg (by show 0+_≤_;lia) fun k' H' t2 t3 hb' M'=>?_
 simp_arith only [g5]
 rw [←hb']
 exact q H' k' M'
noncomputable def Θh:Orc:=ext "_law_book_of" ag2 Θg
end Mine
namespace Mine
open PySem
noncomputable def flL (g:Nat→Bool)(n:Nat):List V:=(List.range n).map fun k=>V.bool (g k)
theorem ah4 (g:Nat→Bool)(n:Nat):(flL g n).length=n:=by unfold flL;rw [List.length_map,List.length_range]
theorem af3 {g:Nat→Bool}{n k:Nat}:(flL g n)[k]? = if k<n then some (.bool (g k)) else none:=by
 unfold flL
 by_cases h:k<n
 ·rw [if_pos h,List.getElem?_map,List.getElem?_range h];rfl
 ·rw [if_neg h,List.getElem?_eq_none_iff,List.length_map,List.length_range];exact Nat.le_of_not_lt h
theorem I8 {g g':Nat→Bool}{n:Nat}(h:∀ k,k<n→g k=g' k):flL g n=flL g' n:=List.map_congr_left fun k hk=>by rw [h k (List.mem_range.mp hk)]
theorem bo6 {g:Nat→Bool}{n k:Nat}(h:k<n):(flL g n).set k (.bool true)=flL (fun j=>g j||decide (j=k)) n:=by
 refine List.ext_getElem? fun j=>?_
 rw [af3]
 by_cases hjk:k=j
 ·subst hjk
  rw [List.getElem?_set_self (by rw [ah4];exact h),if_pos h,decide_eq_true rfl,Bool.or_true]
 ·rw [List.getElem?_set_ne hjk,af3,decide_eq_false (fun q=>hjk q.symm),Bool.or_false]
theorem ar2 {g:Nat→Bool}{n k:Nat}(h:k<n):idx (flL g n) (k:Int)=some (.bool (g k)):=by rw [aB4,af3,if_pos h]
theorem bc0 {n:Nat}:List.replicate n (V.bool false)=flL (fun _=>false) n:=by
 unfold flL
 rw [List.map_const',List.length_range]
theorem I5:∀ l:List Bool,B9 (l.map V.bool)=some l
 | []=>rfl
 | b::r=>by
  show ((B9 (r.map V.bool)).map _)=_
  rw [I5 r];rfl
theorem bG7 {g:Nat→Bool}{n:Nat}:flL g n=((List.range n).map g).map V.bool:=by rw [List.map_map];rfl
theorem bW3:Θh "_law_size" = aS7:=rfl
theorem b65:Θh "_law_begun" = aC5:=rfl
theorem bn2 {XF:XS}{v0 v1 v2 v3 v5:V}{n i:Nat}{t7 t8 t9:Option V}{H0:Hp}{Q:QS}(hi:H0.length≤i):∀ (ks:List Int) (g:Nat→Bool) (t6:Option V) (H:Hp),(∀ k∈ks,0≤k∧k<(n:Int))→H0<+:H→b6 H i=some (flL g n) →
  (∀ t6' H',H0<+:H'→b6 H' i=some (flL (fun j=>g j||ks.any fun k=>decide (k=(j:Int))) n)→Q .next [some v0,some v1,some v2,some v3,some (.ref i),some v5,t6',t7,t8,t9] H') →
  j7 (A4 Θh [(.setItem (.loc 4) (.loc 6) (.lit (.bool true)))] XF) (fun _=>True) 6 (ks.map V.int) [some v0,some v1,some v2,some v3,some (.ref i),some v5,t6,t7,t8,t9] H Q:=by
 intro ks
 induction ks with
 | nil=>intro g t6 H _ hp hl q;exact q t6 H hp (by rw [hl,I8 (g':=fun j=>g j||([]:List Int).any fun k=>decide (k=(j:Int))) fun k _=>(Bool.or_false _).symm])
 | cons k ks ih =>
  intro g t6 H hk hp hl q
  have h1:=hk k List.mem_cons_self
  rw [List.map_cons,g4]
  simp_arith only [hl,ah4]
  refine ⟨⟨by lia,by lia⟩,?_⟩
  rw [bo6 (by lia)]
  refine ih _ _ _ (fun x h=>hk x (List.mem_cons_of_mem _ h)) (aA9 hp hi) (j8 hl) fun t6' H' hp' hl'=>q t6' H' hp' ?_
  rw [hl']
  refine congrArg some (I8 fun j _=>?_)
  rw [List.any_cons,Bool.or_assoc]
  congr 2
  rw [Bool.eq_iff_iff,decide_eq_true_eq,decide_eq_true_eq];lia
noncomputable def flC (r:Rl)(low many:Int)(a:Int)(k:Nat):Bool:=bg r (low+a)&&(m9 (max 0 a) (min many (a+r.size))).any fun x=>decide (x=(k:Int))
noncomputable abbrev foB:List IS:=bdy (f_l_flags.body.getD 2 .fail)
theorem bf6 {XF:XS}{r:Rl}{low many:Int}{n i:Nat}{t7 t8 t9:Option V}{H0:Hp}{Q:QS}(hi:H0.length≤i)(hf:r.ok)(hn:(n:Int)=many)(hm:many≤100000):∀ (as:List Int) (g:Nat→Bool) (t5 t6:Option V) (H:Hp),(∀ a∈as,-100≤a∧a<many)→H0<+:H→b6 H i=some (flL g n) →
  (∀ t5' t6' H',H0<+:H'→b6 H' i=some (flL (fun j=>g j||as.any fun a=>flC r low many a j) n)→Q .next [some (rv r),some (.int low),some (.int many),some (.int r.size),some (.ref i),t5',t6',t7,t8,t9] H') →
  j7 (A4 Θh foB XF) (fun _=>True) 5 (as.map V.int) [some (rv r),some (.int low),some (.int many),some (.int r.size),some (.ref i),t5,t6,t7,t8,t9] H Q:=by
 intro as
 have hs1:1≤r.size:=hf.1.inner.size.1
 have hs2:r.size≤48:=hf.1.inner.size.2
 induction as with
 | nil=>intro g t5 t6 H _ hp hl q;exact q t5 t6 H hp (by rw [hl,I8 (g':=fun j=>g j||([]:List Int).any fun a=>flC r low many a j) fun k _=>(Bool.or_false _).symm])
 | cons a as ih =>
  intro g t5 t6 H ha hp hl q
  have h1:=ha a List.mem_cons_self
  rw [List.map_cons,g4]
  have nx:∀ t6 H' g',H0<+:H'→b6 H' i=some (flL g' n)→(∀ k,g' k=(g k||flC r low many a k))→j7 (A4 Θh foB XF) (fun _=>True) 5 (as.map V.int) [some (rv r),some (.int low),some (.int many),some (.int r.size),some (.ref i),some (.int a),t6,t7,t8,t9] H' Q:=fun t6 H' g' hp' hl' hc=>by
   refine ih g' _ _ H' (fun x h=>ha x (List.mem_cons_of_mem _ h)) hp' hl' fun t5' t6' H2 hp2 hl2=>q t5' t6' H2 hp2 ?_
   rw [hl2]
   exact congrArg some (I8 fun j _=>by rw [List.any_cons,hc,Bool.or_assoc])
  have skip:bg r (low+a)=false→∀ k,g k=(g k||flC r low many a k):=fun h k=>by unfold flC;rw [h,Bool.false_and,Bool.or_false]
  refine b0 ?_
  simp_arith only [↓b65]
  refine ⟨fun h=>⟨r,low+a,rfl,hf,h,fun H1 hp1=>?_⟩,fun h=>nx _ H g hp hl (skip (if_pos (by lia)))⟩
  have e:bg r (low+a)=bgo r (low+a):=if_neg (by lia)
  simp_arith only [g5]
  refine aN7 (fun hb=>?_) (fun hb=>nx _ H1 g (hp.trans hp1) (b7 hp1 hl) (skip (e.trans hb)))
  refine ⟨⟨by lia,by lia,by lia,by lia,by lia⟩,?_⟩
  rw [C5]
  refine bn2 hi _ g _ H1 (fun k hk=>by have:=q9.mp hk;lia) (hp.trans hp1) (b7 hp1 hl) fun t6' H2 hp2 hl2=>⟨trivial,nx _ H2 _ hp2 hl2 fun k=>?_⟩
  unfold flC;rw [e,hb];rfl
theorem by5 {r:Rl}{low many:Int}{k:Nat}(hf:r.ok)(hk:(k:Int)<many):((m9 (1-r.size) many).any fun a=>flC r low many a k)=cov r (low+(k:Int)):=by
 have hs1:1≤r.size:=hf.1.inner.size.1
 unfold cov
 rw [Bool.eq_iff_iff,List.any_eq_true,List.any_eq_true]
 constructor
 ·rintro ⟨a,ha,h⟩
  unfold flC at h
  rw [Bool.and_eq_true,List.any_eq_true] at h
  obtain ⟨h1,x,hx,h3⟩:=h
  have hx:=q9.mp hx
  have h3:=of_decide_eq_true h3
  exact ⟨(k:Int)-a,q9.mpr (by lia),by rw [show low+(k:Int)-((k:Int)-a)=low+a by lia];exact h1⟩
 ·rintro ⟨b,hb,h⟩
  have hb:=q9.mp hb
  refine ⟨(k:Int)-b,q9.mpr (by lia),?_⟩
  unfold flC
  rw [Bool.and_eq_true,List.any_eq_true]
  exact ⟨by rw [show low+((k:Int)-b)=low+(k:Int)-b by lia];exact h,(k:Int),q9.mpr (by lia),decide_eq_true rfl⟩
structure Win (low many:Int):Prop where
 l0:0≤low
 l1:low<2 ^ 45
 m0:0≤many
 m1:many≤10000
inductive aF2 (H:Hp)(Q:V→Hp→Prop):List V→Prop where
 | mk (r:Rl) (low many:Int):r.ok→Win low many→(∀ i H',H<+:H'→b6 H' i=some (flL (fun k=>cov r (low+(k:Int))) many.toNat)→Q (.ref i) H')→aF2 H Q [rv r,.int low,.int many]
noncomputable def ar9:Ctr:=fun vs H Q _=>aF2 H Q vs
theorem bq6:∀ vs H Q X,ar9 vs H Q X→v8 Θh f_l_flags vs H Q X:=by
 rintro vs H Q X ⟨r,low,many,hf,⟨w1,w2,w3,w4⟩,q⟩
 refine i9 rfl ?_
 have hs1:1≤r.size:=hf.1.inner.size.1
 have hs2:r.size≤48:=hf.1.inner.size.2
 change j1 Θh f_l_flags.body [some (rv r),some (.int low),some (.int many),none,none,none,none,none,none,none] H _ _
 refine b0 ?_
 generalize hK:sqX Θh (_::_)=K
 simp_arith only [↓bW3]
 refine ⟨r,rfl,hf.2,fun H1 hp1=>?_⟩
 subst hK
 refine b0 ?_
 generalize hK:sqX Θh (_::_)=K
 simp_arith only [b5,ak2]
 refine ⟨⟨by lia,by lia⟩,?_⟩
 rw [bc0]
 subst hK
 refine b0 ?_
 generalize hK:sqX Θh (_::_)=K
 simp_arith only [g5]
 refine ⟨⟨by lia,by lia,by lia,by lia,by lia⟩,?_⟩
 rw [C5]
 subst hK
 refine bf6 (n:=many.toNat) (many:=many) (low:=low) (r:=r) (H0:=H1++[.list [.bool false]]) (Nat.le_refl _) hf (by lia) (by lia) (m9 (1-r.size) many) _ _ _ _ (fun a ha=>by have:=q9.mp ha;lia) b8 b5 fun t5' t6' H' hp' hl'=>?_
 simp_arith only [g5]
 refine q _ H' (hp1.trans (b8.trans hp')) ?_
 rw [hl']
 exact congrArg some (I8 fun k hk=>by rw [Bool.false_or];exact by5 hf (by lia))
noncomputable def Θi:Orc:=ext "_law_flags" ar9 Θh
theorem bY5:Θi "_law_flags" = ar9:=rfl
theorem aZ5 {Φ:Orc}{el:IE}{L:Lc}{j n:Nat}{h:Nat→Bool}{H0:Hp}{Q:List V→Hp→Prop}(hel:∀ (k:Nat) (H:Hp) (K:V→Hp→Prop),k<n→H0<+:H→(∀ H',H<+:H'→K (.bool (h k)) H')→(wp2 Φ el).E (L.set j (some (.int (k:Int)))) H K noX)
  (q:∀ H',H0<+:H'→Q (flL h n) H'):n9 (av5 Φ el noX) (fun _=>True) j L (E4 0 (n:Int)) [] H0 Q:=by
 have go:∀ (m s:Nat) (H:Hp),s+m=n→H0<+:H→n9 (av5 Φ el noX) (fun _=>True) j L ((List.range' s m).map fun (k:Nat)=>V.int (k:Int)) (flL h s) H Q:=by
  intro m
  induction m with
  | zero=>intro s H hs hp;rw [show s=n from hs];exact q H hp
  | succ m ih =>
   intro s H hs hp
   show n9 _ _ _ _ (V.int (s:Int)::((List.range' (s+1) m).map fun (k:Nat)=>V.int (k:Int))) _ _ _
   rw [y9]
   refine hel s H _ (by lia) hp fun H' hp'=>⟨trivial,?_⟩
   have:=ih (s+1) H' (by lia) (hp.trans hp')
   rw [show flL h (s+1)=flL h s++[.bool (h s)] by unfold flL;rw [List.range_succ,List.map_append];rfl] at this
   exact this
 rw [J3]
 exact go n 0 H0 (Nat.zero_add n) (List.prefix_refl _)
noncomputable def inM (x:Int)(q:Int × Int):Bool:=decide (q.1≤x)&&decide (x<q.1+q.2)
noncomputable abbrev Me:=Prs→List (Int × Int)
noncomputable def opn (me:Me)(p:Prs)(x:Int):Bool:=am3 p x&&!(me p).any (inM x)
section
variable {XF:XS} {v0 v2:V} {low many:Int} {t4 t5 t6 t7 t8 t9 t10:Option V} {H0 H:Hp} {QF:QS} {st:Hp→Prop} {i:Nat} {h g:Nat→Bool}
theorem bb7 {el:IE}(W:Win low many)(hel:∀ (k:Nat) (H':Hp) (K:V→Hp→Prop),k<many.toNat→H<+:H'→K (.bool (h k)) H'→(wp2 Θi el).E [some v0,some (.int low),some (.int many),some (.ref i),t4,t5,t6,t7,some (.int (k:Int)),t9,t10] H' K noX)
  (q:∀ i' H',H<+:H'→b6 H' i'=some (flL h many.toNat)→QF .next [some v0,some (.int low),some (.int many),some (.ref i'),t4,t5,t6,t7,t8,t9,t10] H'):wpS Θi (.assign 3 (.comp el 8 .range (.loc 2))) [some v0,some (.int low),some (.int many),some (.ref i),t4,t5,t6,t7,t8,t9,t10] H QF XF:=by
 have w3:=W.m0
 have w4:=W.m1
 simp_arith only [g5]
 refine ⟨⟨by lia,by lia⟩,?_⟩
 rw [show many=(many.toNat:Int) by lia]
 refine aZ5 (n:=many.toNat) (h:=h) (fun k H' K hk hp hK=>?_) fun H' hp=>⟨by rw [ah4];lia,?_⟩
 ·rw [show ((many.toNat:Nat):Int)=many by lia];exact hel k H' K hk hp (hK H' (List.prefix_refl _))
 ·rw [show ((many.toNat:Nat):Int)=many by lia];exact q _ _ (hp.trans b8) b5
noncomputable abbrev opB (el:IE):List IS:=[(.assign 5 (.call (.fn "_law_flags") [(.loc 4),(.loc 1),(.loc 2)])),(.assign 3 (.comp el 8 .range (.loc 2)))]
theorem aO0 {el:IE}{op:Bool→Bool→Bool}(hst:∀ H',H0<+:H'→st H')(W:Win low many)
  (hel:∀ {v4:V} {i j:Nat} {b c:Bool} {l m:List V} {k:Int} {H:Hp} {K:V→Hp→Prop},b6 H i=some l→b6 H j=some m→idx l k=some (.bool b)→idx m k=some (.bool c)→K (.bool (op b c)) H→(wp2 Θi el).E [some v0,some (.int low),some (.int many),some (.ref i),some v4,some (.ref j),t6,t7,some (.int k),t9,t10] H K noX) :
  ∀ (rs:List Rl) (g:Nat→Bool) (i:Nat) (t4 t5:Option V) (H:Hp),(∀ r∈rs,r.ok)→H0<+:H→b6 H i=some (flL g many.toNat) →
  (∀ i' t4' t5' H',H0<+:H'→b6 H' i'=some (flL (fun k=>rs.foldl (fun b r=>op b (cov r (low+(k:Int)))) (g k)) many.toNat)→QF .next [some v0,some (.int low),some (.int many),some (.ref i'),t4',t5',t6,t7,t8,t9,t10] H') →
  j7 (A4 Θi (opB el) XF) st 4 (rs.map rv) [some v0,some (.int low),some (.int many),some (.ref i),t4,t5,t6,t7,t8,t9,t10] H QF:=by
 intro rs
 induction rs with
 | nil=>intro g i t4 t5 H _ hp hl q;exact q i t4 t5 H hp hl
 | cons r rs ih =>
  intro g i t4 t5 H hf hp hl q
  rw [List.map_cons,g4]
  refine b0 ?_
  generalize hK:sqX Θi (_::_)=K
  simp_arith only [↓bY5]
  refine ⟨r,low,many,hf r List.mem_cons_self,W,fun j H1 hp1 hj=>?_⟩
  subst hK
  refine b0 (bb7 W (h:=fun k=>op (g k) (cov r (low+(k:Int)))) (fun k H' K hk hp' hK=>hel (b7 hp' (b7 hp1 hl)) (b7 hp' hj) (ar2 hk) (ar2 hk) hK) fun i' H' hp' hl'=>?_)
  have pp:=hp.trans (hp1.trans hp')
  exact ⟨hst _ pp,ih _ _ _ _ _ (fun x h=>hf x (List.mem_cons_of_mem _ h)) pp hl' q⟩
noncomputable abbrev mtB:IE:=.and (.sub (.loc 3) (.loc 8)) (.not (.cmp2 (.loc 6) .LtE (.bin .Add (.loc 1) (.loc 8)) .Lt (.bin .Add (.loc 6) (.loc 7))))
theorem bq3 (hst:∀ H',H0<+:H'→st H')(W:Win low many):∀ (ms:List (Int × Int)) (g:Nat→Bool) (i:Nat) (t6 t7:Option V) (H:Hp),H0<+:H→b6 H i=some (flL g many.toNat) →
  (∀ i' t6' t7' H',H0<+:H'→b6 H' i'=some (flL (fun k=>ms.foldl (fun b q=>b&&!inM (low+(k:Int)) q) (g k)) many.toNat)→QF .next [some v0,some (.int low),some (.int many),some (.ref i'),t4,t5,t6',t7',t8,t9,t10] H') →
  I6 (A4 Θi [(.assign 3 (.comp mtB 8 .range (.loc 2)))] XF) st (bdp 6 7) (ms.map ap4) [some v0,some (.int low),some (.int many),some (.ref i),t4,t5,t6,t7,t8,t9,t10] H QF:=by
 intro ms
 induction ms with
 | nil=>intro g i t6 t7 H hp hl q;exact q i t6 t7 H hp hl
 | cons m ms ih =>
  intro g i t6 t7 H hp hl q
  rw [List.map_cons,show ap4 m=.tup [.int m.1,.int m.2] from rfl,a77]
  refine b0 (bb7 W (h:=fun k=>g k&&!inM (low+(k:Int)) m) (fun k H' K hk hp' hK=>?_) fun i' H' hp' hl'=>?_)
  ·have hl2:=b7 hp' hl
   simp_arith only [hl2,ar2 hk]
   refine aN7 (fun e=>?_) (fun e=>?_)
   ·rw [e,Bool.true_and] at hK
    unfold inM at hK
    refine ⟨fun h=>?_,fun h=>?_⟩
    ·rw [decide_eq_true h,Bool.true_and] at hK;exact hK
    ·rw [decide_eq_false h,Bool.false_and] at hK;rw [decide_eq_false h];exact hK
   ·rw [e,Bool.false_and] at hK;rw [e];exact hK
  ·have pp:=hp.trans hp'
   exact ⟨hst _ pp,ih _ _ _ _ _ pp hl' q⟩
end
theorem aS1 {α:Type}(f:α→Bool):∀ (l:List α) (b:Bool),l.foldl (fun b r=>b||f r) b=(b||l.any f)
 | [],b=>(Bool.or_false b).symm
 | a::l,b=>by rw [List.foldl_cons,aS1 f l,List.any_cons,Bool.or_assoc]
theorem aB8 {α:Type}(f:α→Bool):∀ (l:List α) (b:Bool),l.foldl (fun b r=>b&&!f r) b=(b&&!l.any f)
 | [],b=>(Bool.and_true b).symm
 | a::l,b=>by rw [List.foldl_cons,aB8 f l,List.any_cons,Bool.not_or,Bool.and_assoc]
inductive U4 (H:Hp)(Q:V→Hp→Prop):List V→Prop where
 | mk (a:Ad) (p:Prs) (me:Me) (low many:Int):PA H a p (me p)→p.fine→Win low many→(∀ i H',H<+:H'→b6 H' i=some (flL (fun k=>opn me p (low+(k:Int))) many.toNat)→Q (.ref i) H')→U4 H Q [.ref a.i,.int low,.int many]
noncomputable def G4:Ctr:=fun vs H Q _=>U4 H Q vs
theorem av7:∀ vs H Q X,G4 vs H Q X→v8 Θi f_l_open_hours vs H Q X:=by
 rintro vs H Q X ⟨a,p,me,low,many,P,hf,W,q⟩
 refine i9 rfl ?_
 have w3:=W.m0
 have w4:=W.m1
 have h1:=P.li
 change j1 Θi f_l_open_hours.body [some (.ref a.i),some (.int low),some (.int many),none,none,none,none,none,none,none,none] H _ _
 refine b0 ?_
 generalize hK:sqX Θi (_::_)=K
 simp_arith only [b5,ak2]
 refine ⟨⟨by lia,by lia⟩,?_⟩
 rw [bc0]
 have hp1:H<+:H++[.list [.bool false]]++[.list (flL (fun _=>false) many.toNat)]:=b8.trans b8
 have hl1:=b5 (H:=H++[.list [.bool false]]) (l:=flL (fun _=>false) many.toNat)
 generalize H++[O.list [V.bool false]]++[O.list (flL (fun _=>false) many.toNat)]=H1 at *
 subst hK
 refine b0 ?_
 generalize hK:sqX Θi (_::_)=K
 simp_arith only [b7 hp1 h1,b7 hp1 P.lf]
 subst hK
 refine aO0 (op:=fun a b=>a||b) (H0:=H) (fun H' hp=>b7 hp P.lf) W (fun {v4 i j b c l m k H K} hl hm e1 e2 hK=>?_) p.fr _ _ _ _ H1 hf.1 hp1 hl1 fun i2 t4 t5 H2 hp2 hl2=>?_
 ·simp_arith only [hl,hm,e1,e2]
  cases b with
  | true=>exact hK
  | false=>exact hK
 rw [n7]
 refine b0 ?_
 generalize hK:sqX Θi (_::_)=K
 simp_arith only [b7 hp2 h1,b7 hp2 P.lu]
 subst hK
 refine aO0 (op:=fun a b=>a&&!b) (H0:=H) (fun H' hp=>b7 hp P.lu) W (fun {v4 i j b c l m k H K} hl hm e1 e2 hK=>?_) p.bu _ _ _ _ H2 hf.2 hp2 hl2 fun i3 t4 t5 H3 hp3 hl3=>?_
 ·simp_arith only [hl,hm,e1]
  cases b with
  | true=>simp_arith only [hm,e2];exact hK
  | false=>exact hK
 rw [n7]
 refine b0 ?_
 generalize hK:sqX Θi (_::_)=K
 simp_arith only [b7 hp3 h1,b7 hp3 P.le]
 subst hK
 refine bq3 (H0:=H) (fun H' hp=>b7 hp P.le) W (me p) _ _ _ _ H3 hp3 hl3 fun i4 t6 t7 H4 hp4 hl4=>?_
 rw [n7]
 simp_arith only [g5]
 refine q i4 H4 hp4 ?_
 rw [hl4]
 refine congrArg some (I8 fun k _=>?_)
 rw [aB8,aB8,aS1,Bool.false_or];rfl
noncomputable def Θj:Orc:=ext "_law_open_hours" G4 Θi
end Mine
namespace Mine
open PySem
theorem b06:Θj "_law_open_hours" = G4:=rfl
noncomputable def lgd (me:Me)(qs:List Prs)(x:Int):Bool:=qs.all fun p=>opn me p x
noncomputable def RowsAt (me:Me)(lo:Int)(m:Nat)(H:Hp):List V→List Prs→Prop
 | [],qs=>qs=[]
 | v::vs,qs=>∃ i p rs,qs=p::rs∧v=.ref i∧b6 H i=some (flL (fun k=>opn me p (lo+(k:Int))) m)∧RowsAt me lo m H vs rs
section
variable {me:Me} {lo:Int} {m:Nat} {H H':Hp}
theorem RowsAt.pre (hp:H<+:H'):∀ {vs:List V} {qs:List Prs},RowsAt me lo m H vs qs→RowsAt me lo m H' vs qs
 | [],_,h=>h
 | _::_,_,⟨i,p,rs,e,e2,h,r⟩=>⟨i,p,rs,e,e2,b7 hp h,RowsAt.pre hp r⟩
theorem RowsAt.snoc {i:Nat}{p:Prs}(hi:b6 H i=some (flL (fun k=>opn me p (lo+(k:Int))) m)):∀ {vs:List V} {qs:List Prs},RowsAt me lo m H vs qs→RowsAt me lo m H (vs++[.ref i]) (qs++[p])
 | [],_,h=>by obtain rfl:=h;exact ⟨i,p,[],rfl,rfl,hi,rfl⟩
 | _::_,_,⟨j,a,rs,e,e2,h,r⟩=>⟨j,a,rs++[p],by rw [e];rfl,e2,h,RowsAt.snoc hi r⟩
end
theorem bv8 {s:Nat}{me:Me}{lo hi:Int}{v1:V}{vs0:List V}{t4 t5 t6 t7 t8 t9:Option V}{Q:List V→Hp→Prop}(W:Win lo (hi-lo)):∀ (bs:List Ad) (qs done:List Prs) (acc:List V) (H:Hp),PsAt H me bs qs→(∀ p∈qs,p.fine)→b6 H s=some vs0→RowsAt me lo (hi-lo).toNat H acc done →
  (∀ rs H',H<+:H'→RowsAt me lo (hi-lo).toNat H' rs (done++qs)→rs.length=acc.length+bs.length→Q rs H') →
  n9 (av5 Θj (.call (.fn "_law_open_hours") [(.loc 7),(.loc 2),(.bin .Sub (.loc 3) (.loc 2))]) noX) (fun H'=>b6 H' s=some vs0) 7 [some (.ref s),some v1,some (.int lo),some (.int hi),t4,t5,t6,t7,t8,t9] (i5 bs) acc H Q:=by
 intro bs
 induction bs with
 | nil=>intro qs done acc H hps _ _ hr q;obtain rfl:=hps;exact q acc H (List.prefix_refl _) (by rw [List.append_nil];exact hr) rfl
 | cons b bs ih =>
  rintro qs done acc H ⟨p,rest,rfl,A,P⟩ hf hs hr q
  rw [show i5 (b::bs)=.ref b.i::i5 bs from rfl,y9]
  simp_arith only [↓b06]
  refine ⟨b,p,me,lo,hi-lo,A,hf p List.mem_cons_self,W,fun i H1 hp1 hi1=>⟨b7 hp1 hs,?_⟩⟩
  refine ih rest (done++[p]) (acc++[.ref i]) H1 (P.pre hp1) (fun x h=>hf x (List.mem_cons_of_mem _ h)) (b7 hp1 hs) ((hr.pre hp1).snoc hi1) fun rs H' hp' h1 h2=>q rs H' (hp1.trans hp') ?_ ?_
  ·rw [List.append_assoc] at h1;exact h1
  ·rw [h2,List.length_append,List.length_singleton,List.length_cons];lia
theorem bj3 {me:Me}{lo:Int}{m w k:Nat}{v0 v1 v2 v3 v4:V}{t5 t6 t8 t9:Option V}{vs0:List V}{H:Hp}{Q:List V→Hp→Prop}(hw:b6 H w=some vs0)(k1:k<m):∀ (vs:List V) (qs:List Prs) (acc:List V),RowsAt me lo m H vs qs →
  Q (acc++(qs.map fun p=>opn me p (lo+(k:Int))).map V.bool) H →
  n9 (av5 Θj (.sub (.loc 8) (.loc 7)) noX) (fun H'=>b6 H' w=some vs0) 8 [some v0,some v1,some v2,some v3,some v4,t5,t6,some (.int (k:Int)),t8,t9] vs acc H Q:=by
 intro vs
 induction vs with
 | nil=>intro qs acc hr q;obtain rfl:=hr;rw [List.map_nil,List.map_nil,List.append_nil] at q;exact q
 | cons v vs ih =>
  rintro qs acc ⟨i,p,rs,rfl,rfl,hi,hr2⟩ q
  rw [y9]
  simp_arith only [hi,ar2 k1]
  refine ⟨hw,ih rs _ hr2 ?_⟩
  rw [List.append_assoc];exact q
theorem bf8 {g:Nat→Bool}{m s h:Nat}(h2:s+h≤m):aC0 (.int (s:Int)) (.int ((s:Int)+(h:Int))) (flL g m)=some (((List.range' s h).map g).map V.bool):=by
 have a1:aM6 (some (s:Int)) 0 m=s:=by show (if (s:Int)<0 then m-(-(s:Int)).toNat else min (s:Int).toNat m)=s;rw [if_neg (by lia)];lia
 have a2:aM6 (some ((s:Int)+(h:Int))) m m=s+h:=by show (if (s:Int)+(h:Int)<0 then m-(-((s:Int)+(h:Int))).toNat else min ((s:Int)+(h:Int)).toNat m)=s+h;rw [if_neg (by lia)];lia
 show some (((flL g m).drop (aM6 (some (s:Int)) 0 (flL g m).length)).take (aM6 (some ((s:Int)+(h:Int))) (flL g m).length (flL g m).length-aM6 (some (s:Int)) 0 (flL g m).length))=_
 rw [ah4,a1,a2,Nat.add_sub_cancel_left]
 refine congrArg some (List.ext_getElem? fun i=>?_)
 rw [List.getElem?_take,List.map_map,List.getElem?_map]
 by_cases hi:i<h
 ·rw [if_pos hi,List.getElem?_drop,af3,if_pos (by lia),List.getElem?_range' hi,Nat.one_mul];rfl
 ·rw [if_neg hi,List.getElem?_eq_none_iff.mpr (by rw [List.length_range'];exact Nat.le_of_not_lt hi)];rfl
theorem bc6 {G:Int→Bool}{lo:Int}{s h:Nat}:((List.range' s h).map fun (k:Nat)=>G (lo+(k:Int))).all id=true↔okW G (h:Int) (lo+(s:Int)):=by
 rw [List.all_map,List.all_eq_true]
 constructor
 ·intro k x x1 x2
  have:=k (x-lo).toNat (List.mem_range'_1.mpr (by lia))
  have this:G (lo+((x-lo).toNat:Int))=true:=this
  rw [show lo+((x-lo).toNat:Int)=x by lia] at this;exact this
 ·intro k x hx
  have:=List.mem_range'_1.mp hx
  exact k _ (by lia) (by lia)
theorem bo8 {XF:XS}{lo hi:Int}{h:Nat}{G:Int→Bool}{m i:Nat}{v0 v4:V}{t7 t8 t9:Option V}{H0:Hp}{Q:QS}(hm:(m:Int)=hi-lo)(q1:∀ a L' H',H0<+:H'→IsFirst G (h:Int) lo (hi-(h:Int)) (.int a)→Q (.ret (.int a)) L' H')(q2:∀ L' H',H0<+:H'→IsFirst G (h:Int) lo (hi-(h:Int)) .none→Q .next L' H'):∀ (j s:Nat) (t6:Option V) (H:Hp),H0<+:H→b6 H i=some (flL (fun k=>G (lo+(k:Int))) m)→(s:Int)+(j:Int)=max (s:Int) (hi-lo-(h:Int)+1)→(∀ x,lo≤x→x<lo+(s:Int)→¬ okW G (h:Int) x) →
  j7 (A4 Θj [(.ite (.call (.bi .all) [(.slice (.loc 5) (some (.loc 6)) (some (.bin .Add (.loc 6) (.loc 1))))]) [(.ret (.bin .Add (.loc 2) (.loc 6)))] [])] XF) (fun _=>True) 6 ((List.range' s j).map fun (k:Nat)=>V.int (k:Int))
   [some v0,some (.int (h:Int)),some (.int lo),some (.int hi),some v4,some (.ref i),t6,t7,t8,t9] H Q:=by
 intro j
 induction j with
 | zero=>intro s t6 H hp _ hs hno;exact q2 _ H hp (.inr ⟨rfl,fun x x1 x2=>hno x x1 (by lia)⟩)
 | succ j ih =>
  intro s t6 H hp hl hs hno
  show j7 _ _ _ (V.int (s:Int)::((List.range' (s+1) j).map fun (k:Nat)=>V.int (k:Int))) _ _ _
  rw [g4]
  have hc:=bf8 (g:=fun k=>G (lo+(k:Int))) (m:=m) (s:=s) (h:=h) (by lia)
  simp_arith only [hl,hc,b5,I5]
  refine aN7 (fun h=>?_) (fun h=>?_)
  ·exact q1 _ _ _ (hp.trans b8) (.inl ⟨lo+(s:Int),rfl,by lia,by lia,bc6.mp h,hno⟩)
  ·refine ih (s+1) _ _ (hp.trans b8) (b7 b8 hl) (by lia) fun x x1 x2 hx=>?_
   by_cases hxs:x<lo+(s:Int)
   ·exact hno x x1 hxs hx
   ·rw [show x=lo+(s:Int) by lia] at hx
    rw [bc6.mpr hx] at h
    exact Bool.noConfusion h
inductive aw1 (H:Hp)(Q:V→Hp→Prop):List V→Prop where
 | mk (s:Nat) (bs:List Ad) (qs:List Prs) (me:Me) (hours lo hi:Int):b6 H s=some (i5 bs)→PsAt H me bs qs→bs.length≤1000→(∀ p∈qs,p.fine)→m7 hours→Win lo (hi-lo)→(∀ v H',H<+:H'→IsFirst (lgd me qs) hours lo (hi-hours) v→Q v H')→aw1 H Q [.ref s,.int hours,.int lo,.int hi]
noncomputable def W4:Ctr:=fun vs H Q _=>aw1 H Q vs
theorem aI9 {me:Me}{lo:Int}{m:Nat}{H:Hp}:∀ {vs:List V} {qs:List Prs},RowsAt me lo m H vs qs→qs.length=vs.length
 | [],_,h=>by obtain rfl:=h;rfl
 | _::_,_,⟨_,_,rs,e,_,_,r⟩=>by rw [e,List.length_cons,List.length_cons,aI9 r]
theorem a22:∀ vs H Q X,W4 vs H Q X→v8 Θj f_l_first vs H Q X:=by
 rintro vs H Q X ⟨s,bs,qs,me,hours,lo,hi,hl,P,hz,hf,hh,W,q⟩
 refine i9 rfl ?_
 obtain ⟨w1,w2,w3,w4⟩:=id W
 obtain ⟨h,rfl⟩:∃ h:Nat,hours=(h:Int):=⟨hours.toNat,by have:=hh.1;lia⟩
 have e1:=hh.1
 have e2:=hh.2
 change j1 Θj f_l_first.body [some (.ref s),some (.int (h:Int)),some (.int lo),some (.int hi),none,none,none,none,none,none] H _ _
 refine d7 ?_
 simp_arith only [hl]
 refine bv8 W bs qs [] [] H P hf hl rfl fun rs H1 hp1 hr hlen=>?_
 rw [List.length_nil] at hlen
 rw [List.nil_append] at hr
 refine ⟨by lia,?_⟩
 have l1:=b5 (H:=H1) (l:=rs)
 have hr:=hr.pre (b8 (o:=.list rs))
 have pp1:=hp1.trans (b8 (o:=.list rs))
 have hq:=aI9 hr
 generalize H1.length=w at *
 generalize H1++[O.list rs]=H2 at *
 refine j3 ?_
 refine d7 ?_
 simp_arith only [g5]
 refine ⟨⟨by lia,by lia⟩,?_⟩
 obtain ⟨m,hm⟩:∃ m:Nat,hi-lo=(m:Int):=⟨(hi-lo).toNat,by lia⟩
 rw [hm] at hr ⊢
 rw [Int.toNat_natCast] at hr
 refine aZ5 (h:=fun k=>lgd me qs (lo+(k:Int))) (fun k H3 K' hk hp3 hK'=>?_) fun H3 hp3=>⟨by rw [ah4];lia,?_⟩
 ·have l3:=b7 hp3 l1
  simp_arith only [l3]
  refine bj3 (me:=me) (lo:=lo) (m:=m) l3 hk rs qs [] (hr.pre hp3) ⟨by rw [List.nil_append,List.length_map,List.length_map];lia,?_⟩
  rw [List.nil_append]
  simp_arith only [b5,I5]
  have:=hK' _ (b8 (o:=.list ((qs.map fun p=>opn me p (lo+(k:Int))).map V.bool)))
  rw [List.all_map];exact this
 have l4:=b5 (H:=H3) (l:=flL (fun k=>lgd me qs (lo+(k:Int))) m)
 have pp4:=(pp1.trans hp3).trans (b8 (o:=.list (flL (fun k=>lgd me qs (lo+(k:Int))) m)))
 generalize H3.length=w4 at *
 generalize H3++[O.list (flL (fun k=>lgd me qs (lo+(k:Int))) m)]=H4 at *
 refine j3 ?_
 refine d7 ?_
 simp_arith only [g5]
 refine ⟨⟨by lia,by lia⟩,?_⟩
 rw [J3]
 refine bo8 (H0:=H) (m:=m) hm.symm (fun a L' H' hp h=>q _ H' hp h) (fun L' H' hp h=>?_) _ 0 _ _ pp4 l4 (by lia) (fun x x1 x2=>by lia)
 refine j3 ?_
 simp_arith only [g5]
 exact q _ H' hp h
noncomputable def Θk:Orc:=ext "_law_first" W4 Θj
end Mine
namespace Mine
open PySem
noncomputable def knd (l:List V):Nat:=match l with
 | []=>0
 | v::_=>(match v with
  | .str _=>1
  | .ref _=>2
  | _=>3)
theorem D7 {H:Hp}{x y:Nat}{l m:List V}(hx:b6 H x=some l)(hy:b6 H y=some m)(h:knd l≠knd m):x≠y:=fun e=>by
 rw [e,hy] at hx
 exact h (by rw [Option.some.inj hx])
theorem at7 {α:Type}{f:α→V}(hf:∀ a,knd [f a]=3):∀ l:List α,knd (l.map f)=0∨knd (l.map f)=3
 | []=>.inl rfl
 | a::_=>.inr (hf a)
theorem bM5 (r:Rl):knd [rv r]=3:=by
 cases r with
 | pl p=>obtain ⟨l,e⟩:=bR7 p;show knd [pv p]=3;rw [e];rfl
 | hd k r=>rfl
noncomputable def tupL (l:List V):Prop:=knd l=0∨knd l=3
theorem tupL.n1 {l:List V}(h:tupL l):knd l≠1:=by rcases h with h|h<;>rw [h]<;>decide
theorem tupL.n2 {l:List V}(h:tupL l):knd l≠2:=by rcases h with h|h<;>rw [h]<;>decide
theorem aX8 (rs:List Rl):tupL (rs.map rv):=at7 bM5 rs
theorem bO1 (ms:List (Int × Int)):tupL (ms.map ap4):=at7 (fun _=>rfl) ms
theorem a58 (hs:List Mtg):tupL (hs.map mtv):=at7 (fun _=>rfl) hs
noncomputable def ml (hs:List Mtg):Me:=fun p=>(hs.filter fun m=>m.who.contains p.nm).map fun m=>(m.hr,m.sz)
noncomputable def mtD (m:Mtg):PyData:=.tuple [.int m.no,.int m.hr,.int m.sz,.tuple (m.who.map PyData.str)]
noncomputable def mtS (hs:List Mtg):Str:=(PyData.list (hs.map mtD)).shown
structure Wr where
 s:Nat
 n:Nat
 o:Nat
 m:Nat
 d:Nat
 a1:List Ad
 a2:List Ad
 ks:List (Nat × List Mtg)
noncomputable def Wr.as (w:Wr):List Ad:=w.a1++w.a2
noncomputable def Wr.md (w:Wr):List Nat:=w.d::w.as.map Ad.u
noncomputable def fes (as:List Ad):List Nat:=as.flatMap fun a=>[a.f,a.e]
noncomputable def Wr.rs (w:Wr):List Nat:=w.o::w.m::(fes w.as++w.ks.map Prod.fst)
noncomputable def Wr.all (w:Wr):List Nat:=w.s::w.n::w.o::w.m::w.d::(ads w.as++w.ks.map Prod.fst)
noncomputable def Y4 (q:Nat × List Mtg):V:=.tup [.ref q.1,.opq (mtS q.2)]
structure Dc (es:List (Str × V))(w:Wr)(far last:Int):Prop where
 pe:es.lookup (Str.ofString "people")=some (.ref w.n)
 fa:es.lookup (Str.ofString "far")=some (.int far)
 me:es.lookup (Str.ofString "met")=some (.ref w.m)
 la:es.lookup (Str.ofString "last")=some (.int last)
 mo:es.lookup (Str.ofString "more")=some (.ref w.o)
 he:es.lookup (Str.ofString "held")=some (.ref w.d)
structure Mo (far:Int)(nms:List Str)(m:Mtg):Prop where
 h0:0≤m.hr
 h1:m.hr≤far+192
 sz:m7 m.sz
 who:∀ x∈m.who,x∈nms
 wz:m.who.length≤6
 no:0≤m.no∧m.no≤1000
structure Pu (ps:List Prs)(far:Int):Prop where
 far:M5 far
 nd:(ps.map Prs.nm).Nodup
 z:ps.length≤6
 gp:∀ p∈ps,ao1 p.nm∧p.fine∧p.bu.length≤20
noncomputable def Sh (far:Int)(nms:List Str)(hs:List Mtg):Prop:=M5 far∧hs.length≤1000∧(∀ x∈nms,ao1 x)∧∀ m∈hs,Mo far nms m
structure St (H:Hp)(k:Bk)(w:Wr)(ps:List Prs)(hs ms:List Mtg)(me:Me)(far last:Int)(z:Nat):Prop where
 book:BkAt H k ps hs
 dc:∃ es,j6 H w.s=some es∧es.length≤z∧Dc es w far last
 ln:b6 H w.n=some (i5 w.a1)
 lo:b6 H w.o=some (i5 w.a2)
 lm:b6 H w.m=some (ms.map mtv)
 ld:b6 H w.d=some (w.ks.map Y4)
 lk:∀ q∈w.ks,b6 H q.1=some (q.2.map mtv)∧Sh far (ps.map Prs.nm) q.2
 P:PsAt H me w.as ps
 nd:w.md.Nodup
 ap:∀ i∈w.md,i∉w.rs
 pl:∀ i∈w.all,i<H.length∧i∉k.foot
 l1:w.a1.length=3
 pu:Pu ps far
 mo:∀ m∈hs,Mo far (ps.map Prs.nm) m
 z1:k.c≤z
 z2:hs.length≤z
 z3:w.ks.length≤z
 z4:k.g≤(z:Int)
section
variable {w:Wr}
theorem bw6:w.s∈w.all:=.head _
theorem b94:w.n∈w.all:=.tail _ (.head _)
theorem b70:w.o∈w.all:=.tail _ (.tail _ (.head _))
theorem bA4:w.m∈w.all:=.tail _ (.tail _ (.tail _ (.head _)))
theorem aZ9:w.d∈w.all:=.tail _ (.tail _ (.tail _ (.tail _ (.head _))))
theorem aT6 {i:Nat}(h:i∈ads w.as):i∈w.all:=.tail _ (.tail _ (.tail _ (.tail _ (.tail _ (List.mem_append_left _ h)))))
theorem b02 {q:Nat × List Mtg}(h:q∈w.ks):q.1∈w.all:=.tail _ (.tail _ (.tail _ (.tail _ (.tail _ (List.mem_append_right _ (List.mem_map_of_mem h))))))
theorem bS1:w.o∈w.rs:=.head _
theorem bw3:w.m∈w.rs:=.tail _ (.head _)
theorem bU3 {i:Nat}(h:i∈fes w.as):i∈w.rs:=.tail _ (.tail _ (List.mem_append_left _ h))
theorem ci8 {q:Nat × List Mtg}(h:q∈w.ks):q.1∈w.rs:=.tail _ (.tail _ (List.mem_append_right _ (List.mem_map_of_mem h)))
end
section
variable {H H':Hp} {k k':Bk} {w:Wr} {ps ps':List Prs} {hs hs' ms:List Mtg} {me:Me} {far last:Int} {z z':Nat}
theorem St.bk (S:St H k w ps hs ms me far last z)(f:Fr k.foot H H')(B:BkAt H' k' ps hs')(hk:∀ i∈k'.foot,i∈k.foot∨H.length≤i)(hm:∀ m∈hs',Mo far (ps.map Prs.nm) m)(hz:z≤z')(h1:k'.c≤z')(h2:hs'.length≤z')(h4:k'.g≤(z':Int)):St H' k' w ps hs' ms me far last z':=by
 have ne:∀ {i},i∈w.all→i∉k.foot:=fun h=>(S.pl _ h).2
 refine e1_3 (S.dc) fun es h5 h6 h7=>?_
 exact ⟨B,⟨es,f.dict (ne bw6) h5,Nat.le_trans h6 hz,h7⟩,f.list (ne b94) S.ln,f.list (ne b70) S.lo,f.list (ne bA4) S.lm,f.list (ne aZ9) S.ld,fun q hq=>⟨f.list (ne (b02 hq)) (S.lk q hq).1,(S.lk q hq).2⟩,S.P.fr f fun i hi=>ne (aT6 hi),S.nd,S.ap,fun i hi=>⟨Nat.lt_of_lt_of_le (S.pl i hi).1 f.len,fun h=>(hk i h).elim (S.pl i hi).2 fun h=>by have:=(S.pl i hi).1;lia⟩,S.l1,S.pu,hm,h1,h2,Nat.le_trans S.z3 hz,h4⟩
theorem St.pre (S:St H k w ps hs ms me far last z)(p:H<+:H'):St H' k w ps hs ms me far last z:=S.bk (Fr.pre p) (S.book.pre p) (fun _=>.inl) S.mo (Nat.le_refl _) S.z1 S.z2 S.z4
theorem St.le (S:St H k w ps hs ms me far last z)(h:z≤z'):St H k w ps hs ms me far last z':=S.bk Fr.refl S.book (fun _=>.inl) S.mo h (Nat.le_trans S.z1 h) (Nat.le_trans S.z2 h) (by have:=S.z4;lia)
end
theorem al2 {x y:Str}{v:V}{es:List (Str × V)}(h:(x==y)=false):List.lookup x ((y,v)::es)=es.lookup x:=by rw [List.lookup_cons,h]
theorem bC5 {x:Str}{v:V}{es:List (Str × V)}:List.lookup x ((x,v)::es)=some v:=by rw [List.lookup_cons,beq_self_eq_true]
section
variable {es:List (Str × V)} {w:Wr} {far last l':Int} {m':Nat}
theorem Dc.setL (D:Dc es w far last):Dc ((Str.ofString "last",.int l')::es) w far l':=⟨(al2 (by decide)).trans D.pe,(al2 (by decide)).trans D.fa,(al2 (by decide)).trans D.me,bC5,(al2 (by decide)).trans D.mo,(al2 (by decide)).trans D.he⟩
theorem Dc.setM (D:Dc es w far last):Dc ((Str.ofString "met",.ref m')::es) { w with m:=m' } far last:=⟨(al2 (by decide)).trans D.pe,(al2 (by decide)).trans D.fa,bC5,(al2 (by decide)).trans D.la,(al2 (by decide)).trans D.mo,(al2 (by decide)).trans D.he⟩
end
theorem aN2 {H:Hp}{x y:Nat}{l:List V}{es:List (Str × V)}(hx:b6 H x=some l)(hy:j6 H y=some es):x∉[y]:=m6 fun e=>by
 refine e1_2 (Option.bind_eq_some_iff.mp hx) fun o e1 h1=>?_
 refine e1_2 (Option.bind_eq_some_iff.mp hy) fun o' e2 h2=>?_
 rw [e,e2] at e1
 rw [Option.some.inj e1] at h2
 cases o with
 | list _=>exact b9 h2
 | _=>exact b9 h1
theorem PA.isL {H:Hp}{a:Ad}{p:Prs}{ms:List (Int × Int)}(A:PA H a p ms):∀ i∈a.all,∃ l,b6 H i=some l:=fun i hi=>by
 rcases List.mem_cons.mp hi with q|hi
 ·rw [q];exact ⟨_,A.li⟩
 rcases List.mem_cons.mp hi with q|hi
 ·rw [q];exact ⟨_,A.lf⟩
 rcases List.mem_cons.mp hi with q|hi
 ·rw [q];exact ⟨_,A.lu⟩
 rw [List.mem_singleton.mp hi];exact ⟨_,A.le⟩
theorem PsAt.isL {H:Hp}{me:Me}:∀ {as:List Ad} {ps:List Prs},PsAt H me as ps→∀ i∈ads as,∃ l,b6 H i=some l
 | [],_,_,_,hi=>nomatch hi
 | a::as,_,⟨p,qs,e,A,P⟩,i,hi=>(List.mem_append.mp (show i∈a.all++ads as from hi)).elim (A.isL i) (P.isL i)
section
variable {H:Hp} {k:Bk} {w:Wr} {ps:List Prs} {hs ms ms':List Mtg} {me:Me} {far last l':Int} {z:Nat} {es:List (Str × V)}
theorem St.dct {w':Wr}{H1:Hp}{es':List (Str × V)}(S:St H k w ps hs ms me far last z)(he:j6 H w.s=some es)(p:H<+:H1)(hw:w' = { w with m:=w'.m })(hz:es'.length≤z+1)(D:Dc es' w' far l')(hm:b6 H1 w'.m=some (ms'.map mtv))(hn:w'.m=w.m∨H.length≤w'.m):St (H1.set w.s (.dict es')) k w' ps hs ms' me far l' (z+1):=by
 have S1:=S.pre p
 have he1:j6 H1 w.s=some es:=(Fr.pre (F:=[]) p).dict (fun h=>nomatch h) he
 have f:Fr [w.s] H1 (H1.set w.s (.dict es')):=Fr.set
 have hL:(H1.set w.s (.dict es')).length=H1.length:=List.length_set
 have hsd:j6 (H1.set w.s (.dict es')) w.s=some es':=G9 he1
 have nd:∀ {x l},b6 H1 x=some l→x∉[w.s]:=fun h=>aN2 h he1
 have old:∀ i∈w'.rs,i∈w.rs∨i=w'.m:=fun i hi=>by
  rw [hw] at hi
  rcases List.mem_cons.mp hi with q|hi
  ·exact .inl (by rw [q];exact bS1)
  rcases List.mem_cons.mp hi with q|hi
  ·exact .inr q
  ·exact .inl (.tail _ (.tail _ hi))
 have lt:∀ i∈w.md,i<H.length:=fun i hi=>by
  rcases List.mem_cons.mp hi with q|hi
  ·rw [q];exact (S.pl _ aZ9).1
  ·refine e1_2 (List.mem_map.mp hi) fun a ha e_290=>?_
   obtain rfl:=e_290
   exact (S.pl _ (aT6 (y4 ha aN6))).1
 have md:w'.md=w.md:=by rw [hw];rfl
 have z3:=S.z3
 have z4:=S.z4
 have bs:=(S1.pl _ bw6).2
 have B:BkAt (H1.set w.s (.dict es')) k ps hs:=S1.book.fr f fun i hi=>m6 fun q=>bs (q▸hi)
 generalize H1.set w.s (.dict es')=H2 at *
 have hs':w'.s=w.s:=by rw [hw]
 have hn':w'.n=w.n:=by rw [hw]
 have ho':w'.o=w.o:=by rw [hw]
 have hd':w'.d=w.d:=by rw [hw]
 have h1':w'.a1=w.a1:=by rw [hw]
 have h2':w'.a2=w.a2:=by rw [hw]
 have hk':w'.ks=w.ks:=by rw [hw]
 have ha':w'.as=w.as:=by unfold Wr.as;rw [h1',h2']
 refine ⟨B,⟨es',by rw [hs'];exact hsd,hz,D⟩,by rw [hn',h1'];exact f.list (nd S1.ln) S1.ln,by rw [ho',h2'];exact f.list (nd S1.lo) S1.lo,f.list (nd hm) hm,by rw [hd',hk'];exact f.list (nd S1.ld) S1.ld,fun q hq=>?_,by rw [ha'];exact S1.P.fr f fun i hi=>let ⟨l,h⟩:=S1.P.isL i hi;nd h,by rw [md];exact S.nd,fun i hi hr=>?_,fun i hi=>?_,by rw [h1'];exact S.l1,S.pu,S.mo,Nat.le_succ_of_le S.z1,Nat.le_succ_of_le S.z2,by rw [hk'];lia,by lia⟩
 ·rw [hk'] at hq
  refine j4 (S1.lk q hq) fun a b=>?_
  exact ⟨f.list (nd a) a,b⟩
 ·rw [md] at hi
  rcases old i hr with h|h
  ·exact S.ap i hi h
  ·rcases hn with q|q
   ·exact S.ap i hi (by rw [h,q];exact bw3)
   ·have:=lt i hi;lia
 ·have key:i∈w.all∨i=w'.m:=by
   unfold Wr.all at hi ⊢
   rw [hs',hn',ho',hd',ha',hk'] at hi
   rcases List.mem_cons.mp hi with q|hi
   ·exact .inl (by rw [q];exact .head _)
   rcases List.mem_cons.mp hi with q|hi
   ·exact .inl (by rw [q];exact .tail _ (.head _))
   rcases List.mem_cons.mp hi with q|hi
   ·exact .inl (by rw [q];exact .tail _ (.tail _ (.head _)))
   rcases List.mem_cons.mp hi with q|hi
   ·exact .inr q
   ·exact .inl (.tail _ (.tail _ (.tail _ (.tail _ hi))))
  rcases key with h|h
  ·rw [hL];exact S1.pl i h
  ·rcases hn with q|q
   ·rw [hL,h,q];exact S1.pl _ bA4
   ·rw [hL,h];exact ⟨f9 hm,fun hf=>by have:=S.book.lt _ hf;lia⟩
end
end Mine
namespace Mine
open PySem
section
variable {H:Hp} {x:Nat} {s:Str} {l:List V}
theorem PA.ne {a:Ad}{p:Prs}{ms:List (Int × Int)}(h:b6 H x=some (.str s::l))(hs:p.nm≠s)(A:PA H a p ms):∀ i∈a.all,i≠x:=fun i hi=>by
 rcases List.mem_cons.mp hi with q|hi
 ·rw [q]
  intro e
  have hi:=A.li
  rw [e,h] at hi
  exact hs (Option.some.inj (congrArg aN5 (List.cons.inj (Option.some.inj hi)).1)).symm
 rcases List.mem_cons.mp hi with q|hi
 ·rw [q];exact D7 A.lf h (aX8 _).n1
 rcases List.mem_cons.mp hi with q|hi
 ·rw [q];exact D7 A.lu h (aX8 _).n1
 rw [List.mem_singleton.mp hi];exact D7 A.le h (bO1 _).n1
theorem PsAt.ne {me:Me}(h:b6 H x=some (.str s::l)):∀ {as:List Ad} {ps:List Prs},(∀ p∈ps,p.nm≠s)→PsAt H me as ps→∀ i∈ads as,i∉[x]
 | [],_,_,_,_,hi=>nomatch hi
 | a::as,_,hs,⟨p,qs,e,A,P⟩,i,hi=>by
  rw [e] at hs
  rcases List.mem_append.mp (show i∈a.all++ads as from hi) with hi|hi
  ·exact m6 (A.ne h (hs p List.mem_cons_self) i hi)
  ·exact P.ne h (fun p hp=>hs p (List.mem_cons_of_mem _ hp)) i hi
end
noncomputable def Sm (b:Nat):List Ad→List Ad→Prop
 | [],as=>as=[]
 | a::r,as=>∃ e s,as=⟨a.i,a.f,a.u,e⟩::s∧b≤e∧Sm b r s
theorem Sm.snoc {b e:Nat}{a:Ad}(h:b≤e):∀ {r s:List Ad},Sm b r s→Sm b (r++[a]) (s++[⟨a.i,a.f,a.u,e⟩])
 | [],_,h'=>by obtain rfl:=h';exact ⟨e,[],rfl,h,rfl⟩
 | _::_,_,⟨e',s,q,h1,h2⟩=>⟨e',s++[_],by rw [q];rfl,h1,h2.snoc h⟩
theorem bm6 {a:Ad}{p:Prs}{v0 v1:V}{l:List V}{t3 t4 t5:Option V}{H:Hp}{st:Hp→Prop}{Q:List V→Hp→Prop}(hst:st H)(A:b6 H a.i=some (.str p.nm::l)):∀ (ms:List Mtg) (acc:List V),Q (acc++(ml ms p).map ap4) H →
  n9 (bx0 Θk (.tup [(.sub (.loc 3) (.lit (.int 1))),(.sub (.loc 3) (.lit (.int 2)))]) (.cmp (.sub (.loc 2) (.lit (.int 0))) .In (.sub (.loc 3) (.lit (.int 3))))) st 3 [some v0,some v1,some (.ref a.i),t3,t4,t5] (ms.map mtv) acc H Q:=by
 intro ms
 induction ms with
 | nil=>intro acc q;rw [show ml [] p=[] from rfl,List.map_nil,List.append_nil] at q;exact q
 | cons m ms ih =>
  intro acc q
  rw [List.map_cons,show mtv m=V.tup [.int m.no,.int m.hr,.int m.sz,.tup (m.who.map V.str)] from rfl,aE9]
  unfold ml at q
  rw [List.filter_cons] at q
  simp_arith only [A,O1]
  refine aN7 (fun e=>?_) (fun e=>?_)
  ·rw [if_pos e,List.map_cons,List.map_cons,List.append_cons] at q
   exact ⟨hst,ih _ q⟩
  ·rw [if_neg (by rw [e];decide)] at q
   rw [List.append_nil]
   exact ⟨hst,ih _ q⟩
inductive be0 (H:Hp)(Q:V→Hp→Prop):List V→Prop where
 | mk (r mm:Nat) (as:List Ad) (ps:List Prs) (me:Me) (ms:List Mtg):b6 H r=some (i5 as)→PsAt H me as ps→(ps.map Prs.nm).Nodup→b6 H mm=some (ms.map mtv)→ms.length≤1000→(∀ H' as',Fr (as.map Ad.i) H H'→Sm H.length as as'→PsAt H' (ml ms) as' ps→Q .none H')→be0 H Q [.ref r,.ref mm]
noncomputable def aV0:Ctr:=fun vs H Q _=>be0 H Q vs
noncomputable abbrev puB:List IS:=bdy (f_l_put.body.getD 0 .fail)
theorem aP5 {hs:List Mtg}{p:Prs}:(ml hs p).length≤hs.length:=by
 unfold ml
 rw [List.length_map];exact List.length_filter_le _ _
theorem ac1:∀ as:List Ad,knd (i5 as)≠1
 | []=>by decide
 | _::_=>by show (2:Nat)≠1;decide
theorem b61 {XF:XS}{r mm:Nat}{me:Me}{ms:List Mtg}{t3 t4 t5:Option V}{Q:QS}{H0:Hp}{as:List Ad}(hz:ms.length≤1000):∀ (a2:List Ad) (p2:List Prs) (a1 a3:List Ad) (p1:List Prs) (H:Hp) (t2:Option V),a1++a2=as→b6 H r=some (i5 as)→PsAt H (ml ms) a3 p1→PsAt H me a2 p2→b6 H mm=some (ms.map mtv)→((p1++p2).map Prs.nm).Nodup→Sm H0.length a1 a3→Fr (as.map Ad.i) H0 H →
  (∀ H' a' L',Fr (as.map Ad.i) H0 H'→Sm H0.length as a'→PsAt H' (ml ms) a' (p1++p2)→Q .next L' H') →
  j7 (A4 Θk puB XF) (fun H'=>b6 H' r=some (i5 as)) 2 (i5 a2) [some (.ref r),some (.ref mm),t2,t3,t4,t5] H Q:=by
 intro a2
 induction a2 with
 | nil =>
  intro p2 a1 a3 p1 H t2 ea _ P1 P2 _ _ s f q
  obtain rfl:p2=[]:=P2
  rw [List.append_nil] at ea q
  subst ea
  exact q H a3 _ f s P1
 | cons a a2 ih =>
  rintro p2 a1 a3 p1 H t2 ea hr P1 ⟨p,qs,rfl,A,P2⟩ hm nd s f q
  have ai:=A.li
  rw [show i5 (a::a2)=.ref a.i::i5 a2 from rfl,g4]
  have nu:=nd
  rw [List.map_append] at nu
  have n1:∀ q∈p1,q.nm≠p.nm:=fun q hq=>(List.nodup_append.mp nu).2.2 _ (List.mem_map_of_mem hq) _ (.head _)
  have n2:∀ q∈qs,q.nm≠p.nm:=fun q hq e=>(List.nodup_cons.mp (List.nodup_append.mp nu).2.1).1 (e▸List.mem_map_of_mem hq)
  have nr:=m6 (D7 hr ai (ac1 as))
  have nm:=m6 (D7 hm ai (a58 ms).n1)
  have nf:=m6 (D7 A.lf ai (aX8 _).n1)
  have nu':=m6 (D7 A.lu ai (aX8 _).n1)
  have hl:=aP5 (hs:=ms) (p:=p)
  have i4:=b7 (b8 (o:=.list ((ml ms p).map ap4))) ai
  refine b0 ?_
  simp_arith only [hm]
  refine bm6 hm ai ms [] ⟨by rw [List.nil_append,List.length_map];lia,?_⟩
  rw [List.nil_append]
  simp_arith only [i4]
  refine ⟨by show (3:Int)<4;decide,?_⟩
  have ln:=b5 (H:=H) (l:=(ml ms p).map ap4)
  have g:Fr [a.i] H ((H++[O.list ((ml ms p).map ap4)]).set a.i (O.list [.str p.nm,.ref a.f,.ref a.u,.ref H.length])):=(Fr.pre (F:=[a.i]) b8).trans Fr.set fun _ h=>.inl h
  have l1:=j8 (m:=[V.str p.nm,.ref a.f,.ref a.u,.ref H.length]) i4
  have l2:b6 ((H++[O.list ((ml ms p).map ap4)]).set a.i (O.list [.str p.nm,.ref a.f,.ref a.u,.ref H.length])) H.length=some ((ml ms p).map ap4):=by rw [w6 (Nat.ne_of_lt (f9 ai)),ln]
  have hL:=f.len
  generalize (H++[O.list ((ml ms p).map ap4)]).set a.i (O.list [.str p.nm,.ref a.f,.ref a.u,.ref H.length])=H1 at *
  have hr1:=g.list nr hr
  exact ⟨hr1,ih qs (a1++[a]) (a3++[⟨a.i,a.f,a.u,H.length⟩]) (p1++[p]) H1 _ (by rw [List.append_assoc];exact ea) hr1 (PsAt.snoc (a:=⟨a.i,a.f,a.u,H.length⟩) ⟨l1,g.list nf A.lf,g.list nu' A.lu,l2⟩ (P1.fr g (P1.ne ai n1))) (P2.fr g (P2.ne ai n2)) (g.list nm hm) (by rw [List.append_assoc];exact nd) (s.snoc hL) (f.trans g fun i hi=>.inl (by rw [List.mem_singleton.mp hi,←ea];exact List.mem_map_of_mem (List.mem_append_right _ (.head _)))) (by rw [List.append_assoc];exact q)⟩
theorem cg2:∀ vs H Q X,aV0 vs H Q X→v8 Θk f_l_put vs H Q X:=by
 rintro vs H Q X ⟨r,mm,as,ps,me,ms,hr,P,nd,hm,hz,q⟩
 refine i9 rfl ?_
 change j1 Θk f_l_put.body [some (.ref r),some (.ref mm),none,none,none,none] H _ _
 refine b0 ?_
 rw [aJ3,bk9]
 show oK (b6 H r) _
 rw [hr]
 exact b61 hz as ps [] [] [] H _ rfl hr rfl P hm nd rfl Fr.refl fun H' a' L' f s P'=>q H' a' f s P'
noncomputable def Θl:Orc:=ext "_law_put" aV0 Θk
theorem Sm.app {b:Nat}:∀ {r1 r2 s:List Ad},Sm b (r1++r2) s→∃ s1 s2,s=s1++s2∧Sm b r1 s1∧Sm b r2 s2
 | [],_,s,h=>⟨[],s,rfl,rfl,h⟩
 | _::_,_,_,⟨e,s,q,h1,h2⟩=>by
  refine e2_3 (h2.app) fun s1 s2 e_291 a b=>?_
  obtain rfl:=e_291
  exact ⟨_::s1,s2,q,⟨e,s1,rfl,h1,a⟩,b⟩
theorem Sm.refs {b:Nat}:∀ {r s:List Ad},Sm b r s→Mine.i5 s=Mine.i5 r∧s.map Ad.u=r.map Ad.u∧s.length=r.length
 | [],_,h=>by obtain rfl:=h;exact ⟨rfl,rfl,rfl⟩
 | a::_,_,⟨e,s,q,_,h2⟩=>by
  refine R8 (h2.refs) fun x y t=>?_
  rw [q]
  exact ⟨congrArg (V.ref a.i::·) x,congrArg (a.u::·) y,congrArg Nat.succ t⟩
theorem Sm.sub {b:Nat}:∀ {r s:List Ad},Sm b r s→(∀ i∈ads s,i∈ads r∨b≤i)∧∀ i∈fes s,i∈fes r∨b≤i
 | [],_,h=>by obtain rfl:=h;exact ⟨fun _ h=>(nomatch h),fun _ h=>(nomatch h)⟩
 | a::r,_,⟨e,s,q,h1,h2⟩=>by
  refine j4 (h2.sub) fun x y=>?_
  rw [q]
  refine ⟨fun i hi=>?_,fun i hi=>?_⟩
  ·rcases List.mem_append.mp (show i∈[a.i,a.f,a.u,e]++ads s from hi) with hi|hi
   ·have up:∀ i∈a.all,i∈ads (a::r)∨b≤i:=fun i hi=>.inl (y4 List.mem_cons_self hi)
    rcases List.mem_cons.mp hi with q|hi
    ·rw [q];exact up _ a76
    rcases List.mem_cons.mp hi with q|hi
    ·rw [q];exact up _ bi8
    rcases List.mem_cons.mp hi with q|hi
    ·rw [q];exact up _ aN6
    rw [List.mem_singleton.mp hi];exact .inr h1
   ·exact (x i hi).imp (List.mem_append_right _) id
  ·rcases List.mem_append.mp (show i∈[a.f,e]++fes s from hi) with hi|hi
   ·rcases List.mem_cons.mp hi with q|hi
    ·rw [q];exact .inl (.head _)
    rw [List.mem_singleton.mp hi];exact .inr h1
   ·exact (y i hi).imp (List.mem_append_right [a.f,a.e]) id
theorem PsAt.isS {H:Hp}{me:Me}:∀ {as:List Ad} {ps:List Prs},PsAt H me as ps→∀ i∈as.map Ad.i,∃ l,b6 H i=some l∧knd l=1
 | [],_,_,_,hi=>nomatch hi
 | a::_,_,⟨p,qs,e,A,P⟩,i,hi=>by
  rcases List.mem_cons.mp hi with q|hi
  ·rw [q];exact ⟨_,A.li,rfl⟩
  ·exact P.isS i hi
theorem aA0 (ks:List (Nat × List Mtg)):tupL (ks.map Y4):=at7 (fun _=>rfl) ks
theorem St.put {H H':Hp}{k:Bk}{w:Wr}{ps:List Prs}{hs ms xs:List Mtg}{me:Me}{far last:Int}{z:Nat}{as':List Ad}(S:St H k w ps hs ms me far last z)(f:Fr (w.as.map Ad.i) H H')(s:Sm H.length w.as as')(P:PsAt H' (ml xs) as' ps):∃ w',w'.s=w.s∧w'.as=as'∧St H' k w' ps hs ms (ml xs) far last z:=by
 refine e2_3 (s.app) fun s1 s2 e_292 h1 h2=>?_
 obtain rfl:=e_292
 have ia:∀ i∈w.as.map Ad.i,i∈ads w.as:=fun i hi=>by
  refine e1_2 (List.mem_map.mp hi) fun a ha e_293=>?_
  obtain rfl:=e_293
  exact y4 ha a76
 have ne:∀ {x l},b6 H x=some l→knd l≠1→x∉w.as.map Ad.i:=fun {x l} h hn hi=>by
  refine e1_2 (S.P.isS _ hi) fun m hm hk=>?_
  exact D7 h hm (by rw [hk];exact hn) rfl
 refine e1_3 (S.dc) fun es d1 d2 d3=>?_
 have sd:w.s∉w.as.map Ad.i:=fun hi=>by
  refine e1_2 (S.P.isS _ hi) fun m hm _=>?_
  exact aN2 hm d1 (.head _)
 have u:=s.refs.2.1
 refine ⟨{ w with a1:=s1,a2:=s2 },rfl,rfl,S.book.fr f fun i hi hi'=>(S.pl i (aT6 (ia i hi'))).2 hi,⟨es,f.dict sd d1,d2,⟨d3.pe,d3.fa,d3.me,d3.la,d3.mo,d3.he⟩⟩,by show b6 H' w.n=some (i5 s1);rw [h1.refs.1];exact f.list (ne S.ln (ac1 _)) S.ln,by show b6 H' w.o=some (i5 s2);rw [h2.refs.1];exact f.list (ne S.lo (ac1 _)) S.lo,f.list (ne S.lm (a58 _).n1) S.lm,f.list (ne S.ld (aA0 _).n1) S.ld,fun q hq=>⟨f.list (ne (S.lk q hq).1 (a58 _).n1) (S.lk q hq).1,(S.lk q hq).2⟩,P,?_,fun i hi hr=>?_,fun i hi=>?_,h1.refs.2.2.trans S.l1,S.pu,S.mo,S.z1,S.z2,S.z3,S.z4⟩
 ·show (w.d::(s1++s2).map Ad.u).Nodup
  rw [u];exact S.nd
 ·have hi:i∈w.md:=by
   have hi:i∈w.d::(s1++s2).map Ad.u:=hi
   rw [u] at hi;exact hi
  have lt:i<H.length:=by
   rcases List.mem_cons.mp hi with q|hi
   ·rw [q];exact (S.pl _ aZ9).1
   ·refine e1_2 (List.mem_map.mp hi) fun a ha e_294=>?_
    obtain rfl:=e_294
    exact (S.pl _ (aT6 (y4 ha aN6))).1
  refine S.ap i hi ?_
  have hr:i∈w.o::w.m::(fes (s1++s2)++w.ks.map Prod.fst):=hr
  rcases List.mem_cons.mp hr with q|hr
  ·rw [q];exact bS1
  rcases List.mem_cons.mp hr with q|hr
  ·rw [q];exact bw3
  rcases List.mem_append.mp hr with hr|hr
  ·rcases s.sub.2 i hr with q|q
   ·exact bU3 q
   ·lia
  ·exact .tail _ (.tail _ (List.mem_append_right _ hr))
 ·have key:i∈w.all∨i∈ads (s1++s2)∧H.length≤i:=by
   have hi:i∈[w.s,w.n,w.o,w.m,w.d]++(ads (s1++s2)++w.ks.map Prod.fst):=hi
   rcases List.mem_append.mp hi with h|h
   ·exact .inl (show i∈[w.s,w.n,w.o,w.m,w.d]++(ads w.as++w.ks.map Prod.fst) from List.mem_append_left _ h)
   rcases List.mem_append.mp h with h|h
   ·exact (s.sub.1 i h).imp aT6 fun q=>⟨h,q⟩
   ·exact .inl (show i∈[w.s,w.n,w.o,w.m,w.d]++(ads w.as++w.ks.map Prod.fst) from List.mem_append_right _ (List.mem_append_right _ h))
  rcases key with h|⟨h,h'⟩
  ·exact ⟨Nat.lt_of_lt_of_le (S.pl i h).1 f.len,(S.pl i h).2⟩
  ·exact ⟨P.lt i h,fun hf=>by have:=S.book.lt _ hf;lia⟩
end Mine
namespace Mine
open PySem
theorem ao3 {hs:List Mtg}{p:Prs}{q:Int × Int}:q∈ml hs p↔∃ m∈hs,m.who.contains p.nm=true∧q=(m.hr,m.sz):=by
 unfold ml
 rw [List.mem_map]
 exact ⟨fun ⟨m,h,e⟩=>⟨m,(List.mem_filter.mp h).1,(List.mem_filter.mp h).2,e.symm⟩,fun ⟨m,h1,h2,e⟩=>⟨m,List.mem_filter.mpr ⟨h1,h2⟩,e.symm⟩⟩
theorem aE8 {hs:List Mtg}{b:Int}(hn:∀ m∈hs,m.no≠b){p:Prs}{x:Int}:(ml hs p).any (inM x)=R9 b hs p.nm x:=by
 rw [Bool.eq_iff_iff,List.any_eq_true]
 unfold R9
 rw [List.any_eq_true]
 constructor
 ·rintro ⟨q,hq,e⟩
  refine e1_3 (ao3.mp hq) fun m h1 h2 e_295=>?_
  obtain rfl:=e_295
  have e:(decide (m.hr≤x)&&decide (x<m.hr+m.sz))=true:=e
  exact ⟨m,h1,by rw [decide_eq_true (hn m h1),h2,e];rfl⟩
 ·rintro ⟨m,h1,e⟩
  rw [Bool.and_eq_true,Bool.and_eq_true] at e
  exact ⟨(m.hr,m.sz),ao3.mpr ⟨m,h1,e.2.1,rfl⟩,e.2.2⟩
theorem aB3 {hs xs:List Mtg}{b:Int}{p:Prs}{x:Int}(h:R9 b hs p.nm x=(ml xs p).any (inM x))(h0:0≤x):opn (ml xs) p x=fre b hs p x:=by
 unfold opn fre
 rw [h,decide_eq_false (show ¬ x<0 by lia),Bool.and_comm];rfl
theorem aT8 {hs xs:List Mtg}{b:Int}{qs rs:List Prs}{x:Int}(h:∀ p,R9 b hs p.nm x=(ml xs p).any (inM x))(h0:0≤x)(hq:∀ p,p∈qs↔p∈rs):lgd (ml xs) qs x=gd b hs rs x:=by
 rw [Bool.eq_iff_iff]
 unfold lgd gd
 rw [List.all_eq_true,List.all_eq_true]
 exact ⟨fun k p hp=>by rw [←aB3 (h p) h0];exact k p ((hq p).mpr hp),fun k p hp=>by rw [aB3 (h p) h0];exact k p ((hq p).mp hp)⟩
theorem IsFirst.to {G G':Int→Bool}{hours lo la:Int}{v:V}(e:∀ x,lo≤x→G x=G' x)(F:IsFirst G hours lo la v):IsFirst G' hours lo la v:=by
 have k:∀ a,lo≤a→(okW G hours a↔okW G' hours a):=fun a ha=>⟨fun h y y1 y2=>by rw [←e y (by lia)];exact h y y1 y2,fun h y y1 y2=>by rw [e y (by lia)];exact h y y1 y2⟩
 rcases F with ⟨a,rfl,a1,a2,ok,no⟩|⟨rfl,no⟩
 ·exact .inl ⟨a,rfl,a1,a2,(k a a1).mp ok,fun x x1 x2 h=>no x x1 x2 ((k x x1).mpr h)⟩
 ·exact .inr ⟨rfl,fun x x1 x2 h=>no x x1 x2 ((k x x1).mpr h)⟩
theorem IsFirst.same {G:Int→Bool}{hours lo la:Int}{v v':V}(F:IsFirst G hours lo la v)(F':IsFirst G hours lo la v'):v=v':=by
 rcases F with ⟨a,rfl,a1,a2,ok,no⟩|⟨rfl,no⟩<;>rcases F' with ⟨a',rfl,a1',a2',ok',no'⟩|⟨rfl,no'⟩
 ·have:¬ a'<a:=fun h=>no _ a1' h ok'
  have:¬ a<a':=fun h=>no' _ a1 h ok
  rw [show a=a' by lia]
 ·exact absurd ok (no' _ a1 a2)
 ·exact absurd ok' (no _ a1' a2')
 ·rfl
theorem IsFirst.le {G:Int→Bool}{hours lo la a:Int}(F:IsFirst G hours lo la (.int a)):lo≤a∧a≤la:=by
 rcases F with ⟨a',e,a1,a2,_⟩|⟨e,_⟩
 ·have:a=a':=Option.some.inj (congrArg al4 e)
  rw [this];exact ⟨a1,a2⟩
 ·exact b9 (congrArg al4 e).symm
inductive Stt (H:Hp)(far:Int)(z:Nat):Nat→Nat→Prop where
 | mk (k:Bk) (w:Wr) (ps:List Prs) (hs:List Mtg) (me:Me):St H k w ps hs hs me far k.g z→Stt H far z k.b w.s
structure Sl (H:Hp)(me:Me)(ps:List Prs)(s:Nat)(bs:List Ad)(qs:List Prs):Prop where
 l:b6 H s=some (i5 bs)
 P:PsAt H me bs qs
 sub:∀ q∈qs,q∈ps
 nd:(qs.map Prs.nm).Nodup
 z:qs.length≤6
theorem Sl.pre {H H':Hp}{me:Me}{ps:List Prs}{s:Nat}{bs:List Ad}{qs:List Prs}(S:Sl H me ps s bs qs)(p:H<+:H'):Sl H' me ps s bs qs:=⟨b7 p S.l,S.P.pre p,S.sub,S.nd,S.z⟩
theorem PsAt.get {H:Hp}{me:Me}:∀ {as:List Ad} {ps:List Prs} {i:Nat} {a:Ad},PsAt H me as ps→as[i]? = some a→∃ p,ps[i]? = some p∧PA H a p (me p)
 | a::as,_,0,_,⟨p,qs,e,A,P⟩,h=>by obtain rfl:=Option.some.inj h;exact ⟨p,by rw [e];rfl,A⟩
 | a::as,_,i+1,_,⟨p,qs,e,A,P⟩,h=>by rw [e];exact P.get (i:=i) h
theorem St.oth {H H':Hp}{k:Bk}{w:Wr}{ps:List Prs}{hs ms:List Mtg}{me:Me}{far last:Int}{z x:Nat}(S:St H k w ps hs ms me far last z)(f:Fr [x] H H')(hx:∀ i,i∈w.all∨i∈k.foot→i≠x):St H' k w ps hs ms me far last z:=by
 have ne:∀ {i},i∈w.all→i∉[x]:=fun h=>m6 (hx _ (.inl h))
 refine e1_3 (S.dc) fun es h5 h6 h7=>?_
 exact ⟨S.book.fr f fun i hi=>m6 (hx i (.inr hi)),⟨es,f.dict (ne bw6) h5,h6,h7⟩,f.list (ne b94) S.ln,f.list (ne b70) S.lo,f.list (ne bA4) S.lm,f.list (ne aZ9) S.ld,fun q hq=>⟨f.list (ne (b02 hq)) (S.lk q hq).1,(S.lk q hq).2⟩,S.P.fr f fun i hi=>ne (aT6 hi),S.nd,S.ap,fun i hi=>⟨Nat.lt_of_lt_of_le (S.pl i hi).1 f.len,(S.pl i hi).2⟩,S.l1,S.pu,S.mo,S.z1,S.z2,S.z3,S.z4⟩
theorem St.lt {H:Hp}{k:Bk}{w:Wr}{ps:List Prs}{hs ms:List Mtg}{me:Me}{far last:Int}{z:Nat}(S:St H k w ps hs ms me far last z):∀ i,i∈w.all∨i∈k.foot→i≠H.length:=fun i hi=>by
 rcases hi with h|h
 ·have:=(S.pl i h).1;lia
 ·have:=S.book.lt i h;lia
theorem bk8 {Φ:Orc}{H:Hp}{X:XL}{j:Nat}{L:Lc}{st:Hp→Prop}{me:Me}{Q:List V→Hp→Prop}(hj:j<L.length)(hst:st H):∀ (as:List Ad) (ps:List Prs) (acc:List V),PsAt H me as ps→Q (acc++nmL ps) H →
  n9 (av5 Φ (.sub (.loc j) (.lit (.int 0))) X) st j L (i5 as) acc H Q:=by
 intro as
 induction as with
 | nil=>intro ps acc P q;obtain rfl:ps=[]:=P;rw [show nmL []=[] from rfl,List.append_nil] at q;exact q
 | cons a as ih =>
  rintro ps acc ⟨p,qs,rfl,A,P⟩ q
  rw [show i5 (a::as)=.ref a.i::i5 as from rfl,y9]
  have e:(L.set j (some (.ref a.i)))[j]? = some (some (.ref a.i)):=by rw [List.getElem?_set_self (by lia)]
  rw [bE5,bk9,e]
  simp_arith only [A.li]
  refine ⟨hst,ih qs _ P ?_⟩
  rw [List.append_assoc];exact q
theorem bb0 {far s h e:Int}(hf:M5 far)(hs:far≤s∧s≤far+15)(hh:m7 h)(he:s≤e∧e≤s+177):Can h s (min e 999999999999)∧Win s (min e 999999999999-s):=by
 refine j4 hf fun f1 f2=>?_
 exact ⟨⟨hh,⟨by lia,by lia⟩,⟨by lia,by lia⟩,by lia,by lia⟩,⟨by lia,by lia,by lia,by lia⟩⟩
end Mine
namespace Mine
open PySem
noncomputable abbrev PV:=V→Hp→Prop
noncomputable def b90 (P:PV):Prop:=∀ v H H',H<+:H'→P v H→P v H'
noncomputable def EvA (Φ:Orc)(L:Lc)(H0:Hp)(X:XL)(P:PV)(e:IE):Prop:=∀ H Q,H0<+:H→(∀ v H',H<+:H'→P v H'→Q v H')→(wp2 Φ e).E L H Q X
section
variable {Φ:Orc} {L:Lc} {H0:Hp} {X:XL} {P:PV} {es:List IE} {b:IE}
theorem bd3 (mo:b90 P):∀ (es:List IE) (H:Hp) (Q:List V→Hp→Prop),H0<+:H→(∀ e∈es,EvA Φ L H0 X P e)→(∀ vs H',H<+:H'→vs.length=es.length→(∀ v∈vs,P v H')→Q vs H')→O9 Φ es L H Q X
 | [],H,Q,_,_,q=>q [] H (List.prefix_refl _) rfl fun _ h=>nomatch h
 | e::es,H,Q,p,h,q=>h e List.mem_cons_self H _ p fun v H1 p1 hv=>bd3 mo es H1 _ (p.trans p1) (fun e he=>h e (.tail _ he)) fun vs H2 p2 e hs=>q _ H2 (p1.trans p2) (congrArg Nat.succ e) fun w hw=>by
   rcases List.mem_cons.mp hw with e|hw
   ·rw [e];exact mo _ _ _ p2 hv
   ·exact hs w hw
theorem at8 (mo:b90 P)(h:∀ e∈es,EvA Φ L H0 X P e)(hz:es.length≤1000000)(hb:∀ H Q,(∀ k:Int,0≤k→k<(es.length:Int)→Q (.int k) H)→(wp2 Φ b).E L H Q X):EvA Φ L H0 X P (.sub (.lst es) b):=fun H Q p q=>by
 refine ⟨Nat.ble_eq_true_of_le hz,bd3 mo es H _ p h fun vs H1 p1 e hs=>hb _ _ fun k k0 k1=>?_⟩
 have hk:k.toNat<vs.length:=by lia
 show oK (b6 _ _) _
 rw [b5]
 show oK (idx vs k) _
 rw [show idx vs k=some vs[k.toNat] by unfold idx;rw [if_pos k0,List.getElem?_eq_getElem hk]]
 exact q _ _ (p1.trans b8) (mo _ _ _ b8 (hs _ (List.getElem_mem hk)))
end
noncomputable def SelP (A:Fin 3→Ad):PV:=fun v H=>∃ (s:Nat) (is:List (Fin 3)),v=.ref s∧b6 H s=some (i5 (is.map A))∧is.Nodup∧is≠[]∧is.length≤3
theorem SelP.mono {A:Fin 3→Ad}:b90 (SelP A):=fun _ _ _ p ⟨s,is,e,h,r⟩=>⟨s,is,e,b7 p h,r⟩
section
variable {Φ:Orc} {v0 v1 v2 v3:V} {Lr:Lc} {H0:Hp} {X:XL} {A:Fin 3→Ad} {n:Nat}
theorem ax7 (hn:b6 H0 n=some (i5 [A 0,A 1,A 2]))(is:List (Fin 3))(lo hi:Option IE)(vl vh:V)(h1:∀ H Q,wpO Φ lo (some v0::some v1::some v2::some v3::some (.ref n)::Lr) H Q X=Q vl H)(h2:∀ H Q,wpO Φ hi (some v0::some v1::some v2::some v3::some (.ref n)::Lr) H Q X=Q vh H)(hc:aC0 vl vh (i5 [A 0,A 1,A 2])=some (i5 (is.map A)))(hd:is.Nodup∧is≠[]∧is.length≤3):EvA Φ (some v0::some v1::some v2::some v3::some (.ref n)::Lr) H0 X (SelP A) (.slice (.loc 4) lo hi):=fun H Q p q=>by
 show wpO Φ lo _ H _ X
 rw [h1,h2,aV6,b7 p hn]
 show oK (aC0 vl vh _) _
 rw [hc]
 exact q _ _ b8 ⟨_,is,rfl,b5,hd⟩
theorem bd0 (hn:b6 H0 n=some (i5 [A 0,A 1,A 2]))(b:Bool):EvA Φ (some v0::some v1::some v2::some v3::some (.ref n)::Lr) H0 X (SelP A) (.rev (.loc 4) b):=fun H Q p q=>by
 show bG9 (.ref n) b H Q
 rw [ba5,b7 p hn]
 cases b with
 | true=>exact q _ _ b8 ⟨_,[2,0],rfl,b5,by decide⟩
 | false=>exact q _ _ b8 ⟨_,[2,1,0],rfl,b5,by decide⟩
theorem bB0 (hn:b6 H0 n=some (i5 [A 0,A 1,A 2])):EvA Φ (some v0::some v1::some v2::some v3::some (.ref n)::Lr) H0 X (SelP A) (.loc 4):=fun H Q p q=>q _ H (List.prefix_refl _) ⟨n,[0,1,2],rfl,b7 p hn,by decide⟩
end
theorem PsAt.pick {H:Hp}{me:Me}{A:Fin 3→Ad}{P:Fin 3→Prs}(h:∀ i,PA H (A i) (P i) (me (P i))){a2:List Ad}{p2:List Prs}(h2:PsAt H me a2 p2):∀ is:List (Fin 3),PsAt H me (is.map A++a2) (is.map P++p2)
 | []=>h2
 | i::is=>⟨P i,is.map P++p2,rfl,h i,PsAt.pick h h2 is⟩
theorem PsAt.app {H:Hp}{me:Me}:∀ {a1 a2:List Ad} {ps:List Prs},PsAt H me (a1++a2) ps→∃ p1 p2,ps=p1++p2∧PsAt H me a1 p1∧PsAt H me a2 p2
 | [],_,ps,h=>⟨[],ps,rfl,rfl,h⟩
 | _::_,_,_,⟨p,qs,e,A,P⟩=>by
  refine e2_3 (P.app) fun p1 p2 e_296 h1 h2=>?_
  obtain rfl:=e_296
  exact ⟨p::p1,p2,e,⟨p,p1,rfl,A,h1⟩,h2⟩
structure Th (H:Hp)(w:Wr)(me:Me)(ps:List Prs)(A:Fin 3→Ad)(P:Fin 3→Prs)(p2:List Prs):Prop where
 a1:w.a1=[A 0,A 1,A 2]
 ps:ps=[P 0,P 1,P 2]++p2
 at':∀ i,PA H (A i) (P i) (me (P i))
 P2:PsAt H me w.a2 p2
theorem St.th {H:Hp}{k:Bk}{w:Wr}{ps:List Prs}{hs ms:List Mtg}{me:Me}{far last:Int}{z:Nat}(S:St H k w ps hs ms me far last z):∃ A P p2,Th H w me ps A P p2:=by
 have P:PsAt H me (w.a1++w.a2) ps:=S.P
 have hl:=S.l1
 cases e:w.a1 with
 | nil=>rw [e] at hl;exact nomatch hl
 | cons a0 r=>cases r with
  | nil=>rw [e] at hl;exact nomatch hl
  | cons a1 r=>cases r with
   | nil=>rw [e] at hl;exact nomatch hl
   | cons a2 r=>cases r with
    | cons _ _=>rw [e] at hl;exact nomatch hl
    | nil =>
     rw [e] at P
     refine e2_3 P fun p0 q0 e0 A0 P=>?_
     refine e2_3 P fun p1 q1 e1 A1 P=>?_
     refine e2_3 P fun p2 q2 e2 A2 P=>?_
     refine ⟨fun i=>[a0,a1,a2][i],fun i=>[p0,p1,p2][i],q2,e,by rw [e0,e1,e2];rfl,fun i=>?_,P⟩
     match i with
     | 0=>exact A0
     | 1=>exact A1
     | 2=>exact A2
theorem Th.sl {H:Hp}{k:Bk}{w:Wr}{ps:List Prs}{hs ms:List Mtg}{me:Me}{far last:Int}{z s:Nat}{A:Fin 3→Ad}{P:Fin 3→Prs}{p2:List Prs}(S:St H k w ps hs ms me far last z)(T:Th H w me ps A P p2){is:List (Fin 3)}(hd:is.Nodup∧is≠[]∧is.length≤3):(b6 H s=some (i5 (is.map A))→Sl H me ps s (is.map A) (is.map P))∧(b6 H s=some (i5 (is.map A++w.a2))→Sl H me ps s (is.map A++w.a2) (is.map P++p2))∧is.map P≠[]:=by
 have nd:=S.pu.nd
 have z6:=S.pu.z
 rw [T.ps,List.map_append] at nd
 rw [T.ps,List.length_append] at z6
 refine R8 (List.nodup_append.mp nd) fun n1 n2 n3=>?_
 have gi:∀ i:Fin 3,[P 0,P 1,P 2][i.val]? = some (P i):=fun i=>by
  match i with
  | 0=>rfl
  | 1=>rfl
  | 2=>rfl
 have mem:∀ i,P i∈[P 0,P 1,P 2]:=fun i=>List.mem_of_getElem? (gi i)
 have inj:∀ i j,(P i).nm=(P j).nm→i=j:=fun i j e=>Fin.ext ((List.getElem?_inj (l:=[P 0,P 1,P 2].map Prs.nm) i.isLt n1).mp (by rw [List.getElem?_map,List.getElem?_map,gi,gi];exact congrArg some e))
 have m1:((is.map P).map Prs.nm).Nodup:=by
  rw [List.map_map]
  exact List.Pairwise.map _ (fun i j h q=>h (inj i j q)) hd.1
 have sub:∀ q∈is.map P,q∈[P 0,P 1,P 2]:=fun q hq=>by obtain ⟨i,_,rfl⟩:=List.mem_map.mp hq;exact mem i
 have hz:[P 0,P 1,P 2].length=3:=rfl
 refine ⟨fun hl=>⟨hl,?_,fun q hq=>by rw [T.ps];exact List.mem_append_left _ (sub q hq),m1,by rw [List.length_map];have:=hd.2.2;lia⟩,fun hl=>⟨hl,PsAt.pick T.at' T.P2 is,fun q hq=>?_,?_,by rw [List.length_append,List.length_map];have:=hd.2.2;lia⟩,fun h=>hd.2.1 (List.map_eq_nil_iff.mp h)⟩
 ·have:=PsAt.pick T.at' (a2:=[]) (p2:=[]) rfl is
  rw [List.append_nil,List.append_nil] at this
  exact this
 ·rw [T.ps]
  exact (List.mem_append.mp hq).elim (fun h=>List.mem_append_left _ (sub q h)) (List.mem_append_right _)
 ·rw [List.map_append]
  exact List.nodup_append.mpr ⟨m1,n2,fun x hx y hy=>n3 x (by obtain ⟨q,hq,rfl⟩:=List.mem_map.mp hx;exact List.mem_map_of_mem (sub q hq)) y hy⟩
end Mine
namespace Mine
open PySem
theorem b60:Θl "_law_first" = W4:=rfl
theorem bg7:Θl "_law_whole" = aq0:=rfl
theorem ce0:Θl (Str.ofString "Book."++Str.ofString "meet")=aE1:=rfl
theorem aN8 {H:Hp}{x y:Int}:eqK H (.tup [.int x,.int y]) (.tup [.int x,.int y])=some true:=by
 show (if (PyData.tuple [.int x,.int y]).depth≤60 then some (PyData.eqv (.tuple [.int x,.int y]) (.tuple [.int x,.int y])) else none)=_
 rw [if_pos (Nat.le_of_ble_eq_true rfl),show PyData.eqv (.tuple [.int x,.int y]) (.tuple [.int x,.int y])=(decide (x=x)&&(decide (y=y)&&true)) from rfl,decide_eq_true rfl,decide_eq_true rfl];rfl
theorem bs1 {H:Hp}{a b:V}{Q:V→Hp→Prop}:U0 .Eq a b H Q=oK (eqK H a b) fun c=>Q (.bool c) H:=rfl
theorem a53 {H:Hp}{l:List V}:C2 H (.tup l) .tuple=some true:=rfl
theorem aV9 {i:Int}:w8 (.int i)=false:=rfl
theorem ac4:w8 .none=true:=rfl
theorem St.free {H:Hp}{k:Bk}{w:Wr}{ps:List Prs}{hs ms:List Mtg}{me:Me}{far last:Int}{z:Nat}(S:St H k w ps hs ms me far last z):∀ m∈hs,m.no≠0:=fun m hm=>by have:=(S.book.no m hm).1;lia
theorem ca9 {i j:Int}(h:-1000≤i∧i≤1000000):(smI i||smI j)=true:=aG1.mpr (.inl (by lia))
structure Qu (far hours lo hi:Int):Prop where
 can:Can hours lo hi
 win:Win lo (hi-lo)
 ge:far≤lo
 le:hi≤far+192
theorem bM1 {H:Hp}{k:Bk}{w:Wr}{ps:List Prs}{hs:List Mtg}{far:Int}{z s:Nat}{bs:List Ad}{qs:List Prs}{hours lo hi:Int}{v2 v3 v4 v6:V}{Q:V→Hp→Prop}{X:XL}(S:St H k w ps hs hs (ml hs) far k.g z)(hz:z≤900)(L:Sl H (ml hs) ps s bs qs)(hne:qs≠[])(q0:Qu far hours lo hi)
  (q:∀ H',Stt H' far (z+3) k.b w.s→Q (.bool true) H') :
  j1 Θl (f_l_meet.body.drop 7) [some (.ref k.b),some (.ref w.s),some v2,some v3,some v4,some (.ref s),some v6,some (.int hours),some (.int lo),some (.int hi),none,none,none,none,none,none,none] H (rQ Q) (rX X):=by
 obtain ⟨C,W,ge,le⟩:=q0
 have pz:=L.z
 have hg:∀ q∈qs,q.fine:=fun q hq=>(S.pu.gp q (L.sub q hq)).2.1
 have z1:=S.z1
 have z2:=S.z2
 have z4:=S.z4
 refine d7 ?_
 simp_arith only [↓b60]
 refine ⟨s,bs,qs,ml hs,hours,lo,hi,L.l,L.P,by have:=L.P.length;lia,hg,C.hh,W,fun v H1 p1 F=>?_⟩
 have S1:=S.pre p1
 have L1:=L.pre p1
 refine j3 ?_
 refine d7 ?_
 have l1:=L1.l
 simp_arith only [l1]
 refine bk8 (me:=ml hs) ?_ l1 bs qs [] L1.P ⟨by rw [List.nil_append,List.length_map];lia,?_⟩
 ·show 14<17;decide
 rw [List.nil_append]
 have n2:=b5 (H:=H1) (l:=nmL qs)
 have p2:H1<+:H1++[.list (nmL qs)]:=b8
 have lt2:=S1.lt
 generalize H1.length=x2 at *
 generalize H1++[O.list (nmL qs)]=H2 at *
 have S2:=S1.pre p2
 refine j3 ?_
 refine d7 ?_
 simp_arith only [n2]
 have n3:=b5 (H:=H2) (l:=nmL qs)
 have p3:H2<+:H2++[.list (nmL qs)]:=b8
 have lt3:=S2.lt
 have S3:=S2.pre p3
 have n2:=b7 p3 n2
 have x23:x2<H2.length:=f9 (by assumption)
 generalize H2.length=x3 at *
 generalize H2++[O.list (nmL qs)]=H3 at *
 refine j3 ?_
 refine d7 ?_
 simp_arith only [S3.book.ns,↓ce0]
 have e0:∀ x,lo≤x→lgd (ml hs) qs x=gd 0 hs qs x:=fun x hx=>aT8 (fun p=>(aE8 S.free).symm) (by have:=W.l0;lia) fun p=>Iff.rfl
 have F':=F.to e0
 refine ⟨k,x3,ps,hs,qs,hours,lo,hi,⟨S3.book,n3,L.sub⟩,hg,hne,L.nd,C,fun h=>lt3 _ (.inr h) rfl,by lia,by lia,fun H4 p4 F4=>?_,fun a k' H4 F4 f4 kf kb kg kc B4=>?_⟩
 ·obtain rfl:=F'.same F4
  have n4:=b7 p4 n3
  have S4:=S3.pre p4
  refine j3 ?_
  refine d7 ?_
  simp_arith only [n4]
  refine ⟨⟨_,n4⟩,?_⟩
  have S5:=S4.oth (Fr.set (n:=x3) (o:=.list [])) lt3
  generalize H4.set x3 (O.list [])=H5 at *
  refine j3 ?_
  refine d7 ?_
  simp_arith only [ac4]
  exact q H5 ⟨k,w,ps,hs,_,S5.le (by lia)⟩
 obtain rfl:=F'.same F4
 have n4:=f4.list (fun h=>lt3 _ (.inr h) rfl) n3
 have S4:St H4 k' w ps _ hs (ml hs) far k.g (z+1):=S3.bk f4 B4 (fun i hi=>.inl (kf▸hi)) (fun m hm=>?_) (Nat.le_succ _) (by lia) (by rw [List.length_append,List.length_singleton];lia) (by lia)
 rotate_left
 ·rcases List.mem_append.mp hm with h|h
  ·exact S.mo m h
  ·rw [List.mem_singleton.mp h]
   have:=F4.le
   have hh:=C.hh.1
   have g0:=S.book.g0
   have w0:=W.l0
   exact ⟨by show 0≤a;lia,by show a≤far+192;lia,C.hh,fun x hx=>by obtain ⟨q,hq,rfl⟩:=List.mem_map.mp hx;exact List.mem_map_of_mem (L.sub q hq),by show (qs.map Prs.nm).length≤6;rw [List.length_map];exact pz,by show 0≤k.g+1∧k.g+1≤1000;lia⟩
 have hb:k'.b=k.b:=kb
 have n24:=f4.list (fun h=>lt2 _ (.inr h) rfl) n2
 rw [←kg] at S4
 obtain ⟨nw,hnw⟩:∃ nw:Mtg,nw=⟨k'.g,a,hours,qs.map Prs.nm⟩:=⟨_,rfl⟩
 rw [←hnw] at S4
 rw [←hb]
 rw [←hb] at q
 have lt4:∀ i,i∈w.all∨i∈k'.foot→i≠x3:=fun i hi=>lt3 i (by rw [kf] at hi;exact hi)
 clear lt3 n3 S3 S2 S1 S L1 l1 n2 F F' e0 L lt2
 refine j3 ?_
 refine d7 ?_
 simp_arith only [n4]
 refine ⟨⟨_,n4⟩,?_⟩
 have S5:=S4.oth (Fr.set (n:=x3) (o:=.list [])) lt4
 have n5:b6 (H4.set x3 (O.list [])) x2=some (nmL qs):=by rw [w6 (by lia)];exact n24
 generalize H4.set x3 (O.list [])=H5 at *
 refine j3 ?_
 refine d7 ?_
 simp_arith only [aV9]
 refine e1_3 (S5.dc) fun es d1 d2 d3=>?_
 refine j3 ?_
 refine d7 ?_
 simp_arith only [d1,d3.la]
 refine ⟨by lia,?_⟩
 rw [←kg]
 have D6:=d3.setL (l':=k'.g)
 have e6:j6 (H5.set w.s (.dict ((Str.ofString "last",.int k'.g)::es))) w.s=some ((Str.ofString "last",.int k'.g)::es):=G9 d1
 have S6:St (H5.set w.s (.dict ((Str.ofString "last",.int k'.g)::es))) k' w ps _ hs (ml hs) far k'.g (z+1+1):=S5.dct (w':=w) d1 (List.prefix_refl _) rfl (Nat.succ_le_succ d2) D6 S5.lm (.inl rfl)
 have n6:=(Fr.set (H:=H5) (n:=w.s) (o:=.dict ((Str.ofString "last",.int k'.g)::es))).list (aN2 n5 d1) n5
 generalize H5.set w.s (.dict ((Str.ofString "last",.int k'.g)::es))=H6 at *
 refine j3 ?_
 refine d7 ?_
 have lm:=S6.lm
 have p7:H6<+:H6++[.list [.tup [.int k'.g,.int a,.int hours,.tup (nmL qs)]]]:=b8
 have lm7:=b7 p7 lm
 have c7:=b5 (H:=H6) (l:=[.tup [.int k'.g,.int a,.int hours,.tup (nmL qs)]])
 have e7:=(Fr.pre (F:=[]) p7).dict (fun h=>nomatch h) e6
 simp_arith only [e6,D6.me,D6.la,n6]
 generalize hH7:H6++[O.list [V.tup [.int k'.g,.int a,.int hours,.tup (nmL qs)]]]=H7 at *
 simp_arith only [lm7,c7,List.length_map]
 have hM:hs.map mtv++[.tup [.int k'.g,.int a,.int hours,.tup (nmL qs)]]=(hs++[nw]).map mtv:=by rw [List.map_append,nmL,af4,hnw];rfl
 rw [hM]
 refine ⟨by lia,?_⟩
 have p8:H7<+:H7++[.list ((hs++[nw]).map mtv)]:=b8
 have m8:=b5 (H:=H7) (l:=(hs++[nw]).map mtv)
 have e8:=(Fr.pre (F:=[]) p8).dict (fun h=>nomatch h) e7
 have L7:=p7.length_le
 generalize hx:H7.length=x8 at *
 generalize H7++[O.list ((hs++[nw]).map mtv)]=H8 at *
 simp_arith only [e8]
 refine ⟨by lia,?_⟩
 have D9:=D6.setM (m':=x8)
 have e9:j6 (H8.set w.s (.dict ((Str.ofString "met",.ref x8)::(Str.ofString "last",.int k'.g)::es))) w.s=some _:=G9 e8
 have S9:=S6.dct (w':={ w with m:=x8 }) (es':=(Str.ofString "met",.ref x8)::(Str.ofString "last",.int k'.g)::es) (ms':=hs++[nw]) e6 (p7.trans p8) rfl (Nat.succ_le_succ (Nat.succ_le_succ d2)) D9 m8 (.inr L7)
 generalize H8.set w.s (.dict ((Str.ofString "met",.ref x8)::(Str.ofString "last",.int k'.g)::es))=H9 at *
 refine j3 ?_
 refine d7 ?_
 simp_arith only [a53,e9,D9.la,bs1,aN8,↓bg7]
 rw [y9]
 simp_arith only [↓bg7]
 refine ⟨_,rfl,?_⟩
 show n9 _ _ _ _ _ _ _ _
 rw [y9]
 simp_arith only [↓bg7]
 refine ⟨_,rfl,?_⟩
 show n9 _ _ _ _ _ _ _ _
 rw [bi3]
 refine ⟨by show 2≤1000000;decide,?_⟩
 rw [b5]
 exact q _ (show Stt _ far (z+3) k'.b ({ w with m:=x8 }:Wr).s from ⟨k',{ w with m:=x8 },ps,_,_,S9.pre b8⟩)
theorem in2 {c:Bool}:(0:Int)≤(if c=true then 1 else 0)∧(if c=true then (1:Int) else 0)<2:=by cases c<;>decide
inductive ac5 (H:Hp)(Q:V→Hp→Prop):List V→Prop where
 | mk (k:Bk) (w:Wr) (ps:List Prs) (hs:List Mtg) (far:Int) (z:Nat) (a b:Int):St H k w ps hs hs (ml hs) far k.g z→z≤900→(∀ H',Stt H' far (z+3) k.b w.s→Q (.bool true) H')→ac5 H Q [.ref k.b,.ref w.s,.int a,.int b]
noncomputable def aC4:Ctr:=fun vs H Q _=>ac5 H Q vs
theorem bc3 {H:Hp}{k:Bk}{w:Wr}{ps:List Prs}{hs:List Mtg}{far a b:Int}{z s:Nat}{bs:List Ad}{qs:List Prs}{v4:V}{Q:V→Hp→Prop}{X:XL}(S:St H k w ps hs hs (ml hs) far k.g z)(hz:z≤900)(L:Sl H (ml hs) ps s bs qs)(hne:qs≠[])
  (q:∀ H',Stt H' far (z+3) k.b w.s→Q (.bool true) H') :
  j1 Θl (f_l_meet.body.drop 3) [some (.ref k.b),some (.ref w.s),some (.int a),some (.int b),some v4,some (.ref s),none,none,none,none,none,none,none,none,none,none,none] H (rQ Q) (rX X):=by
 refine d7 ?_
 simp_arith only [g5]
 have hl:=in2 (c:=decide (a/288%8=1))
 generalize (if decide (a/288%8=1)=true then (1:Int) else 0)=lg at *
 refine j3 ?_
 refine b0 ?_
 rw [K2]
 refine at8 (H0:=H) (P:=fun v _=>∃ h,v=.int h∧m7 h) (fun v _ _ _ h=>h) (List.forall_mem_cons.mpr ⟨?_,List.forall_mem_cons.mpr ⟨?_,List.forall_mem_nil _⟩⟩) (by decide) (fun H Q' q'=>?_) H _ (List.prefix_refl _) fun v H1 p1 hv=>?_
 ·intro H1 Q1 p1 q1
  simp_arith only [g5]
  exact q1 _ H1 (List.prefix_refl _) ⟨_,rfl,by lia,by lia⟩
 ·intro H1 Q1 p1 q1
  simp_arith only [g5]
  exact q1 _ H1 (List.prefix_refl _) ⟨_,rfl,by lia,by lia⟩
 ·simp_arith only [g5]
  exact q' lg hl.1 hl.2
 refine e1_2 hv fun h e_297 hh=>?_
 obtain rfl:=e_297
 have S1:=S.pre p1
 refine e1_3 (S1.dc) fun es d1 d2 d3=>?_
 refine j3 ?_
 refine d7 ?_
 simp_arith only [d1,d3.fa]
 have e1:=hh.1
 have e2:=hh.2
 refine j3 ?_
 refine d7 ?_
 simp_arith only [↓aH1 (ca9 (i:=h) (j:=lg) (by lia))]
 have h2:=in2 (c:=decide (b/160%16=1))
 have hp:0≤h*lg∧h*lg≤48:=by
  rcases (show lg=0∨lg=1 by lia) with e|e
  ·rw [e,Int.mul_zero];decide
  ·rw [e,Int.mul_one];lia
 refine j4 (S.pu.far) fun f1 f2=>?_
 refine j4 (bb0 (far:=far) (s:=far+b%16) (h:=h) (e:=far+b%16+h*lg+b/16%10+120*(if decide (b/160%16=1)=true then 1 else 0)) S.pu.far ⟨by lia,by lia⟩ hh ⟨by lia,by lia⟩) fun C W=>?_
 refine j3 ?_
 exact bM1 S1 hz (L.pre p1) hne ⟨C,W,by lia,by lia⟩ q
theorem bi9:∀ vs H Q X,aC4 vs H Q X→v8 Θl f_l_meet vs H Q X:=by
 rintro vs H Q X ⟨k,w,ps,hs,far,z,a,b,S,hz,q⟩
 refine i9 rfl ?_
 change j1 Θl f_l_meet.body [some (.ref k.b),some (.ref w.s),some (.int a),some (.int b),none,none,none,none,none,none,none,none,none,none,none,none,none] H _ _
 refine e1_3 (S.dc) fun es d1 d2 d3=>?_
 refine e3_1 (S.th) fun A P p2 T=>?_
 have hn:=S.ln
 rw [T.a1] at hn
 refine d7 ?_
 simp_arith only [d1,d3.pe]
 refine j3 ?_
 refine b0 ?_
 rw [K2]
 refine at8 (H0:=H) (P:=SelP A) SelP.mono (List.forall_mem_cons.mpr ⟨ax7 hn [0] none _ .none (.int 1) (fun _ _=>rfl) (fun _ _=>rfl) rfl (by decide),List.forall_mem_cons.mpr ⟨ax7 hn [1] _ _ (.int 1) (.int 2) (fun _ _=>rfl) (fun _ _=>rfl) rfl (by decide),List.forall_mem_cons.mpr ⟨ax7 hn [2] _ none (.int 2) .none (fun _ _=>rfl) (fun _ _=>rfl) rfl (by decide),List.forall_mem_cons.mpr ⟨ax7 hn [0,1] none _ .none (.int 2) (fun _ _=>rfl) (fun _ _=>rfl) rfl (by decide),List.forall_mem_cons.mpr ⟨ax7 hn [1,2] _ none (.int 1) .none (fun _ _=>rfl) (fun _ _=>rfl) rfl (by decide),List.forall_mem_cons.mpr ⟨bd0 hn true,List.forall_mem_cons.mpr ⟨bB0 hn,List.forall_mem_cons.mpr ⟨bd0 hn false,List.forall_mem_nil _⟩⟩⟩⟩⟩⟩⟩⟩) (by decide) (fun H Q' q'=>?_) H _ (List.prefix_refl _) fun v H1 p1 hv=>?_
 ·simp_arith only [g5]
  exact q' _ (Int.emod_nonneg _ (by decide)) (Int.emod_lt_of_pos _ (by decide))
 refine e2_3 hv fun s is e_298 hl hd=>?_
 obtain rfl:=e_298
 have S1:=S.pre p1
 have T1:Th H1 w (ml hs) ps A P p2:=⟨T.a1,T.ps,fun i=>(T.at' i).fr (F:=[]) (Fr.pre p1) fun _ _ h=>(nomatch h),T.P2.pre p1⟩
 refine R8 (T1.sl S1 (s:=s) hd) fun c1 _ ne1=>?_
 have d1':=(Fr.pre (F:=[]) p1).dict (fun h=>nomatch h) d1
 have lo1:=S1.lo
 refine j3 ?_
 refine d7 ?_
 simp_arith only [hl,d1',d3.mo,lo1]
 have end1:=bc3 (v4:=.ref w.n) (a:=a) (b:=b) (X:=X) S1 hz (c1 hl) ne1 q
 refine ⟨fun _=>⟨fun _=>⟨?_,?_⟩,fun _=>end1⟩,fun _=>end1⟩
 ·have:=hd.2.2
  have h1:=S1.P.length
  unfold Wr.as at h1
  have h2:=S1.pu.z
  rw [List.length_append] at h1
  rw [show (i5 (is.map A)).length=is.length by rw [show (i5 (is.map A)).length=(is.map A).length from List.length_map _,List.length_map],show (i5 w.a2).length=w.a2.length from List.length_map _]
  lia
 ·have p2':H1<+:H1++[.list (i5 (is.map A)++i5 w.a2)]:=b8
  have hl2:=b5 (H:=H1) (l:=i5 (is.map A)++i5 w.a2)
  have S2:=S1.pre p2'
  have T2:Th (H1++[.list (i5 (is.map A)++i5 w.a2)]) w (ml hs) ps A P p2:=⟨T.a1,T.ps,fun i=>(T1.at' i).fr (F:=[]) (Fr.pre p2') fun _ _ h=>(nomatch h),T1.P2.pre p2'⟩
  refine R8 (T2.sl S2 (s:=H1.length) hd) fun _ c2 _=>?_
  rw [show i5 (is.map A)++i5 w.a2=i5 (is.map A++w.a2) from List.map_append.symm] at *
  exact bc3 S2 hz (c2 hl2) (fun h=>ne1 (List.append_eq_nil_iff.mp h).1) q
noncomputable def Θm:Orc:=ext "_law_meet" aC4 Θl
end Mine
namespace Mine
open PySem
theorem ca5:Θm (Str.ofString "Book."++Str.ofString "drop")=aE5:=rfl
theorem ce5:Θm (Str.ofString "Book."++Str.ofString "move")=aE4:=rfl
theorem bc1 {H:Hp}{i j:Nat}(h:b6 H i=some [])(h':b6 H j=some []):eqK H (.ref i) (.ref j)=some true:=by
 show ((((b6 H i).bind A6).map PyData.list).bind fun d=>(((b6 H j).bind A6).map PyData.list).bind fun e=>if d.depth≤60 then some (PyData.eqv d e) else none)=_
 rw [h,h'];rfl
theorem aF9 {H:Hp}{i j:Nat}{d:PyData}{ds:List PyData}{l:List V}(h:b6 H i=some l)(hd:A6 l=some (d::ds))(hz:(PyData.list (d::ds)).depth≤60)(h':b6 H j=some []):eqK H (.ref i) (.ref j)=some false:=by
 show ((((b6 H i).bind A6).map PyData.list).bind fun d=>(((b6 H j).bind A6).map PyData.list).bind fun e=>if d.depth≤60 then some (PyData.eqv d e) else none)=_
 rw [h,h',Option.bind_some,hd]
 show (if (PyData.list (d::ds)).depth≤60 then some false else none)=_
 rw [if_pos hz]
inductive ao7 (H:Hp)(Q:V→Hp→Prop):List V→Prop where
 | mk (k:Bk) (ps:List Prs) (hs:List Mtg) (n:Int) (s:Nat) (l:List V):BkAt H k ps hs→hs.length≤1000→(∀ m∈hs,m.no≠n)→b6 H s=some l→(l=[]∨∃ lo hi,l=[.int lo,.int hi])→(∀ H',H<+:H'→Q (.bool true) H')→ao7 H Q [.ref k.b,.int n,.ref s]
noncomputable def U7:Ctr:=fun vs H Q _=>ao7 H Q vs
theorem bO4 {L:Lc}{H:Hp}{QF:QS}(h:QF (.ret (.bool true)) L H):hnX [("NoMeeting",(.lit (.bool true)))] QF (xc "NoMeeting") L H:=by
 have e:(xc "NoMeeting").ups.contains (Str.ofString "NoMeeting")=true:=by decide
 show ifP ((xc "NoMeeting").ups.contains (Str.ofString "NoMeeting")) (QF (.ret (.bool true)) L H) False
 rw [e];exact h
theorem aY9:∀ vs H Q X,U7 vs H Q X→v8 Θm f_l_refused vs H Q X:=by
 rintro vs H Q X ⟨k,ps,hs,n,s,l,B,hz,hn,hl,hc,q⟩
 refine i9 rfl ?_
 change j1 Θm f_l_refused.body [some (.ref k.b),some (.int n),some (.ref s),none,none,none] H _ _
 refine b0 ?_
 rw [bu4]
 refine b0 ?_
 have p1:H<+:H++[.list []]:=b8
 have l0:=b5 (H:=H) (l:=[])
 have l1:=b7 p1 hl
 have B1:=B.pre p1
 have q1:=q _ p1
 rcases hc with rfl|⟨lo,hi,rfl⟩
 ·have e:=bc1 l1 l0
  simp_arith only [bs1,e,B1.ns,↓ca5]
  exact .no k ps hs n B1 hz hn (bO4 q1)
 ·have e:=aF9 l1 (d:=.int lo) (ds:=[.int hi]) rfl (Nat.le_of_ble_eq_true rfl) l0
  simp_arith only [bs1,e,l1,B1.ns,↓ce5]
  exact .no k ps hs n _ _ B1 hz hn (bO4 q1)
noncomputable def Θn:Orc:=ext "_law_refused" U7 Θm
inductive At (n:Int)(hs:List Mtg):Int→Prop where
 | no:(∀ m∈hs,m.no≠n)→At n hs (hs.length:Int)
 | ok (h1:List Mtg) (m:Mtg) (h2:List Mtg):hs=h1++m::h2→m.no=n→At n hs (h1.length:Int)
theorem aR8:∀ ns:List Int,aa2 (ns.map V.int)=some ns
 | []=>rfl
 | n::ns=>by
  show (aa2 (ns.map V.int)).map _=_
  rw [aR8 ns];rfl
theorem bb8 {n:Int}:∀ hs:List Mtg,∃ j:Nat,a00 n (hs.map Mtg.no++[n])=some j∧At n hs (j:Int)
 | []=>⟨0,if_pos rfl,.no fun _ h=>nomatch h⟩
 | m::hs=>by
  by_cases e:m.no=n
  ·exact ⟨0,if_pos e,.ok [] m hs rfl e⟩
  ·refine e1_2 (bb8 (n:=n) hs) fun j h1 h2=>?_
   refine ⟨j+1,?_,?_⟩
   ·show (if m.no=n then some 0 else (a00 n (hs.map Mtg.no++[n])).map (· + 1))=_
    rw [if_neg e,h1];rfl
   ·generalize hj:((j:Nat):Int)=i at h2
    cases h2 with
    | no hn =>
     rw [show ((j+1:Nat):Int)=((m::hs).length:Int) by rw [List.length_cons];lia]
     exact .no fun x hx=>by
      rcases List.mem_cons.mp hx with q|q
      ·rw [q];exact e
      ·exact hn x q
    | ok h1 m' h2 e1 e2 =>
     rw [show ((j+1:Nat):Int)=((m::h1).length:Int) by rw [List.length_cons];lia]
     exact .ok (m::h1) m' h2 (by rw [e1];rfl) e2
inductive bI8 (H:Hp)(Q:V→Hp→Prop):List V→Prop where
 | mk (s m:Nat) (es:List (Str × V)) (hs:List Mtg) (n:Int):j6 H s=some es→es.lookup (Str.ofString "met")=some (.ref m)→b6 H m=some (hs.map mtv)→hs.length≤1000→(∀ j H',H<+:H'→At n hs j→Q (.int j) H')→bI8 H Q [.ref s,.int n]
noncomputable def bS4:Ctr:=fun vs H Q _=>bI8 H Q vs
theorem bp6 {H:Hp}{v0 v1:V}{t2 t3 t4:Option V}{st:Hp→Prop}{Q:List V→Hp→Prop}(hst:st H):∀ (hs:List Mtg) (acc:List V),Q (acc++(hs.map Mtg.no).map V.int) H→n9 (av5 Θn (.sub (.loc 2) (.lit (.int 0))) noX) st 2 [some v0,some v1,t2,t3,t4] (hs.map mtv) acc H Q:=by
 intro hs
 induction hs with
 | nil=>intro acc q;rw [List.map_nil,List.map_nil,List.append_nil] at q;exact q
 | cons m hs ih =>
  intro acc q
  rw [List.map_cons,show mtv m=V.tup [.int m.no,.int m.hr,.int m.sz,.tup (m.who.map V.str)] from rfl,y9]
  simp_arith only [g5]
  refine ⟨hst,ih _ ?_⟩
  rw [List.append_assoc];exact q
theorem cm0:∀ vs H Q X,bS4 vs H Q X→v8 Θn f_l_at vs H Q X:=by
 rintro vs H Q X ⟨s,m,es,hs,n,hd,he,hm,hz,q⟩
 refine i9 rfl ?_
 change j1 Θn f_l_at.body [some (.ref s),some (.int n),none,none,none] H _ _
 refine d7 ?_
 simp_arith only [hd,he,hm]
 refine bp6 hm hs [] ⟨by rw [List.nil_append,List.length_map,List.length_map];lia,?_⟩
 rw [List.nil_append]
 have p1:H<+:H++[.list ((hs.map Mtg.no).map V.int)]:=b8
 have l1:=b5 (H:=H) (l:=(hs.map Mtg.no).map V.int)
 generalize H.length=x1 at *
 generalize H++[O.list ((hs.map Mtg.no).map V.int)]=H1 at *
 have p2:H1<+:H1++[.list [.int n]]:=b8
 have l2:=b5 (H:=H1) (l:=[.int n])
 have l1:=b7 p2 l1
 generalize H1.length=x2 at *
 generalize H1++[O.list [V.int n]]=H2 at *
 refine e1_2 (bb8 (n:=n) hs) fun j h1 h2=>?_
 have hi:=aR8 (hs.map Mtg.no++[n])
 rw [List.map_append] at hi
 simp_arith only [l1,l2,b5]
 refine ⟨by rw [List.length_map,List.length_map];lia,⟨_,b5⟩,?_⟩
 rw [show (hs.map Mtg.no).map V.int++[V.int n]=(hs.map Mtg.no).map V.int++[n].map V.int from rfl,hi]
 show oK (a00 n _) _
 rw [h1]
 exact q _ _ (p1.trans (p2.trans b8)) h2
noncomputable def Θo:Orc:=ext "_law_at" bS4 Θn
theorem ch2:Θo "_law_at" = bS4:=rfl
theorem b24:Θo "_law_refused" = U7:=rfl
theorem bZ9:Θo (Str.ofString "Book."++Str.ofString "drop")=aE5:=rfl
theorem aP0 {Φ:Orc}{L:Lc}{H:Hp}{h1 h2:List Mtg}{m:Mtg}{s x j:Nat}{es:List (Str × V)}{X:XL}{C:V→Hp→Prop}(hL:L[1]? = some (some (.ref s)))(hj:L[j]? = some (some (.int (h1.length:Int))))(d:j6 H s=some es)(he:es.lookup (Str.ofString "met")=some (.ref x))(lm:b6 H x=some ((h1++m::h2).map mtv))(hz:h1.length+h2.length≤1000)(q:∀ y,H.length≤y→∀ H',H<+:H'→b6 H' y=some ((h1++h2).map mtv)→j6 H' s=some es→C (.ref y) H') :
  (wp2 Φ (.bin .Add (.slice (.sub (.loc 1) (.lit (.str "met"))) none (some (.loc j))) (.slice (.sub (.loc 1) (.lit (.str "met"))) (some (.bin .Add (.loc j) (.lit (.int 1)))) none))).E L H C X:=by
 refine j4 (av4 (hs:=h1) (h2:=h2) (m:=m)) fun c1 c2=>?_
 have p2:H<+:H++[.list (h1.map mtv)]:=b8
 have l2:=b5 (H:=H) (l:=h1.map mtv)
 have lm2:=b7 p2 lm
 have d2:=(Fr.pre (F:=[]) p2).dict (fun h=>nomatch h) d
 simp_arith only [hL,hj,d,he,lm,c1]
 generalize H.length=x2 at *
 generalize H++[O.list (h1.map mtv)]=H2 at *
 have p3:H2<+:H2++[.list (h2.map mtv)]:=b8
 have l3:=b5 (H:=H2) (l:=h2.map mtv)
 have l2':=b7 p3 l2
 have d3:=(Fr.pre (F:=[]) p3).dict (fun h=>nomatch h) d2
 simp_arith only [hL,hj,d2,he,lm2,c2]
 have x23:=f9 l2'
 generalize H2.length=x3 at *
 generalize H2++[O.list (h2.map mtv)]=H3 at *
 simp_arith only [l2',l3,List.length_map,←List.map_append]
 exact ⟨by lia,q _ (Nat.le_of_lt x23) _ ((p2.trans p3).trans b8) b5 ((Fr.pre (F:=[]) b8).dict (fun h=>nomatch h) d3)⟩
inductive am9 (H:Hp)(Q:V→Hp→Prop):List V→Prop where
 | mk (k:Bk) (w:Wr) (ps:List Prs) (hs:List Mtg) (far:Int) (z:Nat) (a:Int):St H k w ps hs hs (ml hs) far k.g z→z≤900→(∀ H',Stt H' far (z+3) k.b w.s→Q (.bool true) H')→am9 H Q [.ref k.b,.ref w.s,.int a]
noncomputable def ad4:Ctr:=fun vs H Q _=>am9 H Q vs
theorem aT7:∀ vs H Q X,ad4 vs H Q X→v8 Θo f_l_dropped vs H Q X:=by
 rintro vs H Q X ⟨k,w,ps,hs,far,z,a,S,hz,q⟩
 refine i9 rfl ?_
 change j1 Θo f_l_dropped.body [some (.ref k.b),some (.ref w.s),some (.int a),none,none,none,none,none] H _ _
 refine e1_3 (S.dc) fun es d1 d2 d3=>?_
 have g0:=S.book.g0
 have z1:=S.z1
 have z2:=S.z2
 have z4:=S.z4
 refine d7 ?_
 simp_arith only [d1,d3.la,↓ax1 (bS3 (j:=k.g+1) (by lia))]
 generalize 1+a/6%(k.g+1)=n
 refine j3 ?_
 refine d7 ?_
 simp_arith only [↓ch2]
 refine ⟨w.s,w.m,es,hs,n,d1,d3.me,S.lm,by lia,fun j H1 p1 hA=>?_⟩
 have S1:=S.pre p1
 have d1:=(Fr.pre (F:=[]) p1).dict (fun h=>nomatch h) d1
 have lm:=S1.lm
 refine j3 ?_
 refine d7 ?_
 cases hA with
 | no hn =>
  simp_arith only [d1,d3.me,lm,List.length_map,↓b24]
  exact ⟨k,ps,hs,n,_,[],S1.book.pre b8,by lia,hn,b5,.inl rfl,fun H2 p2=>q H2 ⟨k,w,ps,hs,_,(S1.pre (b8.trans p2)).le (by lia)⟩⟩
 | ok h1 m h2 e1 e2 =>
  subst e1 e2
  simp_arith only [d1,d3.me,lm,List.length_map,List.length_append,List.length_cons]
  refine ⟨fun h=>absurd h (by lia),fun _=>?_⟩
  rw [List.length_append,List.length_cons] at z2
  refine j3 ?_
  refine d7 ?_
  rw [bt4]
  refine aP0 rfl rfl d1 d3.me lm (by lia) fun x4 L3 H4 pp l4 d4'=>?_
  simp_arith only [d4']
  refine ⟨by lia,?_⟩
  have S5:=S1.dct (w':={ w with m:=x4 }) (es':=(Str.ofString "met",.ref x4)::es) (ms':=h1++h2) d1 pp rfl (Nat.succ_le_succ d2) d3.setM l4 (.inr L3)
  generalize H4.set w.s (.dict ((Str.ofString "met",.ref x4)::es))=H5 at *
  refine j3 ?_
  refine d7 ?_
  simp_arith only [S5.book.ns,↓bZ9]
  refine .ok k ps h1 m h2 S5.book (by rw [List.length_append,List.length_cons];lia) (by lia) fun H6 k6 f6 kb kg kc kf B6=>?_
  simp_arith only [ac4]
  have S6:=S5.bk f6 B6 kf (fun x hx=>S5.mo x ((List.mem_append.mp hx).elim (List.mem_append_left _) fun h=>List.mem_append_right _ (.tail _ h))) (Nat.le_succ _) (by lia) (by rw [List.length_append];lia) (by lia)
  rw [←kg] at S6
  rw [←kb] at q
  exact q _ (show Stt _ far (z+3) k6.b ({ w with m:=x4 }:Wr).s from ⟨k6,{ w with m:=x4 },ps,_,_,S6.le (Nat.le_succ _)⟩)
noncomputable def Θp:Orc:=ext "_law_dropped" ad4 Θo
end Mine
namespace Mine
open PySem
theorem cb8:Θp "_law_first" = W4:=rfl
theorem cc7:Θp "_law_put" = aV0:=rfl
theorem ce6:Θp "_law_at" = bS4:=rfl
theorem b28:Θp "_law_refused" = U7:=rfl
theorem b50:Θp "_law_whole" = aq0:=rfl
theorem ce7:Θp (Str.ofString "Book."++Str.ofString "move")=aE4:=rfl
noncomputable abbrev inW (who:List Str)(p:Prs):Bool:=who.contains p.nm
theorem br3 {H:Hp}{me:Me}{who:List Str}{st:Hp→Prop}{v0 v1 v2 v3 v4 v5 v6 v7 n h s v9 v10:V}{t11 t12 t13 t14 t15:Option V}{Q:List V→Hp→Prop}(hst:st H):∀ (as:List Ad) (ps:List Prs) (acc:List V),PsAt H me as ps→(∀ bs,PsAt H me bs (ps.filter (inW who))→Q (acc++i5 bs) H) →
  n9 (bx0 Θp (.loc 13) (.cmp (.sub (.loc 13) (.lit (.int 0))) .In (.sub (.loc 8) (.lit (.int 3))))) st 13 [some v0,some v1,some v2,some v3,some v4,some v5,some v6,some v7,some (.tup [n,h,s,.tup (who.map V.str)]),some v9,some v10,t11,t12,t13,t14,t15] (i5 as) acc H Q:=by
 intro as
 induction as with
 | nil=>intro ps acc P q;obtain rfl:ps=[]:=P;have:=q [] rfl;rw [show i5 []=[] from rfl,List.append_nil] at this;exact this
 | cons a as ih =>
  rintro ps acc ⟨p,qs,rfl,A,P⟩ q
  rw [show i5 (a::as)=.ref a.i::i5 as from rfl,aE9]
  simp_arith only [A.li,O1]
  rw [List.filter_cons] at q
  refine aN7 (fun e=>⟨hst,ih qs _ P fun bs hb=>?_⟩) (fun e=>⟨hst,?_⟩)
  ·rw [if_pos e] at q
   have:=q (a::bs) ⟨p,_,rfl,A,hb⟩
   rw [List.append_assoc];exact this
  ·rw [if_neg (by rw [show inW who p=who.contains p.nm from rfl,e];decide)] at q
   rw [List.append_nil]
   exact ih qs _ P q
theorem aI0 {ps:List Prs}:∀ who:List Str,(∀ x∈who,x∈ps.map Prs.nm)→∃ qs:List Prs,who=qs.map Prs.nm∧∀ q∈qs,q∈ps
 | [],_=>⟨[],rfl,fun _ h=>nomatch h⟩
 | x::who,h=>by
  refine e1_2 (aI0 who fun x hx=>h x (.tail _ hx)) fun qs e hq=>?_
  refine e1_2 (List.mem_map.mp (h x List.mem_cons_self)) fun p hp hx=>?_
  exact ⟨p::qs,by rw [List.map_cons,hx,e],fun q hm=>(List.mem_cons.mp hm).elim (fun e=>e▸hp) (hq q)⟩
theorem bF8 {ps:List Prs}(nd:(ps.map Prs.nm).Nodup){p q:Prs}(hp:p∈ps)(hq:q∈ps)(e:p.nm=q.nm):p=q:=by
 induction ps with
 | nil=>exact nomatch hp
 | cons a ps ih =>
  refine j4 (List.nodup_cons.mp nd) fun n1 n2=>?_
  rcases List.mem_cons.mp hp with h|h<;>rcases List.mem_cons.mp hq with h'|h'
  ·rw [h,h']
  ·exact absurd (List.mem_map_of_mem (f:=Prs.nm) h') (by rw [←e,h];exact n1)
  ·exact absurd (List.mem_map_of_mem (f:=Prs.nm) h) (by rw [e,h'];exact n1)
  ·exact ih n2 h h'
theorem aK3 {h1 h2:List Mtg}{m:Mtg}{nm:Str}{x:Int}:R9 m.no (h1++m::h2) nm x=R9 m.no (h1++h2) nm x:=by
 unfold R9
 rw [List.any_append,List.any_append,List.any_cons,show decide (m.no≠m.no)=false from decide_eq_false fun h=>h rfl];rfl
section
variable {H:Hp} {h1 h2:List Mtg} {m nw:Mtg} {a:Int} {s x:Nat} {es:List (Str × V)} {v0 v2 v3 v5 v6 v9 v10 v12:V} {t13 t14 t15:Option V} {X:XL} {C:V→Hp→Prop}
noncomputable abbrev mvL (v0:V)(s:Nat)(v2 v3:V)(m:Mtg)(v5 v6:V)(h1:List Mtg)(v9 v10:V)(a:Int)(v12:V)(t13 t14 t15:Option V):Lc:=[some v0,some (.ref s),some v2,some v3,some (.int m.no),some v5,some v6,some (.int (h1.length:Int)),some (.tup [.int m.no,.int m.hr,.int m.sz,.tup (m.who.map V.str)]),some v9,some v10,some (.int a),some v12,t13,t14,t15]
noncomputable abbrev mvA:IE:=.bin .Add (.slice (.sub (.loc 1) (.lit (.str "met"))) none (some (.loc 7))) (.lst [(.tup [(.loc 4),(.loc 11),(.sub (.loc 8) (.lit (.int 2))),(.sub (.loc 8) (.lit (.int 3)))])])
theorem cn6 (d:j6 H s=some es)(he:es.lookup (Str.ofString "met")=some (.ref x))(lm:b6 H x=some ((h1++m::h2).map mtv))(hn:nw=⟨m.no,a,m.sz,m.who⟩)(hz:h1.length+h2.length≤1000)(q:∀ y H',H<+:H'→b6 H' y=some ((h1++[nw]).map mtv)→C (.ref y) H'):(wp2 Θp mvA).E (mvL v0 s v2 v3 m v5 v6 h1 v9 v10 a v12 t13 t14 t15) H C X:=by
 have c1:=(av4 (hs:=h1) (h2:=h2) (m:=m)).1
 have p5:H<+:H++[.list (h1.map mtv)]:=b8
 have l5:=b5 (H:=H) (l:=h1.map mtv)
 simp_arith only [d,he,lm,c1]
 generalize H.length=x5 at *
 generalize H++[O.list (h1.map mtv)]=H5 at *
 have p6:H5<+:H5++[.list [.tup [.int m.no,.int a,.int m.sz,.tup (m.who.map V.str)]]]:=b8
 have l6:=b5 (H:=H5) (l:=[.tup [.int m.no,.int a,.int m.sz,.tup (m.who.map V.str)]])
 have l5:=b7 p6 l5
 generalize H5.length=x6 at *
 generalize H5++[O.list [V.tup [.int m.no,.int a,.int m.sz,.tup (m.who.map V.str)]]]=H6 at *
 simp_arith only [l5,l6,List.length_map]
 refine ⟨by lia,?_⟩
 rw [show h1.map mtv++[.tup [.int m.no,.int a,.int m.sz,.tup (m.who.map V.str)]]=(h1++[nw]).map mtv by rw [List.map_append,hn];rfl]
 exact q _ _ ((p5.trans p6).trans b8) b5
theorem co9 (d:j6 H s=some es)(he:es.lookup (Str.ofString "met")=some (.ref x))(lm:b6 H x=some ((h1++m::h2).map mtv))(hn:nw=⟨m.no,a,m.sz,m.who⟩)(hz:h1.length+h2.length≤1000)(q:∀ y,H.length≤y→∀ H',H<+:H'→b6 H' y=some ((h1++nw::h2).map mtv)→j6 H' s=some es→C (.ref y) H') :
  (wp2 Θp (.bin .Add mvA (.slice (.sub (.loc 1) (.lit (.str "met"))) (some (.bin .Add (.loc 7) (.lit (.int 1)))) none))).E (mvL v0 s v2 v3 m v5 v6 h1 v9 v10 a v12 t13 t14 t15) H C X:=by
 rw [by7]
 refine cn6 d he lm hn hz fun y H1 p1 l1=>?_
 have c2:=(av4 (hs:=h1) (h2:=h2) (m:=m)).2
 have d:=(Fr.pre (F:=[]) p1).dict (fun h=>nomatch h) d
 have lm:=b7 p1 lm
 have p2:H1<+:H1++[.list (h2.map mtv)]:=b8
 have l2:=b5 (H:=H1) (l:=h2.map mtv)
 have l1:=b7 p2 l1
 have d':=(Fr.pre (F:=[]) p2).dict (fun h=>nomatch h) d
 simp_arith only [d,he,lm,c2]
 have L2:=p1.length_le
 generalize H1.length=x2 at *
 generalize H1++[O.list (h2.map mtv)]=H2 at *
 have L3:=p2.length_le
 simp_arith only [l1,l2,List.length_map,List.length_append,List.length_singleton]
 refine ⟨by lia,?_⟩
 rw [←List.map_append,List.append_assoc]
 exact q _ (Nat.le_trans (p1.trans p2).length_le (Nat.le_refl _)) _ (p1.trans (p2.trans b8)) b5 ((Fr.pre (F:=[]) b8).dict (fun h=>nomatch h) d')
end
theorem bN7 {H4:Hp}{k:Bk}{w:Wr}{ps:List Prs}{h1 h2:List Mtg}{m nw:Mtg}{far lo hi a:Int}{z:Nat}{es:List (Str × V)}{v2 v3 v9 v10:V}{Q:V→Hp→Prop}{X:XL}(S4:St H4 k w ps (h1++nw::h2) (h1++m::h2) (ml (h1++h2)) far k.g z)(hz:z≤900)(hnw:nw=⟨m.no,a,m.sz,m.who⟩)(d4:j6 H4 w.s=some es)(d2:es.length≤z)(d3:Dc es w far k.g)
  (q:∀ H',Stt H' far (z+3) k.b w.s→Q (.bool true) H') :
  j1 Θp (f_l_moved.body.drop 11) [some (.ref k.b),some (.ref w.s),some v2,some v3,some (.int m.no),some (.int lo),some (.int hi),some (.int (h1.length:Int)),some (.tup [.int m.no,.int m.hr,.int m.sz,.tup (m.who.map V.str)]),some v9,some v10,some (.int a),some (.int a),none,none,none] H4 (rQ Q) (rX X):=by
 have z2:=S4.z2
 have lm:=S4.lm
 refine j4 (av4 (hs:=h1) (h2:=h2) (m:=m)) fun c1 c2=>?_
 rw [List.length_append,List.length_cons] at z2
 refine d7 ?_
 simp_arith only [aV9]
 refine j3 ?_
 refine d7 ?_
 rw [bt4]
 refine co9 (es:=es) (x:=w.m) d4 d3.me lm hnw (by lia) fun x9 L8 H9 pp l9 d9=>?_
 simp_arith only [d9]
 refine ⟨by lia,?_⟩
 have S9:=S4.dct (w':={ w with m:=x9 }) (es':=(Str.ofString "met",.ref x9)::es) (ms':=h1++nw::h2) d4 pp rfl (Nat.succ_le_succ d2) d3.setM l9 (.inr L8)
 generalize H9.set w.s (.dict ((Str.ofString "met",.ref x9)::es))=H10 at *
 refine j3 ?_
 refine d7 ?_
 simp_arith only [↓b50]
 refine ⟨a,rfl,?_⟩
 simp_arith only [g5]
 exact q _ (show Stt _ far (z+3) k.b ({ w with m:=x9 }:Wr).s from ⟨k,{ w with m:=x9 },ps,_,_,S9.le (by lia)⟩)
theorem bA0 {H:Hp}{k:Bk}{w:Wr}{ps:List Prs}{h1 h2:List Mtg}{m:Mtg}{far lo hi:Int}{z:Nat}{v2 v3 v9:V}{Q:V→Hp→Prop}{X:XL}(S:St H k w ps (h1++m::h2) (h1++m::h2) (ml (h1++h2)) far k.g z)(hz:z≤900)(q0:Qu far m.sz lo hi)
  (q:∀ H',Stt H' far (z+3) k.b w.s→Q (.bool true) H') :
  j1 Θp (f_l_moved.body.drop 8) [some (.ref k.b),some (.ref w.s),some v2,some v3,some (.int m.no),some (.int lo),some (.int hi),some (.int (h1.length:Int)),some (.tup [.int m.no,.int m.hr,.int m.sz,.tup (m.who.map V.str)]),some v9,none,none,none,none,none,none] H (rQ Q) (rX X):=by
 obtain ⟨C,W,ge,le⟩:=q0
 refine e1_3 (S.dc) fun es d1 d2 d3=>?_
 have z1:=S.z1
 have z2:=S.z2
 have hm:=S.mo m (List.mem_append_right _ (.head _))
 have pz:=S.pu.z
 have pl:=S.P.length
 have ln:=S.ln
 have lo':=S.lo
 have al:(i5 w.a1).length+(i5 w.a2).length=w.as.length:=by unfold Wr.as i5;rw [List.length_map,List.length_map,List.length_append]
 refine d7 ?_
 simp_arith only [d1,d3.pe,d3.mo,ln,lo']
 refine ⟨by lia,?_⟩
 rw [show i5 w.a1++i5 w.a2=i5 w.as from List.map_append.symm]
 have p1:H<+:H++[.list (i5 w.as)]:=b8
 have l1:=b5 (H:=H) (l:=i5 w.as)
 generalize H.length=x1 at *
 generalize H++[O.list (i5 w.as)]=H1 at *
 have S1:=S.pre p1
 refine j3 ?_
 refine d7 ?_
 simp_arith only [l1]
 refine br3 (who:=m.who) l1 w.as ps [] S1.P fun bs Pb=>⟨?_,?_⟩
 ·have:=Pb.length
  have:=List.length_filter_le (inW m.who) ps
  rw [List.nil_append,show (i5 bs).length=bs.length from List.length_map _];lia
 rw [List.nil_append]
 have p2:H1<+:H1++[.list (i5 bs)]:=b8
 have l2:=b5 (H:=H1) (l:=i5 bs)
 generalize H1.length=x2 at *
 generalize H1++[O.list (i5 bs)]=H2 at *
 have S2:=S1.pre p2
 simp_arith only [↓cb8]
 refine ⟨x2,bs,_,_,m.sz,lo,hi,l2,Pb.pre p2,?_,fun p hp=>(S.pu.gp p (List.mem_filter.mp hp).1).2.1,C.hh,W,fun v H3 p3 F=>?_⟩
 ·have:=Pb.length
  have:=List.length_filter_le (inW m.who) ps
  lia
 have S3:=S2.pre p3
 refine e1_2 (aI0 m.who hm.who) fun qs ew hq=>?_
 have nu:=S.book.nu
 have e0:∀ x,lo≤x→lgd (ml (h1++h2)) (ps.filter (inW m.who)) x=gd m.no (h1++m::h2) qs x:=fun x hx=>aT8 (fun p=>by
   rw [aK3,aE8 fun y hy=>?_]
   rw [List.map_append,List.map_cons] at nu
   refine R8 (List.nodup_append.mp nu) fun _ n2 n3=>?_
   rcases List.mem_append.mp hy with h|h
   ·exact n3 _ (List.mem_map_of_mem h) _ (.head _)
   ·exact fun e=>(List.nodup_cons.mp n2).1 (e▸List.mem_map_of_mem h)) (by have:=W.l0;lia) fun p=>by
  rw [List.mem_filter]
  constructor
  ·rintro ⟨hp,hc⟩
   have hc:=List.contains_iff_mem.mp hc
   rw [ew] at hc
   refine e1_2 (List.mem_map.mp hc) fun r hr e=>?_
   rw [bF8 S.pu.nd hp (hq r hr) e.symm];exact hr
  ·exact fun hp=>⟨hq p hp,List.contains_iff_mem.mpr (by rw [ew];exact List.mem_map_of_mem hp)⟩
 have F':=F.to e0
 refine j3 ?_
 refine d7 ?_
 simp_arith only [S3.book.ns,↓ce7]
 refine .ok k ps h1 m h2 qs lo hi ⟨S3.book,ew,fun r hr=>⟨hq r hr,(S.pu.gp r (hq r hr)).2.1⟩,C,by lia⟩ (fun H4 p4 F4=>?_) fun a H4 F4 f4 B4=>?_
 ·obtain rfl:=F'.same F4
  refine j3 ?_
  refine d7 ?_
  simp_arith only [ac4]
  exact q H4 ⟨k,w,ps,_,_,(S3.pre p4).le (by lia)⟩
 obtain rfl:=F'.same F4
 have d3e:=(Fr.pre (F:=[]) (p1.trans (p2.trans p3))).dict (fun h=>nomatch h) d1
 obtain ⟨nw,hnw⟩:∃ nw:Mtg,nw=⟨m.no,a,m.sz,m.who⟩:=⟨_,rfl⟩
 rw [←hnw] at B4
 have S4:St H4 k w ps (h1++nw::h2) (h1++m::h2) (ml (h1++h2)) far k.g z:=S3.bk f4 B4 (fun i hi=>.inl hi) (fun x hx=>?_) (Nat.le_refl _) z1 (by rw [List.length_append,List.length_cons] at z2 ⊢; exact z2) S.z4
 rotate_left
 ·rcases List.mem_append.mp hx with h|h
  ·exact S.mo x (List.mem_append_left _ h)
  rcases List.mem_cons.mp h with h|h
  ·rw [h,hnw]
   have:=F4.le
   have:=C.hh.1
   have:=W.l0
   exact ⟨by show 0≤a;lia,by show a≤far+192;lia,hm.sz,hm.who,hm.wz,hm.no⟩
  ·exact S.mo x (List.mem_append_right _ (.tail _ h))
 have d4:=f4.dict (S3.pl _ bw6).2 d3e
 refine j3 ?_
 exact bN7 S4 hz hnw d4 d2 d3 q
end Mine
namespace Mine
open PySem
noncomputable def aD9:Ctr:=fun vs H Q _=>ac5 H Q vs
theorem bp2:∀ vs H Q X,aD9 vs H Q X→v8 Θp f_l_moved vs H Q X:=by
 rintro vs H Q X ⟨k,w,ps,hs,far,z,a,b,S,hz,q⟩
 refine i9 rfl ?_
 change j1 Θp f_l_moved.body [some (.ref k.b),some (.ref w.s),some (.int a),some (.int b),none,none,none,none,none,none,none,none,none,none,none,none] H _ _
 refine e1_3 (S.dc) fun es d1 d2 d3=>?_
 have g0:=S.book.g0
 have z2:=S.z2
 have z4:=S.z4
 refine b0 ?_
 generalize hK:sqX Θp (_::_)=K
 simp_arith only [d1,d3.la,↓ax1 (bS3 (j:=k.g+1) (by lia))]
 generalize 1+a/6%(k.g+1)=n
 subst hK
 refine j3 ?_
 refine b0 ?_
 generalize hK:sqX Θp (_::_)=K
 simp_arith only [d1,d3.fa]
 subst hK
 refine j3 ?_
 refine b0 ?_
 generalize hK:sqX Θp (_::_)=K
 simp_arith only [g5]
 subst hK
 refine j4 (S.pu.far) fun f1 f2=>?_
 have i2:=in2 (c:=decide (b/160%16=1))
 have hQ:∀ h,m7 h→Qu far h (far+b%16) (min (far+b%16+b/16%10+120*(if decide (b/160%16=1)=true then 1 else 0)) 999999999999):=fun h hh=>by
  refine j4 (bb0 (far:=far) (s:=far+b%16) (h:=h) (e:=far+b%16+b/16%10+120*(if decide (b/160%16=1)=true then 1 else 0)) S.pu.far ⟨by lia,by lia⟩ hh ⟨by lia,by lia⟩) fun C W=>?_
  exact ⟨C,W,by lia,by lia⟩
 refine j3 ?_
 refine b0 ?_
 generalize hK:sqX Θp (_::_)=K
 simp_arith only [↓ce6]
 refine ⟨w.s,w.m,es,hs,n,d1,d3.me,S.lm,by lia,fun j H1 p1 hA=>?_⟩
 subst hK
 refine j3 ?_
 have S1:=S.pre p1
 have d1:=(Fr.pre (F:=[]) p1).dict (fun h=>nomatch h) d1
 have lm:=S1.lm
 generalize far+b%16=lo at *
 generalize min (lo+b/16%10+120*(if decide (b/160%16=1)=true then (1:Int) else 0)) 999999999999=hi at *
 refine b0 ?_
 generalize hK:sqX Θp (_::_)=K
 cases hA with
 | no hn =>
  simp_arith only [d1,d3.me,lm,List.length_map,↓b28]
  subst hK
  exact ⟨k,ps,hs,n,_,_,S1.book.pre b8,by lia,hn,b5,.inr ⟨_,_,rfl⟩,fun H2 p2=>q H2 ⟨k,w,ps,hs,_,(S1.pre (b8.trans p2)).le (by lia)⟩⟩
 | ok h1 m h2 e1 e2 =>
  subst e1 e2
  have hm:=S1.mo m (List.mem_append_right _ (.head _))
  simp_arith only [d1,d3.me,lm,List.length_map,List.length_append,List.length_cons]
  refine ⟨fun h=>absurd h (by lia),fun _=>?_⟩
  subst hK
  rw [List.length_append,List.length_cons] at z2
  refine j3 ?_
  refine b0 ?_
  generalize hK:sqX Θp (_::_)=K
  simp_arith only [d1,d3.me,lm,a28]
  subst hK
  refine j3 ?_
  refine b0 ?_
  generalize hK:sqX Θp (_::_)=K
  rw [K2]
  refine aP0 rfl rfl d1 d3.me lm (by lia) fun x4 L3 H4 pp l4 d4=>?_
  have S4:=S1.pre pp
  clear pp lm d1 S1
  subst hK
  refine j3 ?_
  refine b0 ?_
  generalize hK:sqX Θp (_::_)=K
  have ln:=S4.ln
  have lo':=S4.lo
  have pz:=S4.pu.z
  have pl:=S4.P.length
  have al:(i5 w.a1).length+(i5 w.a2).length=w.as.length:=by unfold Wr.as i5;rw [List.length_map,List.length_map,List.length_append]
  simp_arith only [d4,d3.pe,d3.mo,ln,lo']
  refine ⟨by lia,?_⟩
  rw [show i5 w.a1++i5 w.a2=i5 w.as from List.map_append.symm]
  have p5:H4<+:H4++[.list (i5 w.as)]:=b8
  have l5:=b5 (H:=H4) (l:=i5 w.as)
  have l4:=b7 p5 l4
  have S5:=S4.pre p5
  generalize H4.length=x5 at *
  generalize H4++[O.list (i5 w.as)]=H5 at *
  simp_arith only [↓cc7]
  refine ⟨x5,x4,w.as,ps,_,h1++h2,l5,S5.P,S5.pu.nd,l4,by rw [List.length_append];lia,fun H6 as' f6 s6 P6=>?_⟩
  refine e1_3 (S5.put f6 s6 P6) fun w' hw _ S6=>?_
  subst hK
  refine j3 ?_
  rw [←hw]
  rw [←hw] at q
  exact bA0 S6 hz (hQ m.sz hm.sz) q
noncomputable def Θq:Orc:=ext "_law_moved" aD9 Θp
end Mine
namespace Mine
open PySem
theorem cf2:Θq "_law_flags" = ar9:=rfl
theorem b66:Θq "_law_plain_by" = I0:=rfl
theorem b97:Θq "_law_head_by" = X1:=rfl
theorem bV7:Θq (Str.ofString "Book."++Str.ofString "busy")=aE2:=rfl
theorem PsAt.mid {H:Hp}{me:Me}:∀ {as:List Ad} {ps:List Prs} {i:Nat} {a:Ad},PsAt H me as ps→as[i]? = some a→∃ ax ay px p py,as=ax++a::ay∧ps=px++p::py∧PsAt H me ax px∧PA H a p (me p)∧PsAt H me ay py
 | a::as,_,0,_,⟨p,qs,e,A,P⟩,h=>by obtain rfl:=Option.some.inj h;exact ⟨[],as,[],p,qs,rfl,e,rfl,A,P⟩
 | b::as,_,i+1,_,⟨p,qs,e,A,P⟩,h=>by
  refine e5_5 (P.mid (i:=i) h) fun ax ay px p' py e1 e2 h1 h2 h3=>?_
  exact ⟨b::ax,ay,p::px,p',py,by rw [e1];rfl,by rw [e,e2];rfl,⟨p,px,rfl,A,h1⟩,h2,h3⟩
theorem PsAt.join {H:Hp}{me:Me}{a2:List Ad}{p2:List Prs}(h2:PsAt H me a2 p2):∀ {a1:List Ad} {p1:List Prs},PsAt H me a1 p1→PsAt H me (a1++a2) (p1++p2)
 | [],_,h=>by obtain rfl:=h;exact h2
 | _::_,_,⟨p,qs,e,A,P⟩=>⟨p,qs++p2,by rw [e];rfl,A,PsAt.join h2 P⟩
theorem PsAt.un {H:Hp}{me:Me}{x:Nat}{l:List V}(hx:b6 H x=some l)(hk:knd l≠1):∀ {as:List Ad} {ps:List Prs},PsAt H me as ps→x∉as.map Ad.u→x∉fes as→∀ i∈ads as,i∉[x]
 | [],_,_,_,_,_,hi=>nomatch hi
 | a::as,_,⟨p,qs,e,A,P⟩,hu,hf,i,hi=>by
  rw [List.map_cons,List.mem_cons,not_or] at hu
  have hf1:x∉[a.f,a.e]:=fun h=>hf (List.mem_append_left (fes as) h)
  rcases List.mem_append.mp (show i∈a.all++ads as from hi) with hi|hi
  ·rcases List.mem_cons.mp hi with q|hi
   ·rw [q];exact m6 (D7 A.li hx (fun h=>hk h.symm))
   rcases List.mem_cons.mp hi with q|hi
   ·rw [q];exact m6 fun h=>hf1 (by rw [←h];exact .head _)
   rcases List.mem_cons.mp hi with q|hi
   ·rw [q];exact m6 fun h=>hu.1 h.symm
   rw [List.mem_singleton.mp hi];exact m6 fun h=>hf1 (by rw [←h];exact .tail _ (.head _))
  ·exact P.un hx hk hu.2 (fun h=>hf (List.mem_append_right [a.f,a.e] h)) i hi
theorem St.busy {H H1:Hp}{k:Bk}{w:Wr}{px py:List Prs}{p:Prs}{hs:List Mtg}{far last:Int}{z:Nat}{r:Rl}{ax ay:List Ad}{a:Ad}(S:St H k w (px++p::py) hs hs (ml hs) far last z)(ha:w.as=ax++a::ay)(Px:PsAt H (ml hs) ax px)(A:PA H a p (ml hs p))(Py:PsAt H (ml hs) ay py)(hr:r.ok)(hz:p.bu.length<20)(f:Fr k.ul H H1)(B:BkAt H1 k (px++⟨p.nm,p.fr,p.bu++[r]⟩::py) hs) :
  St (H1.set a.u (.list (p.bu.map rv++[rv r]))) k w (px++⟨p.nm,p.fr,p.bu++[r]⟩::py) hs hs (ml hs) far last z:=by
 have ul:∀ {i},i∈w.all→i∉k.ul:=fun h h'=>(S.pl _ h).2 (aV3 h')
 have ua:a.u∈ads w.as:=by rw [ha];exact y4 (List.mem_append_right _ (.head _)) aN6
 have lu:=f.list (ul (aT6 ua)) A.lu
 have um:a.u∈w.md:=.tail _ (by rw [ha];exact List.mem_map_of_mem (List.mem_append_right _ (.head _)))
 have ap:=S.ap _ um
 have nd:=S.nd
 have ku:tupL (p.bu.map rv):=aX8 _
 have hd:w.d≠a.u:=fun h=>(List.nodup_cons.mp nd).1 (by rw [h,ha];exact List.mem_map_of_mem (List.mem_append_right _ (.head _)))
 have nu:=(List.nodup_cons.mp nd).2
 rw [ha,List.map_append,List.map_cons] at nu
 refine R8 (List.nodup_append.mp nu) fun n1 n2 n3=>?_
 have nx:a.u∉ax.map Ad.u:=fun h=>n3 _ h _ (.head _) rfl
 have ny:=(List.nodup_cons.mp n2).1
 have fe:∀ {i},i∈fes w.as→i≠a.u:=fun h e=>ap (bU3 (e▸h))
 have fx:a.u∉fes ax:=fun h=>fe (by rw [ha];unfold fes;rw [List.flatMap_append];exact List.mem_append_left _ h) rfl
 have fy:a.u∉fes ay:=fun h=>fe (by rw [ha];unfold fes;rw [List.flatMap_append];exact List.mem_append_right _ (List.mem_append_right [a.f,a.e] h)) rfl
 have fa:∀ {i},i∈[a.f,a.e]→i∉[a.u]:=fun h=>m6 (fe (by rw [ha];unfold fes;rw [List.flatMap_append];exact List.mem_append_right _ (List.mem_append_left _ h)))
 have g:Fr [a.u] H1 (H1.set a.u (.list (p.bu.map rv++[rv r]))):=Fr.set
 have l2:=j8 (m:=p.bu.map rv++[rv r]) lu
 have ns:(px++⟨p.nm,p.fr,p.bu++[r]⟩::py).map Prs.nm=(px++p::py).map Prs.nm:=by rw [List.map_append,List.map_append];rfl
 have gl:∀ {i l},i∈w.all→b6 H i=some l→i≠a.u→b6 (H1.set a.u (.list (p.bu.map rv++[rv r]))) i=some l:=fun hi hl hn=>g.list (m6 hn) (f.list (ul hi) hl)
 refine e1_3 (S.dc) fun es d1 d2 d3=>?_
 have dn:w.s∉[a.u]:=m6 fun h=>aN2 A.lu (h▸d1) (.head _)
 have al:∀ {b:Ad} {i:Nat},b∈w.as→i∈b.all→i∈w.all:=fun hb hi=>aT6 (y4 hb hi)
 have am:a∈w.as:=by rw [ha];exact List.mem_append_right _ (.head _)
 have Pf:∀ {bs qs},PsAt H (ml hs) bs qs→(∀ i∈ads bs,i∈w.all)→a.u∉bs.map Ad.u→a.u∉fes bs→PsAt (H1.set a.u (.list (p.bu.map rv++[rv r]))) (ml hs) bs qs:=fun P hb hu hf=>(P.fr f fun i hi=>ul (hb i hi)).fr g (PsAt.un lu ku.n1 (P.fr f fun i hi=>ul (hb i hi)) hu hf)
 have Pa:PA (H1.set a.u (.list (p.bu.map rv++[rv r]))) a ⟨p.nm,p.fr,p.bu++[r]⟩ (ml hs p):=⟨gl (al am a76) A.li (D7 A.li A.lu fun h=>ku.n1 h.symm),g.list (fa (.head _)) (f.list (ul (al am bi8)) A.lf),by rw [l2,List.map_append];rfl,g.list (fa (.tail _ (.head _))) (f.list (ul (al am bf7)) A.le)⟩
 have sub:∀ bs,(∀ b∈bs,b∈w.as)→∀ i∈ads bs,i∈w.all:=fun bs h i hi=>by
  refine e1_2 (List.mem_flatMap.mp hi) fun b hb hi=>?_
  exact al (h b hb) hi
 refine ⟨B.fr g fun i hi=>m6 fun q=>(S.pl _ (aT6 ua)).2 (q▸hi),⟨es,g.dict dn (f.dict (ul bw6) d1),d2,d3⟩,gl b94 S.ln (D7 S.ln A.lu fun h=>?_),gl b70 S.lo fun h=>ap (h▸bS1),gl bA4 S.lm fun h=>ap (h▸bw3),gl aZ9 S.ld hd,fun q hq=>⟨gl (b02 hq) (S.lk q hq).1 fun h=>ap (h▸ci8 hq),by rw [ns];exact (S.lk q hq).2⟩,?_,S.nd,S.ap,fun i hi=>⟨Nat.lt_of_lt_of_le (S.pl i hi).1 (Nat.le_trans f.len g.len),(S.pl i hi).2⟩,S.l1,⟨S.pu.far,by rw [ns];exact S.pu.nd,by have:=S.pu.z;rw [List.length_append,List.length_cons] at this ⊢; exact this,fun x hx=>?_⟩,by rw [ns];exact S.mo,S.z1,S.z2,S.z3,S.z4⟩
 ·have l1:=S.l1
  cases e:w.a1 with
  | nil=>rw [e] at l1;exact nomatch l1
  | cons b r =>
   rw [e] at h
   exact ku.n2 h.symm
 ·rw [ha]
  exact PsAt.join (a2:=a::ay) (p2:=⟨p.nm,p.fr,p.bu++[r]⟩::py) ⟨_,_,rfl,Pa,Pf Py (sub ay fun b hb=>by rw [ha];exact List.mem_append_right _ (.tail _ hb)) ny fy⟩ (Pf Px (sub ax fun b hb=>by rw [ha];exact List.mem_append_left _ hb) nx fx)
 ·rcases List.mem_append.mp hx with h|h
  ·exact S.pu.gp x (List.mem_append_left _ h)
  rcases List.mem_cons.mp h with h|h
  ·refine R8 (S.pu.gp p (List.mem_append_right _ (.head _))) fun g1 g2 g3=>?_
   rw [h]
   exact ⟨g1,⟨g2.1,fun x hx=>(List.mem_append.mp hx).elim (g2.2 x) fun h=>by rw [List.mem_singleton.mp h];exact hr⟩,by show (p.bu++[r]).length≤20;rw [List.length_append,List.length_singleton];lia⟩
  ·exact S.pu.gp x (List.mem_append_right _ (.tail _ h))
noncomputable def clM (r:Rl)(q:Int × Int):Bool:=((List.range q.2.toNat).map fun (k:Nat)=>cov r (q.1+(k:Int))).any id
theorem a03 {hs:List Mtg}{p:Prs}{r:Rl}:((ml hs p).map (clM r)).any id=Z1 hs p.nm r:=by
 rw [Bool.eq_iff_iff,List.any_map,List.any_eq_true]
 unfold Z1
 rw [List.any_eq_true]
 have k:∀ (h s:Int),clM r (h,s)=(m9 0 s).any fun j=>cov r (h+j):=fun h s=>by
  unfold clM m9
  rw [List.any_map,List.any_map,show s-0=s by lia]
  exact congrArg _ (funext fun j=>by show cov r (h+(j:Int))=cov r (h+(0+(j:Int)));rw [Int.zero_add])
 constructor
 ·rintro ⟨q,hq,e⟩
  refine e1_3 (ao3.mp hq) fun m h1 h2 e_299=>?_
  obtain rfl:=e_299
  exact ⟨m,h1,by rw [h2,Bool.true_and,←k];exact e⟩
 ·rintro ⟨m,h1,e⟩
  rw [Bool.and_eq_true] at e
  exact ⟨(m.hr,m.sz),ao3.mpr ⟨m,h1,e.1,rfl⟩,by show clM r (m.hr,m.sz)=true;rw [k];exact e.2⟩
theorem bq5 {r:Rl}{st:Hp→Prop}{v0 v1 v2 v3 v4 v5 v6:V}{t8 t9 t10 t11 t12:Option V}{Q:List V→Hp→Prop}{H0:Hp}(hr:r.ok)(hst:∀ H',H0<+:H'→st H'):∀ (ms:List (Int × Int)) (acc:List V) (H:Hp),H0<+:H→(∀ q∈ms,Win q.1 q.2)→(∀ H',H0<+:H'→Q (acc++(ms.map (clM r)).map V.bool) H') →
  n9 (av5 Θq (.call (.bi .any) [(.call (.fn "_law_flags") [(.loc 7),(.sub (.loc 10) (.lit (.int 0))),(.sub (.loc 10) (.lit (.int 1)))])]) noX) st 10 [some v0,some v1,some v2,some v3,some v4,some v5,some v6,some (rv r),t8,t9,t10,t11,t12] (ms.map ap4) acc H Q:=by
 intro ms
 induction ms with
 | nil=>intro acc H hp _ q;have:=q H hp;rw [List.map_nil,List.map_nil,List.append_nil] at this;exact this
 | cons m ms ih =>
  intro acc H hp hw q
  rw [List.map_cons,show ap4 m=.tup [.int m.1,.int m.2] from rfl,y9]
  simp_arith only [↓cf2]
  refine ⟨r,m.1,m.2,hr,hw m List.mem_cons_self,fun i H1 p1 l1=>?_⟩
  rw [bG7] at l1
  simp_arith only [l1,I5]
  refine ⟨hst _ (hp.trans p1),ih _ H1 (hp.trans p1) (fun q hq=>hw q (.tail _ hq)) fun H' hp'=>?_⟩
  rw [List.append_assoc];exact q H' hp'
end Mine
namespace Mine
open PySem
theorem ce9 {L:Lc}{H:Hp}{QF:QS}{v:V}(hL:L[8]? = some (some v))(h:QF (.ret v) L H):hnX [("Clash",(.loc 8))] QF (xc "Clash") L H:=by
 have e:(xc "Clash").ups.contains (Str.ofString "Clash")=true:=by decide
 show ifP ((xc "Clash").ups.contains (Str.ofString "Clash")) (oK (L[8]?.bind id) fun v=>QF (.ret v) L H) False
 rw [e,hL];exact h
section
variable {H:Hp} {k:Bk} {w:Wr} {px py:List Prs} {p:Prs} {hs:List Mtg} {far a' b':Int} {z:Nat} {ax ay:List Ad} {a:Ad} {Q:V→Hp→Prop} {X:XL} {v2 v3 v5 v6:V}
structure Wh (H:Hp)(k:Bk)(w:Wr)(px:List Prs)(p:Prs)(py:List Prs)(hs:List Mtg)(far:Int)(z:Nat)(ax:List Ad)(a:Ad)(ay:List Ad):Prop where
 S:St H k w (px++p::py) hs hs (ml hs) far k.g z
 ha:w.as=ax++a::ay
 Px:PsAt H (ml hs) ax px
 A:PA H a p (ml hs p)
 Py:PsAt H (ml hs) ay py
theorem Wh.pre {H':Hp}(W:Wh H k w px p py hs far z ax a ay)(q:H<+:H'):Wh H' k w px p py hs far z ax a ay:=⟨W.S.pre q,W.ha,W.Px.pre q,W.A.fr (F:=[]) (Fr.pre q) fun _ _ h=>(nomatch h),W.Py.pre q⟩
theorem ba6 {r:Rl}(W:Wh H k w px p py hs far z ax a ay)(hz:z≤900)(hr:r.ok)(q:∀ H',Stt H' far (z+3) k.b w.s→Q (.bool true) H') :
  j1 Θq (f_l_busier.body.drop 7) [some (.ref k.b),some (.ref w.s),some v2,some v3,some (.ref a.i),some v5,some v6,some (rv r),none,none,none,none,none] H (rQ Q) (rX X):=by
 have li:=W.A.li
 have lu:=W.A.lu
 have le:=W.A.le
 have hf:=W.S.pu.far
 have mo:=W.S.mo
 have z2:=W.S.z2
 have zp:=(W.S.pu.gp p (List.mem_append_right _ (.head _))).2.2
 refine b0 ?_
 generalize hK:sqX Θq (_::_)=K
 simp_arith only [li,lu,List.length_map]
 subst hK
 refine ⟨fun _=>q H ⟨k,w,_,hs,_,W.S.le (by lia)⟩,fun h20=>?_⟩
 have hbu:p.bu.length<20:=by lia
 rw [n7]
 refine b0 ?_
 generalize hK:sqX Θq (_::_)=K
 simp_arith only [li,le]
 refine bq5 hr (fun H' hp=>b7 hp le) (ml hs p) [] H (List.prefix_refl _) (fun m hm=>?_) fun H1 p1=>⟨?_,?_⟩
 ·refine e1_3 (ao3.mp hm) fun x hx _ e_300=>?_
  obtain rfl:=e_300
  have:=mo x hx
  have h0:=this.h0
  have h1:=this.h1
  have s1:=this.sz.1
  have s2:=this.sz.2
  refine j4 hf fun f1 f2=>?_
  exact ⟨h0,by show x.hr<2 ^ 45;lia,by show 0≤x.sz;lia,by show x.sz≤10000;lia⟩
 ·have:=aP5 (hs:=hs) (p:=p)
  rw [List.nil_append,List.length_map,List.length_map];lia
 rw [List.nil_append]
 simp_arith only [b5,I5,a03]
 have W1:=W.pre (p1.trans (b8 (o:=.list (((ml hs p).map (clM r)).map V.bool))))
 generalize H1++[O.list (((ml hs p).map (clM r)).map V.bool)]=H2 at *
 subst hK
 have li:=W1.A.li
 rw [n7]
 refine b0 ?_
 rw [bu4]
 refine b0 ?_
 generalize hK:sqX Θq (_::_)=K
 generalize hK0:sqX Θq []=K0
 simp_arith only [W1.S.book.ns,li,↓bV7]
 refine ⟨k,px,py,p,hs,r,W1.S.book,hr,hbu,fun m hm=>?_,fun hc=>ce9 rfl ?_,fun hc H3 f3 B3=>?_⟩
 ·have:=mo m hm
  have h0:=this.h0
  have h1:=this.h1
  refine j4 hf fun f1 f2=>?_
  exact ⟨⟨h0,by lia⟩,this.sz⟩
 ·subst hK hK0
  rw [hc]
  exact q H2 ⟨k,w,_,hs,_,W1.S.le (by lia)⟩
 subst hK hK0
 rw [n7,aw0,n7]
 have ul:∀ {i},i∈a.all→i∉k.ul:=fun h h'=>(W1.S.pl _ (aT6 (by rw [W1.ha];exact y4 (List.mem_append_right _ (.head _)) h))).2 (aV3 h')
 have li3:=f3.list (ul a76) W1.A.li
 have lu3:=f3.list (ul aN6) W1.A.lu
 have S4:=W1.S.busy W1.ha W1.Px W1.A W1.Py hr hbu f3 B3
 refine b0 ?_
 generalize hK:sqX Θq (_::_)=K
 simp_arith only [li3,lu3]
 refine ⟨⟨_,lu3⟩,by rw [List.length_map];lia,?_⟩
 generalize H3.set a.u (.list (p.bu.map rv++[rv r]))=H4 at *
 subst hK
 rw [n7]
 refine b0 ?_
 generalize hK:sqX Θq []=K
 simp_arith only [ac4,hc]
 subst hK
 exact q H4 ⟨k,w,_,hs,_,S4.le (by lia)⟩
theorem bP9 {pl:Pl}(W:Wh H k w px p py hs far z ax a ay)(hz:z≤900)(hr:pl.fine)(q:∀ H',Stt H' far (z+3) k.b w.s→Q (.bool true) H') :
  j1 Θq (f_l_busier.body.drop 6) [some (.ref k.b),some (.ref w.s),some (.int a'),some (.int b'),some (.ref a.i),some v5,some v6,some (pv pl),none,none,none,none,none] H (rQ Q) (rX X):=by
 refine e1_3 (W.S.dc) fun es d1 d2 d3=>?_
 refine d7 ?_
 simp_arith only [d1,d3.fa,↓b97]
 refine ⟨fun _=>⟨_,far,pl,W.S.pu.far,hr,fun r H1 p1 h1=>?_⟩,fun _=>?_⟩
 ·exact ba6 (W.pre p1) hz h1 q
 ·exact ba6 (r:=.pl pl) W hz (ok0 hr) q
theorem b21 {pl:Pl}(W:Wh H k w px p py hs far z ax a ay)(hz:z≤900)(hr:pl.fine)(q:∀ H',Stt H' far (z+3) k.b w.s→Q (.bool true) H') :
  j1 Θq (f_l_busier.body.drop 5) [some (.ref k.b),some (.ref w.s),some (.int a'),some (.int b'),some (.ref a.i),some v5,some v6,some (pv pl),none,none,none,none,none] H (rQ Q) (rX X):=by
 refine e1_3 (W.S.dc) fun es d1 d2 d3=>?_
 have d1':=fun o=>(Fr.pre (F:=[]) (b8 (H:=H) (o:=o))).dict (fun h=>nomatch h) d1
 refine d7 ?_
 simp_arith only [d1',d3.fa,↓b66]
 refine ⟨fun _=>⟨_,_,_,_,far,48,rfl,b5,W.S.pu.far,⟨by decide,by decide⟩,fun pl H1 p1 h1=>?_⟩,fun _=>?_⟩
 ·exact bP9 (W.pre (b8.trans p1)) hz h1 q
 ·exact bP9 W hz hr q
theorem ba7 {h:Int}(W:Wh H k w px p py hs far z ax a ay)(hz:z≤900)(hh:x7 h)(q:∀ H',Stt H' far (z+3) k.b w.s→Q (.bool true) H') :
  j1 Θq (f_l_busier.body.drop 3) [some (.ref k.b),some (.ref w.s),some (.int a'),some (.int b'),some (.ref a.i),some (.int h),none,none,none,none,none,none,none] H (rQ Q) (rX X):=by
 have hs1:m7 (1+b'/50%3):=⟨by lia,by lia⟩
 refine b0 ⟨rfl,rfl,?_⟩
 show j1 Θq (f_l_busier.body.drop 4) [some (.ref k.b),some (.ref w.s),some (.int a'),some (.int b'),some (.ref a.i),some (.int h),some (.int (1+b'/50%3)),none,none,none,none,none,none] H (rQ Q) (rX X)
 refine b0 ?_
 rw [K2]
 refine at8 (H0:=H) (P:=fun v _=>∃ pl:Pl,v=pv pl∧pl.fine) (fun v _ _ _ h=>h) (List.forall_mem_cons.mpr ⟨?_,List.forall_mem_cons.mpr ⟨?_,List.forall_mem_nil _⟩⟩) (by decide) (fun H Q' q'=>?_) H _ (List.prefix_refl _) fun v H1 p1 hv=>?_
 ·intro H1 Q1 p1 q1
  simp_arith only [g5]
  exact q1 _ H1 (List.prefix_refl _) ⟨.every h _ _,rfl,hh,hs1,by lia,by lia⟩
 ·intro H1 Q1 p1 q1
  simp_arith only [g5]
  exact q1 _ H1 (List.prefix_refl _) ⟨.once h _,rfl,hh,hs1⟩
 ·simp_arith only [g5]
  exact q' _ (Int.emod_nonneg _ (by decide)) (Int.emod_lt_of_pos _ (by decide))
 refine e1_2 hv fun pl e_301 hf=>?_
 obtain rfl:=e_301
 rw [n7]
 exact b21 (W.pre p1) hz hf q
end
theorem aD6:∀ ms:List (Int × Int),A6 (ms.map ap4)=some (ms.map fun q=>PyData.tuple [.int q.1,.int q.2])∧PyData.depthAll (ms.map fun q=>PyData.tuple [.int q.1,.int q.2])≤1
 | []=>⟨rfl,Nat.zero_le _⟩
 | m::ms=>by
  refine j4 (aD6 ms) fun h1 h2=>?_
  refine ⟨?_,Nat.max_le.mpr ⟨Nat.le_refl _,h2⟩⟩
  show (A6 (ms.map ap4)).map _=_
  rw [h1];rfl
theorem bN4 {ms:List (Int × Int)}{i:Int}(h0:0≤i)(h1:i<(ms.length:Int)):∃ q∈ms,idx (ms.map ap4) i=some (.tup [.int q.1,.int q.2]):=by
 have hk:i.toNat<ms.length:=by lia
 refine ⟨ms[i.toNat],List.getElem_mem hk,?_⟩
 unfold idx
 rw [if_pos h0,List.getElem?_map,List.getElem?_eq_getElem hk];rfl
theorem aY4 {H:Hp}{a b:V}{Q:V→Hp→Prop}:U0 .NotEq a b H Q=oK (eqK H a b) fun c=>Q (.bool (!c)) H:=rfl
section
variable {H:Hp} {L:Lc} {a:Ad} {v:V} {vf vu:V} {ms:List (Int × Int)} {a' b':Int} {X:XL}
noncomputable abbrev bzT:IE:=.and (.cmp (.sub (.loc 4) (.lit (.int 3))) .NotEq (.lst [])) (.cmp (.bin .Mod (.bin .FloorDiv (.loc 2) (.lit (.int 36))) (.lit (.int 3))) .Gt (.lit (.int 0)))
theorem cr2 {P:Bool→Hp→Prop}(h2:L[2]? = some (some (.int a')))(h4:L[4]? = some (some (.ref a.i)))(li:b6 H a.i=some [v,vf,vu,.ref a.e])(le:b6 H a.e=some (ms.map ap4))(q:∀ c,(c=true→0<(ms.length:Int))→P c (H++[.list []])):(wp2 Θq bzT).T L H P X:=by
 have le1:=b7 (b8 (o:=.list [])) le
 cases ms with
 | nil =>
  have e0:=bc1 (H:=H++[.list []]) (i:=a.e) (j:=H.length) le1 b5
  simp_arith only [h4,li,aY4,e0]
  exact q _ fun h=>Bool.noConfusion h
 | cons m ms =>
  have e0:=aF9 (H:=H++[.list []]) (i:=a.e) (j:=H.length) le1 (aD6 (m::ms)).1 (Nat.succ_le_succ (Nat.le_trans (aD6 (m::ms)).2 (by decide))) b5
  simp_arith only [h2,h4,li,aY4,e0]
  exact q _ fun _=>by rw [List.length_cons];lia
noncomputable abbrev bzH:IE:=.bin .Add (.sub (.sub (.sub (.loc 4) (.lit (.int 3))) (.bin .Mod (.loc 3) (.call (.bi .len) [(.sub (.loc 4) (.lit (.int 3)))]))) (.lit (.int 0))) (.bin .Mod (.bin .FloorDiv (.loc 3) (.lit (.int 5))) (.lit (.int 4)))
theorem cp6 {C:V→Hp→Prop}{q:Int × Int}(h3:L[3]? = some (some (.int b')))(h4:L[4]? = some (some (.ref a.i)))(li:b6 H a.i=some [v,vf,vu,.ref a.e])(le:b6 H a.e=some (ms.map ap4))(hz:0<(ms.length:Int)∧ms.length≤1000)(ei:idx (ms.map ap4) (b'%(ms.length:Int))=some (.tup [.int q.1,.int q.2]))(h:C (.int (q.1+b'/5%4)) H):(wp2 Θq bzH).E L H C X:=by
 simp_arith only [h3,h4,li,le,List.length_map,ei,↓ax1 ((aa0 (j:=(ms.length:Int))).mpr ⟨hz.1,by lia⟩)]
 exact h
end
noncomputable def as7:Ctr:=fun vs H Q _=>ac5 H Q vs
theorem a29:∀ vs H Q X,as7 vs H Q X→v8 Θq f_l_busier vs H Q X:=by
 rintro vs H Q X ⟨k,w,ps,hs,far,z,a',b',S,hz,q⟩
 refine i9 rfl ?_
 change j1 Θq f_l_busier.body [some (.ref k.b),some (.ref w.s),some (.int a'),some (.int b'),none,none,none,none,none,none,none,none,none] H _ _
 refine e1_3 (S.dc) fun es d1 d2 d3=>?_
 have ln:=S.ln
 have hi:(a'/6%3).toNat<w.a1.length:=by rw [S.l1];lia
 have ga:w.as[(a'/6%3).toNat]? = some w.a1[(a'/6%3).toNat]:=by unfold Wr.as;rw [List.getElem?_append_left hi,List.getElem?_eq_getElem hi]
 have gi:idx (i5 w.a1) (a'/6%3)=some (.ref w.a1[(a'/6%3).toNat].i):=by unfold idx i5;rw [if_pos (by lia),List.getElem?_map,List.getElem?_eq_getElem hi];rfl
 refine e5_5 (S.P.mid ga) fun ax ay px p py e1 e2 Px A Py=>?_
 generalize w.a1[(a'/6%3).toNat]=a at *
 subst e2
 have W:Wh H k w px p py hs far z ax a ay:=⟨S,e1,Px,A,Py⟩
 have li:=A.li
 have le:=A.le
 refine d7 ?_
 simp_arith only [d1,d3.pe,ln,gi]
 refine j3 ?_
 refine d7 ?_
 simp_arith only [d1,d3.fa]
 refine j4 (S.pu.far) fun f1 f2=>?_
 have W1:=W.pre (b8 (o:=.list []))
 have li1:=W1.A.li
 have le1:=W1.A.le
 have plain:=ba7 (a':=a') (b':=b') (h:=far+b'%30) (X:=X) W1 hz ⟨by lia,by lia⟩ q
 refine j3 ?_
 refine b0 ?_
 rw [bl4]
 refine cr2 rfl rfl li le fun c hc=>?_
 cases c with
 | false=>exact plain
 | true =>
  have hl:=hc rfl
  refine e1_2 (bN4 (ms:=ml hs p) (i:=b'%((ml hs p).length:Int)) (Int.emod_nonneg _ (by lia)) (Int.emod_lt_of_pos _ hl)) fun m' hm' ei=>?_
  refine e1_3 (ao3.mp hm') fun x hx _ e_302=>?_
  obtain rfl:=e_302
  have mx:=S.mo x hx
  have h0:=mx.h0
  have h1:=mx.h1
  have hlen:=aP5 (hs:=hs) (p:=p)
  have z2:=S.z2
  refine b0 ?_
  rw [K2]
  refine cp6 rfl rfl li1 le1 ⟨hl,by lia⟩ ei ?_
  exact ba7 (h:=x.hr+b'/5%4) W1 hz ⟨by lia,by lia⟩ q
noncomputable def Θr:Orc:=ext "_law_busier" as7 Θq
end Mine
namespace Mine
open PySem
theorem b41:Θr (Str.ofString "Book."++Str.ofString "meet")=aE1:=rfl
theorem St.metA {H:Hp}{k:Bk}{w:Wr}{ps:List Prs}{hs ms ms':List Mtg}{me:Me}{far last:Int}{z:Nat}(S:St H k w ps hs ms me far last z)(mx:w.m∉w.o::(fes w.as++w.ks.map Prod.fst)):St (H.set w.m (.list (ms'.map mtv))) k w ps hs ms' me far last z:=by
 have f:Fr [w.m] H (H.set w.m (.list (ms'.map mtv))):=Fr.set
 have l2:=j8 (m:=ms'.map mtv) S.lm
 have km:tupL (ms.map mtv):=a58 _
 refine e1_3 (S.dc) fun es d1 d2 d3=>?_
 have pu:w.m∉w.as.map Ad.u:=fun h=>S.ap _ (.tail _ h) bw3
 have pf:w.m∉fes w.as:=fun h=>mx (.tail _ (List.mem_append_left _ h))
 refine ⟨S.book.fr f fun i hi=>m6 fun q=>(S.pl _ bA4).2 (q▸hi),⟨es,f.dict (m6 fun h=>aN2 S.lm (h▸d1) (.head _)) d1,d2,d3⟩,f.list (m6 (D7 S.ln S.lm fun h=>?_)) S.ln,f.list (m6 fun h=>mx (by rw [←h];exact .head _)) S.lo,l2,f.list (m6 fun h=>S.ap _ (.head _) (h▸bw3)) S.ld,fun q hq=>⟨f.list (m6 fun h=>mx (.tail _ (List.mem_append_right _ (h▸List.mem_map_of_mem hq)))) (S.lk q hq).1,(S.lk q hq).2⟩,S.P.fr f (S.P.un S.lm km.n1 pu pf),S.nd,S.ap,fun i hi=>⟨by rw [List.length_set];exact (S.pl i hi).1,(S.pl i hi).2⟩,S.l1,S.pu,S.mo,S.z1,S.z2,S.z3,S.z4⟩
 have l1:=S.l1
 cases e:w.a1 with
 | nil=>rw [e] at l1;exact nomatch l1
 | cons b r =>
  rw [e] at h
  exact km.n2 h.symm
noncomputable def Fre (p:Prs):Prop:=p.fr=[.pl (.every 0 1 1)]∧p.bu=[]
theorem Fre.at {p:Prs}(h:Fre p){x:Int}(h0:0≤x):am3 p x=true:=by
 unfold am3
 rw [h.1,h.2]
 have e:bg (.pl (.every 0 1 1)) (x-0)=true:=by
  unfold bg
  rw [if_neg (by lia)]
  show (decide (0≤x-0)&&decide ((x-0-0)%1=0))=true
  rw [decide_eq_true (by lia),decide_eq_true (by lia)];rfl
 have c:cov (.pl (.every 0 1 1)) x=true:=List.any_eq_true.mpr ⟨0,q9.mpr ⟨by lia,by show (0:Int)<1;lia⟩,e⟩
 show ((cov (.pl (.every 0 1 1)) x||false)&&!false)=true
 rw [c];rfl
theorem bu3 {H:Hp}{x y:Int}{Q:V→Hp→Prop}(h:Q (.bool false) H):U0 .NotEq (.tup [.int x,.int y]) (.tup [.int x,.int y]) H Q:=by
 rw [aY4,aN8];exact h
noncomputable abbrev filB:List IS:=bdy (f_l_filled.body.getD 0 .fail)
structure Fi (H:Hp)(k:Bk)(w:Wr)(ps:List Prs)(hs:List Mtg)(me:Me)(far:Int)(z j:Nat):Prop where
 S:St H k w ps hs hs me far 0 (z+j)
 g:k.g=(j:Int)
 lt:∀ m∈hs,m.sz=1∧m.hr+1≤far+2*(j:Int)
section
variable {b:Nat} {w:Wr} {ps:List Prs} {me:Me} {far many:Int} {z:Nat} {t6 t7 t8:Option V} {QF:QS} {XF:XS}
theorem a49 (mx:w.m∉w.o::(fes w.as++w.ks.map Prod.fst))(fr:∀ p∈ps.take 3,Fre p)(hz:z≤100):∀ (n j:Nat) (H:Hp) (k:Bk) (hs:List Mtg) (t3 t4 t5:Option V),j+n≤40→k.b=b→Fi H k w ps hs me far z j →
  (∀ H' k' hs' t3' t4' t5',k'.b=b→Fi H' k' w ps hs' me far z (j+n)→QF .next [some (.ref b),some (.ref w.s),some (.int many),t3',t4',t5',t6,t7,t8] H') →
  j7 (A4 Θr filB XF) (fun _=>True) 3 ((List.range' j n).map fun (m:Nat)=>V.int (m:Int)) [some (.ref b),some (.ref w.s),some (.int many),t3,t4,t5,t6,t7,t8] H QF:=by
 intro n
 induction n with
 | zero=>intro j H k hs t3 t4 t5 _ hb F q;exact q H k hs t3 t4 t5 hb F
 | succ n ih =>
  intro j H k hs t3 t4 t5 h40 hb F q
  subst hb
  obtain ⟨S,hg,hlt⟩:=F
  show j7 _ _ _ (V.int (j:Int)::((List.range' (j+1) n).map fun (m:Nat)=>V.int (m:Int))) _ _ _
  rw [g4]
  refine e1_3 (S.dc) fun es d1 d2 d3=>?_
  refine j4 (S.pu.far) fun f1 f2=>?_
  have ln:=S.ln
  have hq:(j:Int)*(j:Int)%3=0∨(j:Int)*(j:Int)%3=1∨(j:Int)*(j:Int)%3=2:=by lia
  obtain ⟨jj,hj1,hj2⟩:∃ jj:Nat,(j:Int)*(j:Int)%3=(jj:Int)∧jj<3:=⟨((j:Int)*(j:Int)%3).toNat,by lia,by lia⟩
  have hi:jj<w.a1.length:=by rw [S.l1];exact hj2
  have ga:w.as[jj]? = some w.a1[jj]:=by unfold Wr.as;rw [List.getElem?_append_left hi,List.getElem?_eq_getElem hi]
  have gi:idx (i5 w.a1) (jj:Int)=some (.ref w.a1[jj].i):=by rw [aB4];unfold i5;rw [List.getElem?_map,List.getElem?_eq_getElem hi];rfl
  refine e1_2 (S.P.get ga) fun p hp A=>?_
  have pm:p∈ps:=List.mem_of_getElem? hp
  have pf:Fre p:=fr p (List.mem_of_getElem? (i:=jj) (by rw [List.getElem?_take,if_pos hj2];exact hp))
  generalize w.a1[jj]=a at *
  have li:=A.li
  refine d7 ?_
  simp_arith only [d1,d3.pe,ln,hj1,gi,li,↓aH1 (ca9 (i:=(j:Int)) (j:=(j:Int)) (by lia))]
  refine j3 ?_
  refine d7 ?_
  simp_arith only [d1,d3.fa]
  have hh:far≤far+2*(j:Int)∧far+2*(j:Int)≤far+80:=⟨by lia,by lia⟩
  have e2:far+2*((j+1:Nat):Int)=far+2*(j:Int)+2:=by lia
  generalize far+2*(j:Int)=h at *
  refine j3 ?_
  refine d7 ?_
  have p1:H<+:H++[.list [.str p.nm]]:=b8
  have l1:=b5 (H:=H) (l:=[.str p.nm])
  have lt1:=S.lt
  have S1:=S.pre p1
  simp_arith only [S.book.ns]
  generalize H.length=x1 at *
  generalize H++[O.list [V.str p.nm]]=H1 at *
  simp_arith only [↓b41]
  have z1:=S.z1
  have z2:=S.z2
  have z4:=S.z4
  have gd1:gd 0 hs [p] h=true:=by
   have hm:R9 0 hs p.nm h=false:=by
    unfold R9
    rw [List.any_eq_false]
    intro m hm e
    rw [Bool.and_eq_true,Bool.and_eq_true,Bool.and_eq_true,decide_eq_true_eq,decide_eq_true_eq] at e
    have:=hlt m hm
    lia
   show (fre 0 hs p h&&true)=true
   unfold fre
   rw [hm,pf.at (by lia),decide_eq_false (by lia)];rfl
  have ok1:okW (gd 0 hs [p]) 1 h:=fun x x1 x2=>by rw [show x=h by lia];exact gd1
  refine ⟨k,x1,ps,hs,[p],1,h,h+1,⟨S1.book,l1,fun q hq=>by rw [List.mem_singleton.mp hq];exact pm⟩,fun q hq=>by rw [List.mem_singleton.mp hq];exact (S.pu.gp p pm).2.1,fun h=>(nomatch h),List.nodup_cons.mpr ⟨List.not_mem_nil,List.nodup_nil⟩,⟨⟨by decide,by decide⟩,⟨by lia,by lia⟩,⟨by lia,by lia⟩,by lia,by lia⟩,fun hf=>lt1 _ (.inr hf) rfl,by lia,by lia,fun H2 p2 F2=>?_,fun x k' H2 F2 f2 kf kb kg kc B2=>?_⟩
  ·rcases F2 with ⟨x,e,_⟩|⟨_,no⟩
   ·exact b9 (congrArg al4 e)
   ·exact absurd ok1 (no h (by lia) (by lia))
  refine j4 (F2.le) fun g1 g2=>?_
  obtain rfl:x=h:=by lia
  rw [hg]
  simp_arith only [g5]
  refine bu3 ?_
  rw [hg] at B2
  obtain ⟨nw,hnw⟩:∃ nw:Mtg,nw=⟨(j:Int)+1,x,1,[p.nm]⟩:=⟨_,rfl⟩
  have B2:BkAt H2 k' ps (hs++[nw]):=by rw [hnw];exact B2
  have S2:St H2 k' w ps (hs++[nw]) hs me far 0 (z+j+1):=S1.bk f2 B2 (fun i hi=>.inl (kf▸hi)) (fun m hm=>?_) (Nat.le_succ _) (by lia) (by rw [List.length_append,List.length_singleton];lia) (by lia)
  rotate_left
  ·rcases List.mem_append.mp hm with h|h
   ·exact S.mo m h
   ·rw [List.mem_singleton.mp h,hnw]
    exact ⟨by show 0≤x;lia,by show x≤far+192;lia,⟨by show (1:Int)≤1;lia,by show (1:Int)≤48;lia⟩,fun y hy=>by rw [List.mem_singleton.mp hy];exact List.mem_map_of_mem pm,by show 1≤6;decide,by show 0≤(j:Int)+1∧(j:Int)+1≤1000;lia⟩
  have d2':=f2.dict (S1.pl _ bw6).2 ((Fr.pre (F:=[]) p1).dict (fun h=>nomatch h) d1)
  have lm:=S2.lm
  have S3:=S2.metA (ms':=hs++[nw]) mx
  have hM:hs.map mtv++[.tup [.int ((j:Int)+1),.int x,.int 1,.tup [.str p.nm]]]=(hs++[nw]).map mtv:=by rw [List.map_append,hnw];rfl
  show j1 Θr (filB.drop 3) _ _ _ _
  refine b0 ?_
  simp_arith only [d2',d3.me,lm,hM]
  refine ⟨⟨_,lm⟩,by rw [List.length_map];lia,?_⟩
  generalize H2.set w.m (.list ((hs++[nw]).map mtv))=H3 at *
  refine ih (j+1) H3 k' (hs++[nw]) _ _ _ (by lia) kb ⟨S3,by lia,fun m hm=>?_⟩ fun H' k'' hs' t3' t4' t5' hb' F'=>q H' k'' hs' t3' t4' t5' hb' (by rw [show j+(n+1)=j+1+n by lia];exact F')
  rcases List.mem_append.mp hm with h|h
  ·have:=hlt m h;lia
  ·rw [List.mem_singleton.mp h,hnw];show (1:Int)=1∧x+1≤_;lia
end
inductive IC_filled (H:Hp)(Q:V→Hp→Prop):List V→Prop where
 | mk (k:Bk) (w:Wr) (ps:List Prs) (me:Me) (far many:Int) (z:Nat):St H k w ps [] [] me far 0 z→k.g=0→w.m∉w.o::(fes w.as++w.ks.map Prod.fst)→(∀ p∈ps.take 3,Fre p)→z≤100→0≤many→many≤40→(∀ H',Stt H' far (z+50) k.b w.s→Q (.bool true) H')→IC_filled H Q [.ref k.b,.ref w.s,.int many]
noncomputable def au2:Ctr:=fun vs H Q _=>IC_filled H Q vs
theorem a57:∀ vs H Q X,au2 vs H Q X→v8 Θr f_l_filled vs H Q X:=by
 rintro vs H Q X ⟨k,w,ps,me,far,many,z,S,hg,mx,fr,hz,h0,h1,q⟩
 refine i9 rfl ?_
 change j1 Θr f_l_filled.body [some (.ref k.b),some (.ref w.s),some (.int many),none,none,none,none,none,none] H _ _
 refine d7 ?_
 simp_arith only [g5]
 refine ⟨⟨by lia,by lia⟩,?_⟩
 rw [J3]
 refine a49 mx fr hz many.toNat 0 H k [] _ _ _ (by lia) rfl ⟨S,hg,fun _ h=>(nomatch h)⟩ fun H1 k1 hs t3 t4 t5 hb F=>?_
 obtain ⟨S1,hg1,_⟩:=F
 refine e1_3 (S1.dc) fun es d1 d2 d3=>?_
 refine j3 ?_
 refine d7 ?_
 simp_arith only [d1]
 refine ⟨by lia,?_⟩
 have S2:=S1.dct (w':=w) (es':=(Str.ofString "last",.int many)::es) (l':=many) (ms':=hs) d1 (List.prefix_refl _) rfl (Nat.succ_le_succ d2) d3.setL S1.lm (.inl rfl)
 generalize H1.set w.s (.dict ((Str.ofString "last",.int many)::es))=H2 at *
 rw [show many=k1.g by lia] at S2
 rw [←hb] at q
 exact q H2 ⟨k1,w,ps,hs,_,S2.le (by lia)⟩
noncomputable def Θs:Orc:=ext "_law_filled" au2 Θr
end Mine
namespace Mine
open PySem
theorem cc6:Θs "_law_people_by" = T3:=rfl
theorem bt9:Θs "_law_cell_at" = I1:=rfl
theorem bv7 {H:Hp}{x:Nat}{o o2:O}:Fr [x] H ((H++[o]).set x o2):=(Fr.pre (F:=[x]) b8).trans Fr.set fun _ h=>.inl h
theorem aB6 {as1 as2:List Ad}{a:Ad}:ads (as1++a::as2)=ads as1++(a.all++ads as2):=by unfold ads;rw [List.flatMap_append,List.flatMap_cons]
theorem Ppl.swap {H H':Hp}{n x:Nat}{as1 as2:List Ad}{a a':Ad}{ps1 ps2:List Prs}{p':Prs}{me:Me}(nd:(n::ads (as1++a::as2)).Nodup)(ln:b6 H n=some (i5 (as1++a::as2)))(P1:PsAt H me as1 ps1)(P2:PsAt H me as2 ps2)(f:Fr [x] H H')(hx:x∈a.all)(A:PA H' a' p' (me p'))(hi:a'.i=a.i)(hn:a'.all.Nodup)(hs:∀ y∈a'.all,y∈a.all∨H.length≤y):Ppl H' n (as1++a'::as2) (ps1++p'::ps2) me:=by
 have lt1:=P1.lt
 have lt2:=P2.lt
 have ltn:=f9 ln
 rw [aB6] at nd
 refine j4 (List.nodup_cons.mp nd) fun n0 nd=>?_
 refine R8 (List.nodup_append.mp nd) fun d1 nd d2=>?_
 refine R8 (List.nodup_append.mp nd) fun d3 d4 d5=>?_
 rw [List.mem_append,List.mem_append,not_or,not_or] at n0
 have nx:n∉[x]:=m6 fun e=>n0.2.1 (e▸hx)
 have f1:∀ i∈ads as1,i∉[x]:=fun i h=>m6 fun e=>d2 i h x (List.mem_append_left _ hx) e
 have f2:∀ i∈ads as2,i∉[x]:=fun i h=>m6 fun e=>d5 x hx i h e.symm
 refine ⟨?_,PsAt.join (a2:=a'::as2) (p2:=p'::ps2) ⟨p',ps2,rfl,A,P2.fr f f2⟩ (P1.fr f f1),?_⟩
 ·rw [f.list nx ln,show i5 (as1++a::as2)=i5 (as1++a'::as2) by unfold i5;rw [List.map_append,List.map_append,List.map_cons,List.map_cons,hi]]
 ·rw [aB6]
  refine List.nodup_cons.mpr ⟨?_,List.nodup_append.mpr ⟨d1,List.nodup_append.mpr ⟨hn,d4,fun i hi j hj e=>?_⟩,fun i hi j hj e=>?_⟩⟩
  ·rw [List.mem_append,List.mem_append,not_or,not_or]
   exact ⟨n0.1,fun h=>(hs n h).elim n0.2.1 fun h=>by lia,n0.2.2⟩
  ·rcases hs i hi with h|h
   ·exact d5 i h j hj e
   ·have:=lt2 j hj;lia
  ·rcases List.mem_append.mp hj with hj|hj
   ·rcases hs j hj with h|h
    ·exact d2 i hi j (List.mem_append_left _ h) e
    ·have:=lt1 i hi;lia
   ·exact d2 i hi j (List.mem_append_right _ hj) e
theorem a96 {as1 as2:List Ad}{a:Ad}{n:Nat}(nd:(n::ads (as1++a::as2)).Nodup):a.all.Nodup:=by
 rw [aB6] at nd
 exact (List.nodup_append.mp (List.nodup_append.mp (List.nodup_cons.mp nd).2).2.1).1
theorem an6 {i f u e:Nat}:(Ad.all ⟨i,f,u,e⟩).Nodup↔i≠f∧i≠u∧i≠e∧f≠u∧f≠e∧u≠e:=by
 unfold Ad.all
 rw [List.nodup_cons,List.nodup_cons,List.nodup_cons,List.nodup_cons,List.mem_cons,List.mem_cons,List.mem_singleton,List.mem_cons,List.mem_singleton,List.mem_singleton,not_or,not_or,not_or]
 exact ⟨fun ⟨⟨a,b,c⟩,⟨d,e⟩,f,_⟩=>⟨a,b,c,d,e,f⟩,fun ⟨a,b,c,d,e,f⟩=>⟨⟨a,b,c⟩,⟨d,e⟩,f,List.not_mem_nil,List.nodup_nil⟩⟩
section
variable {H:Hp} {n:Nat} {as1 as2:List Ad} {a:Ad} {ps1 ps2:List Prs} {p:Prs} {me:Me}
theorem Ppl.newF {rs:List Rl}(nd:(n::ads (as1++a::as2)).Nodup)(ln:b6 H n=some (i5 (as1++a::as2)))(P1:PsAt H me as1 ps1)(A:PA H a p (me p))(P2:PsAt H me as2 ps2)(em:me ⟨p.nm,rs,p.bu⟩=me p) :
  Ppl ((H++[O.list (rs.map rv)]).set a.i (O.list [.str p.nm,.ref H.length,.ref a.u,.ref a.e])) n (as1++⟨a.i,H.length,a.u,a.e⟩::as2) (ps1++⟨p.nm,rs,p.bu⟩::ps2) me:=by
 obtain ⟨h1,h2,h3,h4,h5,h6⟩:=an6.mp (a96 nd)
 have hi:=f9 A.li
 have hu:=f9 A.lu
 have he:=f9 A.le
 have g:Fr [a.i] H ((H++[O.list (rs.map rv)]).set a.i (O.list [.str p.nm,.ref H.length,.ref a.u,.ref a.e])):=bv7
 refine Ppl.swap nd ln P1 P2 g a76 ⟨j8 (b7 b8 A.li),by rw [w6 (Nat.ne_of_lt hi)];exact b5,g.list (m6 (Ne.symm h2)) A.lu,by rw [em];exact g.list (m6 (Ne.symm h3)) A.le⟩ rfl (an6.mpr ⟨by lia,h2,h3,by lia,by lia,h6⟩) fun y hy=>?_
 rcases List.mem_cons.mp hy with q|hy
 ·rw [q];exact .inl a76
 rcases List.mem_cons.mp hy with q|hy
 ·rw [q];exact .inr (Nat.le_refl _)
 rcases List.mem_cons.mp hy with q|hy
 ·rw [q];exact .inl aN6
 rw [List.mem_singleton.mp hy];exact .inl bf7
theorem Ppl.newU {rs:List Rl}(nd:(n::ads (as1++a::as2)).Nodup)(ln:b6 H n=some (i5 (as1++a::as2)))(P1:PsAt H me as1 ps1)(A:PA H a p (me p))(P2:PsAt H me as2 ps2)(em:me ⟨p.nm,p.fr,rs⟩=me p) :
  Ppl ((H++[O.list (rs.map rv)]).set a.i (O.list [.str p.nm,.ref a.f,.ref H.length,.ref a.e])) n (as1++⟨a.i,a.f,H.length,a.e⟩::as2) (ps1++⟨p.nm,p.fr,rs⟩::ps2) me:=by
 obtain ⟨h1,h2,h3,h4,h5,h6⟩:=an6.mp (a96 nd)
 have hi:=f9 A.li
 have hf:=f9 A.lf
 have he:=f9 A.le
 have g:Fr [a.i] H ((H++[O.list (rs.map rv)]).set a.i (O.list [.str p.nm,.ref a.f,.ref H.length,.ref a.e])):=bv7
 refine Ppl.swap nd ln P1 P2 g a76 ⟨j8 (b7 b8 A.li),g.list (m6 (Ne.symm h1)) A.lf,by rw [w6 (Nat.ne_of_lt hi)];exact b5,by rw [em];exact g.list (m6 (Ne.symm h3)) A.le⟩ rfl (an6.mpr ⟨h1,by lia,h3,by lia,h5,by lia⟩) fun y hy=>?_
 rcases List.mem_cons.mp hy with q|hy
 ·rw [q];exact .inl a76
 rcases List.mem_cons.mp hy with q|hy
 ·rw [q];exact .inl bi8
 rcases List.mem_cons.mp hy with q|hy
 ·rw [q];exact .inr (Nat.le_refl _)
 rw [List.mem_singleton.mp hy];exact .inl bf7
end
theorem PsAt.split {H:Hp}{me:Me}{a:Ad}{as2:List Ad}{p:Prs}{ps2:List Prs}{as1:List Ad}:∀ {ps1:List Prs},PsAt H me (as1++a::as2) (ps1++p::ps2)→as1.length=ps1.length→PsAt H me as1 ps1∧PA H a p (me p)∧PsAt H me as2 ps2:=by
 induction as1 with
 | nil =>
  intro ps1 h e
  obtain rfl:=List.length_eq_zero_iff.mp e.symm
  refine e2_3 h fun q qs e A P=>?_
  refine j4 (List.cons.inj e) fun e_303 e_304=>?_
  obtain rfl:=e_303
  obtain rfl:=e_304
  exact ⟨rfl,A,P⟩
 | cons b as1 ih =>
  intro ps1 h e
  cases ps1 with
  | nil=>exact absurd e (Nat.succ_ne_zero _)
  | cons r ps1 =>
   refine e2_3 h fun q qs e' A P=>?_
   refine j4 (List.cons.inj e') fun e_305 e_306=>?_
   obtain rfl:=e_305
   obtain rfl:=e_306
   refine j4 (ih P (Nat.succ.inj e)) fun h1 h2=>?_
   exact ⟨⟨r,ps1,rfl,A,h1⟩,h2⟩
noncomputable abbrev mN:Me:=fun _=>[]
structure Gc (nm:Str)(p:Prs):Prop where
 e:p.nm=nm
 g:Gp p
noncomputable def evA (h:Int):Rl:=.pl (.every h 1 1)
theorem Gc.newF {nm:Str}{p:Prs}{h:Int}(G:Gc nm p)(hh:x7 h):Gc nm ⟨p.nm,[evA h],p.bu⟩:=⟨G.e,G.g.nm,⟨fun r hr=>by rw [List.mem_singleton.mp hr];exact ok0 ⟨hh,⟨by decide,by decide⟩,by decide,by decide⟩,G.g.fine.2⟩,by show 1≤2;decide,G.g.bu⟩
theorem Gc.newU {nm:Str}{p:Prs}(G:Gc nm p):Gc nm ⟨p.nm,p.fr,[]⟩:=⟨G.e,G.g.nm,⟨G.g.fine.1,fun _ h=>(nomatch h)⟩,G.g.fr,Nat.zero_le _⟩
noncomputable def GcAll:List Str→List Prs→Prop
 | [],ps=>ps=[]
 | nm::ns,ps=>∃ p qs,ps=p::qs∧Gc nm p∧GcAll ns qs
theorem GcAll.join {n2:List Str}{p2:List Prs}(h2:GcAll n2 p2):∀ {n1:List Str} {p1:List Prs},GcAll n1 p1→GcAll (n1++n2) (p1++p2)
 | [],_,h=>by obtain rfl:=h;exact h2
 | _::_,_,⟨p,qs,e,A,P⟩=>⟨p,qs++p2,by rw [e];rfl,A,GcAll.join h2 P⟩
theorem GcAll.nms:∀ {ns:List Str} {ps:List Prs},GcAll ns ps→ps.map Prs.nm=ns∧∀ p∈ps,Gp p
 | [],_,h=>by obtain rfl:=h;exact ⟨rfl,fun _ h=>nomatch h⟩
 | _::_,_,⟨p,qs,e,A,P⟩=>by
  refine j4 (P.nms) fun h1 h2=>?_
  rw [e]
  exact ⟨by rw [List.map_cons,A.e,h1],fun x hx=>(List.mem_cons.mp hx).elim (fun q=>q▸A.g) (h2 x)⟩
theorem GcAll.of:∀ {ps:List Prs},(∀ p∈ps,Gp p)→GcAll (ps.map Prs.nm) ps
 | [],_=>rfl
 | p::ps,h=>⟨p,ps,rfl,⟨rfl,h p List.mem_cons_self⟩,GcAll.of fun q hq=>h q (.tail _ hq)⟩
noncomputable abbrev csB:List IS:=bdy (f_l_cast.body.getD 2 .fail)
section
variable {ns:List Int} {far lt:Int} {fb:Bool} {n:Nat} {H:Hp} {as1 as2:List Ad} {a:Ad} {ps1 ps2:List Prs} {p:Prs} {nm:Str} {t6 t7 t8:Option V} {QF:QS} {XF:XS}
noncomputable abbrev csL (ns:List Int)(far:Int)(fb:Bool)(n:Nat)(lt:Int)(k:Int)(t6 t7 t8:Option V):Lc:=[some (.scr ns),some (.int far),some (.bool fb),some (.ref n),some (.int lt),some (.int k),t6,t7,t8]
theorem bb5:idx (i5 (as1++a::as2)) (as1.length:Int)=some (.ref a.i):=by
 have:=aX9 (l:=i5 as1) (x:=.ref a.i) (r:=i5 as2)
 rw [show (i5 as1).length=as1.length from List.length_map _] at this
 rw [show i5 (as1++a::as2)=i5 as1++.ref a.i::i5 as2 from List.map_append];exact this
theorem ci5 (P:Ppl H n (as1++a::as2) (ps1++p::ps2) mN)(hn:as1.length=ps1.length)(G:Gc nm p)(q:∀ H' a' p',Ppl H' n (as1++a'::as2) (ps1++p'::ps2) mN→Gc nm p'→(fb=true→p'.fr=p.fr∧p'.bu=[])→QF .next (csL ns far fb n lt (as1.length:Int) t6 t7 t8) H') :
  j1 Θs (csB.drop 1) (csL ns far fb n lt (as1.length:Int) t6 t7 t8) H QF XF:=by
 refine R8 (P.at'.split hn) fun P1 A P2=>?_
 have ln:=P.ln
 have li:=A.li
 cases fb with
 | false =>
  refine d7 ?_
  simp_arith only [g5]
  exact q H a p P G fun h=>Bool.noConfusion h
 | true =>
  refine d7 ?_
  have p1:H<+:H++[.list []]:=b8
  have ln1:=b7 p1 ln
  have li1:=b7 p1 li
  simp_arith only [ln1,bb5,li1]
  refine ⟨by show (2:Int)<4;decide,?_⟩
  exact q _ _ _ (Ppl.newU (rs:=[]) P.nd ln P1 A P2 rfl) G.newU fun _=>⟨rfl,rfl⟩
theorem cm9 (hz:ns.length≤1000)(h40:as1.length<3)(hl:x7 lt)(hfb:fb=true→cell ns 40/7%2=1∧lt=0)(P:Ppl H n (as1++a::as2) (ps1++p::ps2) mN)(hn:as1.length=ps1.length)(G:Gc nm p)(q:∀ H' a' p',Ppl H' n (as1++a'::as2) (ps1++p'::ps2) mN→Gc nm p'→(fb=true→Fre p')→QF .next (csL ns far fb n lt (as1.length:Int) t6 t7 t8) H') :
  j1 Θs csB (csL ns far fb n lt (as1.length:Int) t6 t7 t8) H QF XF:=by
 obtain ⟨h,hi,hh,hq⟩:∃ h,idx [V.int lt,.int 0,.int 0] (as1.length:Int)=some (.int h)∧x7 h∧(lt=0→h=0):=by
  match e:as1.length,h40 with
  | 0,_=>exact ⟨lt,rfl,hl,fun h=>h⟩
  | 1,_=>exact ⟨0,rfl,⟨by decide,by decide⟩,fun _=>rfl⟩
  | 2,_=>exact ⟨0,rfl,⟨by decide,by decide⟩,fun _=>rfl⟩
 have p1:H<+:H++[.list [.int lt,.int 0,.int 0]]:=b8
 have l1:=b5 (H:=H) (l:=[.int lt,.int 0,.int 0])
 refine d7 ?_
 simp_arith only [↓bt9,↓C3]
 refine ⟨hz,?_⟩
 simp_arith only [l1,hi]
 refine ⟨fun _=>?_,fun hc=>?_⟩
 ·have P:=P.pre p1
  generalize H++[O.list [V.int lt,.int 0,.int 0]]=H1 at *
  refine R8 (P.at'.split hn) fun P1 A P2=>?_
  have p2:H1<+:H1++[.list [.tup [.str "every",.int h,.int 1,.int 1]]]:=b8
  have ln2:=b7 p2 P.ln
  have li2:=b7 p2 A.li
  simp_arith only [ln2,bb5,li2]
  refine ⟨by show (1:Int)<4;decide,?_⟩
  exact ci5 (Ppl.newF (rs:=[evA h]) P.nd P.ln P1 A P2 rfl) hn (G.newF hh) fun H' a'' p'' N' G' hf=>q H' a'' p'' N' G' fun e=>⟨by rw [(hf e).1];show [evA h]=_;rw [hq (hfb e).2];rfl,(hf e).2⟩
 ·exact ci5 P hn G fun H' a'' p'' N' G' hf=>q H' a'' p'' N' G' fun e=>absurd (hfb e).1 hc
theorem be7 (hz:ns.length≤1000)(hl:x7 lt)(hfb:fb=true→cell ns 40/7%2=1∧lt=0):∀ (as2 as1:List Ad) (ps1 ps2:List Prs) (n1 n2:List Str) (H:Hp) (t5:Option V),(as1++as2).length=3→as1.length=ps1.length→Ppl H n (as1++as2) (ps1++ps2) mN→GcAll n1 ps1→GcAll n2 ps2→(fb=true→∀ p∈ps1,Fre p) →
  (∀ H' as' ps' t5',Ppl H' n as' ps' mN→GcAll (n1++n2) ps'→(fb=true→∀ p∈ps',Fre p)→QF .next [some (.scr ns),some (.int far),some (.bool fb),some (.ref n),some (.int lt),t5',t6,t7,t8] H') →
  j7 (A4 Θs csB XF) (fun _=>True) 5 ((List.range' as1.length as2.length).map fun (m:Nat)=>V.int (m:Int)) [some (.scr ns),some (.int far),some (.bool fb),some (.ref n),some (.int lt),t5,t6,t7,t8] H QF:=by
 intro as2
 induction as2 with
 | nil =>
  intro as1 ps1 ps2 n1 n2 H t5 _ hn P G1 G2 hf q
  have e:=P.at'.length
  rw [List.append_nil,List.length_append] at e
  obtain rfl:ps2=[]:=List.eq_nil_of_length_eq_zero (by lia)
  cases n2 with
  | cons _ _=>obtain ⟨_,_,e,_⟩:=G2;exact nomatch e
  | nil =>
   rw [List.append_nil] at P q
   rw [List.append_nil] at P
   exact q H as1 ps1 t5 P G1 hf
 | cons a as2 ih =>
  intro as1 ps1 ps2 n1 n2 H t5 h3 hn P G1 G2 hf q
  cases ps2 with
  | nil =>
   have e:=P.at'.length
   rw [List.length_append,List.length_append,List.length_cons,List.length_nil] at e
   lia
  | cons p ps2 =>
  cases n2 with
  | nil=>exact nomatch (show p::ps2=[] from G2)
  | cons nm n2 =>
  refine e2_3 G2 fun p' qs e Gp' G2=>?_
  refine j4 (List.cons.inj e) fun e_307 e_308=>?_
  obtain rfl:=e_307
  obtain rfl:=e_308
  rw [List.length_append,List.length_cons] at h3
  show j7 _ _ _ (V.int (as1.length:Int)::((List.range' (as1.length+1) as2.length).map fun (m:Nat)=>V.int (m:Int))) _ _ _
  rw [g4]
  refine cm9 hz (by lia) hl hfb P hn Gp' fun H' a' p' N G' hF=>⟨trivial,?_⟩
  have:=ih (as1++[a']) (ps1++[p']) ps2 (n1++[nm]) n2 H' (some (.int (as1.length:Int))) (by rw [List.length_append,List.length_append];show as1.length+1+as2.length=3;lia) (by rw [List.length_append,List.length_append,hn];rfl) (by rw [List.append_assoc,List.append_assoc];exact N) (GcAll.join (n2:=[nm]) (p2:=[p']) ⟨p',[],rfl,G',rfl⟩ G1) G2 (fun e x hx=>(List.mem_append.mp hx).elim (hf e x) fun h=>by rw [List.mem_singleton.mp h];exact hF e) (by rw [List.append_assoc];exact q)
  rw [List.length_append] at this
  exact this
end
inductive aO3 (H:Hp)(Q:V→Hp→Prop):List V→Prop where
 | mk (ns:List Int) (far:Int) (fb:Bool):ns.length≤1000→M5 far→(fb=true→cell ns 40/7%4=1)→(∀ n as ps H',Ppl H' n as ps mN→ps.length=3→(ps.map Prs.nm).Nodup→(∀ p∈ps,Gp p∧∃ c∈p.nm.cps.toList,c≠122)→(fb=true→∀ p∈ps,Fre p)→Q (.ref n) H')→aO3 H Q [.scr ns,.int far,.bool fb]
noncomputable def aY0:Ctr:=fun vs H Q _=>aO3 H Q vs
theorem bG5:∀ vs H Q X,aY0 vs H Q X→v8 Θs f_l_cast vs H Q X:=by
 rintro vs H Q X ⟨ns,far,fb,hz,hfar,hb,q⟩
 refine i9 rfl ?_
 change j1 Θs f_l_cast.body [some (.scr ns),some (.int far),some (.bool fb),none,none,none,none,none,none] H _ _
 refine d7 ?_
 simp_arith only [↓cc6]
 refine ⟨ns,1,3,far,hz,by decide,by decide,hfar,fun n as ps H1 P hl nd hg=>?_⟩
 refine j3 ?_
 refine d7 ?_
 simp_arith only [↓bt9,↓C3]
 refine j4 hfar fun f1 f2=>?_
 refine ⟨hz,hz,ca9 (by lia),?_⟩
 simp_arith only [↓bt9,↓C3]
 have hlt:x7 (cell ns 40/14%2*(far+60+cell ns 39%60)):=by
  rcases (show cell ns 40/14%2=0∨cell ns 40/14%2=1 by lia) with e|e
  ·rw [e,Int.zero_mul];exact ⟨by decide,by decide⟩
  ·rw [e,Int.one_mul];exact ⟨by lia,by lia⟩
 have hfb:fb=true→cell ns 40/7%2=1∧cell ns 40/14%2*(far+60+cell ns 39%60)=0:=fun e=>by
  have:=hb e
  have h0:cell ns 40/14%2=0:=by lia
  exact ⟨by lia,by rw [h0,Int.zero_mul]⟩
 generalize cell ns 40/14%2*(far+60+cell ns 39%60)=lt at *
 refine j3 ?_
 refine d7 ?_
 simp_arith only [g5]
 rw [J3]
 have la:=P.at'.length
 have h3:ps.length=3:=by lia
 have h3':as.length=3:=by lia
 rw [show (3:Int).toNat=as.length by rw [h3'];rfl]
 refine be7 hz hlt hfb as [] [] ps [] (ps.map Prs.nm) H1 _ h3' rfl P rfl (GcAll.of fun p hp=>(hg p hp).1) (fun _ _ h=>nomatch h) fun H2 as' ps' t5' P' G' hF=>?_
 refine j4 (G'.nms) fun e1 e2=>?_
 refine j3 ?_
 refine b0 ?_
 simp_arith only [g5]
 refine q n as' ps' H2 P' (by have:=congrArg List.length e1;rw [List.nil_append,List.length_map,List.length_map] at this;lia) (by rw [e1];exact nd) (fun p hp=>⟨e2 p hp,?_⟩) hF
 have hm:p.nm∈ps'.map Prs.nm:=List.mem_map_of_mem hp
 rw [e1] at hm
 refine e1_2 (List.mem_map.mp hm) fun r hr e=>?_
 rw [←e];exact (hg r hr).2
noncomputable def Θt:Orc:=ext "_law_cast" aY0 Θs
end Mine
namespace Mine
open PySem
theorem bU9:Θt "_law_put" = aV0:=rfl
theorem b25:Θt "_law_meet" = aC4:=rfl
theorem b53:Θt "_law_dropped" = ad4:=rfl
theorem b33:Θt "_law_moved" = aD9:=rfl
theorem bW8:Θt "_law_busier" = as7:=rfl
theorem aW4 {Φ:Orc}{L:Lc}{H:Hp}{k:Bk}{w:Wr}{ps:List Prs}{hs ms:List Mtg}{me:Me}{far last:Int}{z:Nat}{C:V→Hp→Prop}{X:XL}(S:St H k w ps hs ms me far last z)(hL:L[1]? = some (some (.ref w.s)))(q:H.length≤H.length→b6 (H++[.list (i5 w.as)]) H.length=some (i5 w.as)→C (.ref H.length) (H++[.list (i5 w.as)])) :
  (wp2 Φ (.bin .Add (.sub (.loc 1) (.lit (.str "people"))) (.sub (.loc 1) (.lit (.str "more"))))).E L H C X:=by
 refine e1_3 (S.dc) fun es d1 d2 d3=>?_
 have ln:=S.ln
 have lo:=S.lo
 have al:(i5 w.a1).length+(i5 w.a2).length=w.as.length:=by unfold Wr.as i5;rw [List.length_map,List.length_map,List.length_append]
 have pl:=S.P.length
 have pz:=S.pu.z
 simp_arith only [hL,d1,d3.pe,d3.mo,ln,lo]
 rw [show i5 w.a1++i5 w.a2=i5 w.as from List.map_append.symm]
 exact ⟨by lia,q (Nat.le_refl _) b5⟩
inductive aD5 (H:Hp)(Q:V→Hp→Prop):List V→Prop where
 | mk (k s:Nat) (far:Int) (z:Nat) (a b:Int):Stt H far z k s→z≤890→(∀ H',Stt H' far (z+5) k s→Q (.bool true) H')→aD5 H Q [.ref k,.ref s,.int a,.int b]
noncomputable def aS2:Ctr:=fun vs H Q _=>aD5 H Q vs
theorem Stt.le {H:Hp}{far:Int}{z z' k s:Nat}(h:z≤z')(S:Stt H far z k s):Stt H far z' k s:=by
 obtain ⟨k,w,ps,hs,me,S⟩:=S
 exact ⟨k,w,ps,hs,me,S.le h⟩
theorem bF3:∀ vs H Q X,aS2 vs H Q X→v8 Θt f_l_deed vs H Q X:=by
 rintro vs H Q X ⟨_,_,far,z,a,b,⟨k,w,ps,hs,me,S⟩,hz,q⟩
 refine i9 rfl ?_
 change j1 Θt f_l_deed.body [some (.ref k.b),some (.ref w.s),some (.int a),some (.int b),none,none,none] H _ _
 refine d7 ?_
 rw [bc7,bb6,aG8]
 refine aW4 S rfl fun _ l1=>?_
 have S1:=S.pre (b8 (o:=.list (i5 w.as)))
 generalize H.length=x1 at *
 generalize H++[O.list (i5 w.as)]=H1 at *
 refine e1_3 (S1.dc) fun es d1 d2 d3=>?_
 have z2:=S.z2
 simp_arith only [d1,d3.me,↓bU9]
 refine ⟨x1,w.m,w.as,ps,me,hs,l1,S1.P,S1.pu.nd,S1.lm,by lia,fun H2 as' f2 s2 P2=>?_⟩
 refine e1_3 (S1.put f2 s2 P2) fun w' hw _ S2=>?_
 rw [←hw] at q ⊢
 have q3:∀ H',Stt H' far (z+3) k.b w'.s→Q (.bool true) H':=fun H' h=>q H' (h.le (by lia))
 have hz:z≤900:=by lia
 refine j3 ?_
 refine d7 ?_
 simp_arith only [↓b25]
 refine ⟨fun _=>⟨k,w',ps,hs,far,z,a,b,S2,hz,fun H' h=>by exact q3 H' h⟩,fun _=>?_⟩
 refine j3 ?_
 refine d7 ?_
 simp_arith only [↓b53]
 refine ⟨fun _=>⟨k,w',ps,hs,far,z,a,S2,hz,fun H' h=>by exact q3 H' h⟩,fun _=>?_⟩
 refine j3 ?_
 refine d7 ?_
 simp_arith only [↓b33]
 refine ⟨fun _=>⟨k,w',ps,hs,far,z,a,b,S2,hz,fun H' h=>by exact q3 H' h⟩,fun _=>?_⟩
 refine j3 ?_
 refine d7 ?_
 simp_arith only [↓bW8]
 exact ⟨k,w',ps,hs,far,z,a,b,S2,hz,q3⟩
noncomputable def Θu:Orc:=ext "_law_deed" aS2 Θt
structure okD (n k:Nat)(d:PyData):Prop where
 sh:d.showable=true
 de:d.depth≤k
 le:d.shown.length≤n
structure bw5 (n k:Nat)(ds:List PyData):Prop where
 sh:PyData.showableAll ds=true
 de:PyData.depthAll ds≤k
 le:((PyData.shownAll ds).map (·.length)).sum+2*ds.length≤n
theorem aE3 {k:Nat}:bw5 0 k []:=⟨rfl,Nat.zero_le _,Nat.le_refl _⟩
theorem M0 {n m k:Nat}{d:PyData}{ds:List PyData}(h1:okD n k d)(h2:bw5 m k ds):bw5 (n+2+m) k (d::ds):=by
 refine ⟨?_,Nat.max_le.mpr ⟨h1.de,h2.de⟩,?_⟩
 ·show (d.showable&&PyData.showableAll ds)=true
  rw [h1.sh,h2.sh];rfl
 ·show (d.shown.length::(PyData.shownAll ds).map (·.length)).sum+2*(ds.length+1)≤_
  rw [List.sum_cons]
  have:=h1.le
  have:=h2.le
  lia
theorem ap6 {n k:Nat}{α:Type}{f:α→PyData}:∀ l:List α,(∀ a∈l,okD n k (f a))→bw5 ((n+2)*l.length) k (l.map f)
 | [],_=>aE3
 | a::l,h=>by
  have:=M0 (h a List.mem_cons_self) (ap6 l fun b hb=>h b (.tail _ hb))
  exact ⟨this.sh,this.de,Nat.le_trans this.le (by rw [List.length_cons,Nat.mul_succ];lia)⟩
theorem av1 {n k:Nat}{ds:List PyData}(h:bw5 n k ds):okD (n+3) (k+1) (.tuple ds):=by
 refine ⟨h.sh,Nat.succ_le_succ h.de,?_⟩
 have h1:=tupleText_len_le (PyData.shownAll ds)
 rw [PyData.shownAll_length] at h1
 exact Nat.le_trans h1 (Nat.add_le_add_right h.le 3)
theorem a35 {n k:Nat}{ds:List PyData}(h:bw5 n k ds):okD (n+3) (k+1) (.list ds):=by
 refine ⟨h.sh,Nat.succ_le_succ h.de,?_⟩
 have h1:=listText_len_le (PyData.shownAll ds)
 rw [PyData.shownAll_length] at h1
 exact Nat.le_trans h1 (Nat.add_le_add_right h.le 3)
theorem aD0 {k:Nat}{i:Int}(h1:0≤i)(h2:i<10 ^ 13):okD 35 k (.int i):=by
 have hn:i.natAbs<10 ^ 13:=by lia
 refine ⟨?_,Nat.zero_le _,?_⟩
 ·show decide (i.natAbs.log2<1920)=true
  refine decide_eq_true ?_
  by_cases h0:i.natAbs=0
  ·rw [h0];decide
  ·exact (Nat.log2_lt h0).mpr (Nat.lt_of_lt_of_le hn (Nat.le_trans (show 10 ^ 13≤2 ^ 44 by decide) (Nat.pow_le_pow_right (by decide) (by decide))))
 ·show (Str.ofString (toString i)).length≤35
  have e:=int_text_length_le10 (k:=13) (by decide) hn
  rw [ofString_length];lia
theorem bp4 {k:Nat}{s:Str}(h:s.length≤12)(hl:ba2 s):okD 140 k (.str s):=by
 refine ⟨rfl,Nat.zero_le _,?_⟩
 have e:=StrLaws.reprText_len s fun c hc=>by have:=hl c hc;lia
 show (reprText s).length≤140
 lia
theorem Sh.fit {far:Int}{nms:List Str}{hs:List Mtg}(h:Sh far nms hs):(PyData.list (hs.map mtD)).showable=true∧(PyData.list (hs.map mtD)).depth≤60∧(PyData.list (hs.map mtD)).shown.length≤16000000:=by
 refine a95 h fun e_309 hz hn hm=>?_
 refine j4 e_309 fun f1 f2=>?_
 have one:∀ m∈hs,okD 2000 2 (mtD m):=fun m hm'=>by
  have M:=hm m hm'
  have h0:=M.h0
  have h1:=M.h1
  have n0:=M.no.1
  have n1:=M.no.2
  have s0:=M.sz.1
  have s1:=M.sz.2
  have w:=M.wz
  have W:=av1 (ap6 (k:=0) (f:=PyData.str) m.who fun x hx=>bp4 (hn x (M.who x hx)).2.1 (hn x (M.who x hx)).2.2)
  have:=av1 (M0 (aD0 (k:=1) (i:=m.no) n0 (by lia)) (M0 (aD0 (i:=m.hr) h0 (by lia)) (M0 (aD0 (i:=m.sz) (by lia) (by lia)) (M0 W aE3))))
  exact ⟨this.sh,this.de,Nat.le_trans this.le (by lia)⟩
 have:=a35 (ap6 hs one)
 exact ⟨this.sh,Nat.le_trans this.de (by decide),Nat.le_trans this.le (by lia)⟩
theorem a93:∀ hs:List Mtg,A6 (hs.map mtv)=some (hs.map mtD)
 | []=>rfl
 | m::hs=>by
  have e:a02 (mtv m)=some (mtD m):=by
   have e1:a02 (.tup (m.who.map V.str))=some (.tuple (m.who.map PyData.str)):=by show (A6 (m.who.map V.str)).map _=_;rw [X7];rfl
   show Option.map PyData.tuple (Option.bind (some (PyData.int m.no)) fun d=>Option.map (d::·) (Option.bind (some (PyData.int m.hr)) fun d=>Option.map (d::·) (Option.bind (some (PyData.int m.sz)) fun d=>Option.map (d::·) (Option.bind (a02 (.tup (m.who.map V.str))) fun d=>Option.map (d::·) (some [])))))=_
   rw [e1];rfl
  show (a02 (mtv m)).bind (fun d=>(A6 (hs.map mtv)).map (d::·))=_
  rw [e,a93 hs];rfl
theorem a25 {H:Hp}{x:Nat}{hs:List Mtg}(h:b6 H x=some (hs.map mtv)):ae2 H (.ref x)=some (.list (hs.map mtD)):=by
 show ((b6 H x).bind A6).map PyData.list=_
 rw [h,Option.bind_some,a93];rfl
end Mine
namespace Mine
open PySem
theorem cd8:Θu "_law_put" = aV0:=rfl
theorem b93:Θu "_law_open_hours" = G4:=rfl
theorem b13:Θu "_law_first" = W4:=rfl
theorem by9:Θu (Str.ofString "Book."++Str.ofString "meetings")=Y8:=rfl
theorem b07:Θu (Str.ofString "Book."++Str.ofString "is_free")=ae0:=rfl
theorem bW6:Θu (Str.ofString "Book."++Str.ofString "first")=ap9:=rfl
section
variable {H:Hp} {k:Bk} {w:Wr} {ps:List Prs} {hs:List Mtg} {me:Me} {far last:Int} {z:Nat}
theorem St.shw (S:St H k w ps hs hs me far last z)(hz:z≤1000):Sh far (ps.map Prs.nm) hs:=⟨S.pu.far,Nat.le_trans S.z2 hz,fun x hx=>by obtain ⟨p,hp,rfl⟩:=List.mem_map.mp hx;exact (S.pu.gp p hp).1,S.mo⟩
theorem St.keep {q:Nat}(S:St H k w ps hs hs me far last z)(hz:z≤1000)(hq:b6 H q=some (hs.map mtv))(hx:∀ i,i∈w.all∨i∈k.foot→i≠q):St (H.set w.d (.list (w.ks.map Y4++[Y4 (q,hs)]))) k { w with ks:=w.ks++[(q,hs)] } ps hs hs me far last (z+1):=by
 have f:Fr [w.d] H (H.set w.d (.list (w.ks.map Y4++[Y4 (q,hs)]))):=Fr.set
 have l2:=j8 (m:=w.ks.map Y4++[Y4 (q,hs)]) S.ld
 have kd:tupL (w.ks.map Y4):=aA0 _
 refine e1_3 (S.dc) fun es d1 d2 d3=>?_
 have dm:w.d∈w.md:=.head _
 have ap:=S.ap _ dm
 have z3:=S.z3
 have z4:=S.z4
 have ks:(w.ks++[(q,hs)]).map Prod.fst=w.ks.map Prod.fst++[q]:=by rw [List.map_append];rfl
 have pf:w.d∉fes w.as:=fun h=>ap (bU3 h)
 refine ⟨S.book.fr f fun i hi=>m6 fun h=>(S.pl _ aZ9).2 (h▸hi),⟨es,f.dict (m6 fun h=>aN2 S.ld (h▸d1) (.head _)) d1,Nat.le_succ_of_le d2,⟨d3.pe,d3.fa,d3.me,d3.la,d3.mo,d3.he⟩⟩,f.list (m6 (D7 S.ln S.ld fun h=>?_)) S.ln,f.list (m6 fun h=>ap (h▸bS1)) S.lo,f.list (m6 fun h=>ap (h▸bw3)) S.lm,by rw [List.map_append];exact l2,fun r hr=>?_,S.P.fr f (S.P.un S.ld kd.n1 (List.nodup_cons.mp S.nd).1 pf),S.nd,fun i hi hr=>?_,fun i hi=>?_,S.l1,S.pu,S.mo,Nat.le_succ_of_le S.z1,Nat.le_succ_of_le S.z2,by show (w.ks++[(q,hs)]).length≤z+1;rw [List.length_append,List.length_singleton];lia,by lia⟩
 ·have l1:=S.l1
  cases e:w.a1 with
  | nil=>rw [e] at l1;exact nomatch l1
  | cons b r =>
   rw [e] at h
   exact kd.n2 h.symm
 ·rcases List.mem_append.mp hr with h|h
  ·exact ⟨f.list (m6 fun e=>ap (e▸ci8 h)) (S.lk r h).1,(S.lk r h).2⟩
  ·rw [List.mem_singleton.mp h]
   exact ⟨f.list (m6 (Ne.symm (hx _ (.inl aZ9)))) hq,S.shw hz⟩
 ·have hr:i∈w.o::w.m::(fes w.as++(w.ks++[(q,hs)]).map Prod.fst):=hr
  rw [ks,←List.append_assoc] at hr
  rcases List.mem_append.mp (show i∈(w.o::w.m::(fes w.as++w.ks.map Prod.fst))++[q] from hr) with h|h
  ·exact S.ap i hi h
  ·rw [List.mem_singleton.mp h] at hi
   rcases List.mem_cons.mp hi with e|hi
   ·exact hx _ (.inl aZ9) e.symm
   ·refine e1_2 (List.mem_map.mp hi) fun a ha e=>?_
    exact hx _ (.inl (aT6 (y4 ha aN6))) e
 ·rw [List.length_set]
  have hi:i∈w.s::w.n::w.o::w.m::w.d::(ads w.as++(w.ks++[(q,hs)]).map Prod.fst):=hi
  rw [ks,←List.append_assoc] at hi
  rcases List.mem_append.mp (show i∈(w.s::w.n::w.o::w.m::w.d::(ads w.as++w.ks.map Prod.fst))++[q] from hi) with h|h
  ·exact S.pl i h
  ·rw [List.mem_singleton.mp h]
   exact ⟨f9 hq,fun h=>hx _ (.inr h) rfl⟩
end
structure Sd (H:Hp)(k:Bk)(w:Wr)(ps:List Prs)(hs:List Mtg)(far:Int)(z x y:Nat)(l:List V):Prop where
 S:St H k w ps hs hs (ml hs) far k.g z
 lx:b6 H x=some (i5 w.as)
 ly:b6 H y=some l
 hy:y≠w.d
 ask:∀ j:Nat,j<3→∃ (i:Nat) (a:Ad) (h:Int),l[j]? = some (.tup [.ref a.i,.int h])∧w.as[i]? = some a∧0≤h∧h≤far+29
section
variable {H:Hp} {k:Bk} {w:Wr} {ps:List Prs} {hs:List Mtg} {far:Int} {z x y:Nat} {l:List V} {L:Lc} {QF:QS} {XF:XS}
theorem Sd.pre {H':Hp}(D:Sd H k w ps hs far z x y l)(p:H<+:H'):Sd H' k w ps hs far z x y l:=⟨D.S.pre p,b7 p D.lx,b7 p D.ly,D.hy,D.ask⟩
theorem Sd.as (D:Sd H k w ps hs far z x y l):∃ a r,w.as=a::r:=by
 have h:=D.S.l1
 unfold Wr.as
 cases e:w.a1 with
 | nil=>rw [e] at h;exact nomatch h
 | cons a r=>exact ⟨a,r++w.a2,rfl⟩
theorem bD1 (L9:L[9]? = some (some (.ref x)))(L1:L[1]? = some (some (.ref w.s))){P:Bool→Hp→Prop}{X:XL}(S:St H k w ps hs hs (ml hs) far k.g z)(hz:z≤1000)(lx:b6 H x=some (hs.map mtv))(q:P false H):(wp2 Θu (.or (.not (.call (.bi .isinstance) [(.loc 9),(.lit (.ty .list))])) (.cmp (.call (.bi .repr) [(.loc 9)]) .NotEq (.call (.bi .repr) [(.sub (.loc 1) (.lit (.str "met")))])))).T L H P X:=by
 refine e1_3 (S.dc) fun es d1 d2 d3=>?_
 have e1:=a25 lx
 have e2:=a25 S.lm
 have i1:C2 H (.ref x) .list=some true:=by
  show ((b6 H x).map _).map _=_
  rw [lx];rfl
 have ft:=(S.shw hz).fit
 simp_arith only [L9,L1,i1,e1,e2,d1,d3.me,beq_self_eq_true]
 exact ⟨ft,ft,q⟩
theorem bC0 (L9:L[9]? = some (some (.ref y)))(L1:L[1]? = some (some (.ref w.s)))(L0:L[0]? = some (some (.ref k.b)))(S:St H k w ps hs hs (ml hs) far k.g z)(hz:z≤900)(ly:b6 H y=some (hs.map mtv))(q:∀ H' w',Fr [w.d] H H'→w'.s=w.s→w'.as=w.as→w'.d=w.d→(∀ i∈w'.all,i∈w.all∨H.length≤i)→St H' k w' ps hs hs (ml hs) far k.g (z+1)→QF .next L H'):wpS Θu (.expr (.meth (.sub (.loc 1) (.lit (.str "held"))) .append [(.tup [(.mcall (.loc 0) "meetings" []),(.call (.bi .repr) [(.loc 9)])])])) L H QF XF:=by
 refine e1_3 (S.dc) fun es d1 d2 d3=>?_
 have p1:H<+:H++[.list (hs.map mtv)]:=b8
 have l1:=b5 (H:=H) (l:=hs.map mtv)
 have e1:=a25 (b7 p1 ly)
 have ft:=(S.shw (by lia)).fit
 have S1:=S.pre p1
 have lt:=S.lt
 have ld:=S.ld
 have ld1:=S1.ld
 have z3:=S.z3
 simp_arith only [L1,L0,L9,d1,d3.he,S.book.ns,↓by9]
 refine ⟨⟨_,ld⟩,k,ps,hs,rfl,S.book,?_⟩
 have K:=S1.keep (by lia) l1 lt
 have f:Fr [w.d] H ((H++[O.list (hs.map mtv)]).set w.d (O.list (w.ks.map Y4++[Y4 (H.length,hs)]))):=bv7
 generalize H.length=x1 at *
 generalize H++[O.list (hs.map mtv)]=H1 at *
 simp_arith only [L9,e1,ld1]
 refine ⟨ft,by rw [List.length_map];lia,q _ { w with ks:=w.ks++[(x1,hs)] } f rfl rfl rfl (fun i hi=>?_) K⟩
 have hi:i∈w.s::w.n::w.o::w.m::w.d::(ads w.as++(w.ks++[(x1,hs)]).map Prod.fst):=hi
 rw [List.map_append,←List.append_assoc] at hi
 rcases List.mem_append.mp (show i∈(w.s::w.n::w.o::w.m::w.d::(ads w.as++w.ks.map Prod.fst))++[x1] from hi) with h|h
 ·exact .inl h
 ·exact .inr (Nat.le_of_eq (List.mem_singleton.mp h).symm)
noncomputable abbrev stB:List IS:=bdy (f_l_stands.body.getD 4 .fail)
noncomputable abbrev stL (b s:Nat)(a:Int)(v3:V)(x:Nat)(far:Int)(y:Nat)(t7 t8 t9 t10 t11 t12 t13:Option V):Lc:=[some (.ref b),some (.ref s),some (.int a),some v3,some (.ref x),some (.int far),some (.ref y),t7,t8,t9,t10,t11,t12,t13]
variable {a:Int} {v3:V} {t7 t8 t9 t10 t11 t12 t13:Option V}
theorem cn3 (D:Sd H k w ps hs far z x y l)(hz:z≤900)(q:∀ H' w' t9',w'.s=w.s→Sd H' k w' ps hs far (z+1) x y l→QF .next (stL k.b w.s a v3 x far y t7 t8 t9' t10 t11 t12 t13) H') :
  j1 Θu [(.assign 9 (.mcall (.loc 0) "meetings" [])),(.ite (.or (.not (.call (.bi .isinstance) [(.loc 9),(.lit (.ty .list))])) (.cmp (.call (.bi .repr) [(.loc 9)]) .NotEq (.call (.bi .repr) [(.sub (.loc 1) (.lit (.str "met")))]))) [(.ret (.lit (.bool false)))] []),(.expr (.meth (.sub (.loc 1) (.lit (.str "held"))) .append [(.tup [(.mcall (.loc 0) "meetings" []),(.call (.bi .repr) [(.loc 9)])])])),(.expr (.meth (.loc 9) .clear []))] (stL k.b w.s a v3 x far y t7 t8 t9 t10 t11 t12 t13) H QF XF:=by
 refine d7 ?_
 simp_arith only [D.S.book.ns,↓by9]
 refine ⟨k,ps,hs,rfl,D.S.book,?_⟩
 have D1:=D.pre (b8 (o:=.list (hs.map mtv)))
 have l1:=b5 (H:=H) (l:=hs.map mtv)
 have lt:=D.S.lt
 have xl:=f9 D.lx
 have yl:=f9 D.ly
 generalize H.length=x1 at *
 generalize H++[O.list (hs.map mtv)]=H1 at *
 show sqX Θu _ QF XF Fl.next (stL k.b w.s a v3 x far y t7 t8 (some (.ref x1)) t10 t11 t12 t13) H1
 refine j3 ?_
 refine b0 ?_
 rw [bl4]
 refine bD1 rfl rfl D1.S (by lia) l1 ?_
 show j1 Θu (_::_) _ _ _ _
 refine b0 (bC0 rfl rfl rfl D1.S hz l1 fun H2 w' f2 hs' ha hd hal S2=>?_)
 have l2:=f2.list (m6 (Ne.symm (lt _ (.inl aZ9)))) l1
 refine j3 ?_
 refine d7 ?_
 simp_arith only [l2]
 refine ⟨⟨_,l2⟩,?_⟩
 have g:Fr [x1] H2 (H2.set x1 (.list [])):=Fr.set
 have S3:=S2.oth g fun i hi=>?_
 rotate_left
 ·rcases hi with h|h
  ·rcases hal i h with h|h
   ·exact lt i (.inl h)
   ·have:=f9 l1;lia
  ·exact lt i (.inr h)
 refine e2_1 (D1.as) fun b r ea=>?_
 have nx:x≠w.d:=D7 D1.lx D1.S.ld fun h=>by rw [ea] at h;exact (aA0 w.ks).n2 h.symm
 have lx3:=g.list (m6 (by lia)) (f2.list (m6 nx) D1.lx)
 have ly3:=g.list (m6 (by lia)) (f2.list (m6 D.hy) D1.ly)
 generalize H2.set x1 (O.list [])=H3 at *
 refine j3 ?_;rw [aw0]
 exact q H3 w' _ hs' ⟨S3,by rw [ha];exact lx3,ly3,by rw [hd];exact D.hy,by rw [ha];exact D.ask⟩
end
end Mine
namespace Mine
open PySem
section
variable {H:Hp} {k:Bk} {w:Wr} {ps:List Prs} {hs:List Mtg} {far:Int} {z x y:Nat} {l:List V} {QF:QS} {XF:XS} {a:Int} {v3:V} {t7 t8 t9 t10 t11 t12 t13:Option V}
theorem bi7 {G:Int→Bool}{hours lo la:Int}{v:V}(F:IsFirst G hours lo la v):eqK H v v=some true:=by
 rcases F.kind with rfl|⟨i,rfl⟩
 ·rfl
 ·show (if (PyData.int i).depth≤60 then some (PyData.eqv (.int i) (.int i)) else none)=_
  rw [if_pos (Nat.le_of_ble_eq_true rfl),aY6,decide_eq_true rfl]
theorem bq4 {b:Bool}:eqK H (.bool b) (.bool b)=some true:=by cases b<;>rfl
theorem cr8 (D:Sd H k w ps hs far z x y l)(q:∀ H',Sd H' k w ps hs far z x y l→QF .next (stL k.b w.s a v3 x far y t7 t8 t9 t10 t11 t12 t13) H') :
  wpS Θu (.ite (.cmp (.sub (.mcall (.loc 0) "first" [(.lst [(.sub (.sub (.loc 4) (.lit (.int 0))) (.lit (.int 0)))]),(.lit (.int 1)),(.loc 5),(.bin .Add (.loc 5) (.lit (.int 9)))]) (.lit (.int 0))) .NotEq (.call (.fn "_law_first") [(.slice (.loc 4) none (some (.lit (.int 1)))),(.lit (.int 1)),(.loc 5),(.bin .Add (.loc 5) (.lit (.int 9)))])) [(.ret (.lit (.bool false)))] []) (stL k.b w.s a v3 x far y t7 t8 t9 t10 t11 t12 t13) H QF XF:=by
 refine e2_1 (D.as) fun b r ea=>?_
 have P:=D.S.P
 rw [ea] at P
 refine e2_3 P fun p qs ep A _=>?_
 have pm:p∈ps:=by rw [ep];exact .head _
 have pg:=D.S.pu.gp p pm
 have lx:=D.lx
 have li:=A.li
 refine j4 (D.S.pu.far) fun f1 f2=>?_
 have i0:(i5 w.as)[0]? = some (.ref b.i):=by rw [ea];rfl
 have c0:aC0 .none (.int 1) (i5 w.as)=some (i5 [b]):=by rw [ea];rfl
 have p1:H<+:H++[.list [.str p.nm]]:=b8
 have l1:=b5 (H:=H) (l:=[.str p.nm])
 have D1:=D.pre p1
 simp_arith only [D.S.book.ns,lx,i0,li]
 generalize H.length=x1 at *
 generalize H++[O.list [V.str p.nm]]=H1 at *
 simp_arith only [↓bW6]
 refine ⟨k,x1,ps,hs,[p],1,far,far+9,⟨D1.S.book,l1,fun r hr=>by rw [List.mem_singleton.mp hr];exact pm⟩,fun r hr=>by rw [List.mem_singleton.mp hr];exact pg.2.1,fun h=>(nomatch h),List.nodup_cons.mpr ⟨List.not_mem_nil,List.nodup_nil⟩,⟨⟨by decide,by decide⟩,⟨f1,by lia⟩,⟨by lia,by lia⟩,by lia,by lia⟩,fun v rows F=>?_⟩
 have D2:=D1.pre (b8 (o:=.list rows))
 have lx2:=D2.lx
 generalize H1.length=x2 at *
 generalize H1++[O.list rows]=H2 at *
 have p3:H2<+:H2++[.list (i5 [b])]:=b8
 have l3:=b5 (H:=H2) (l:=i5 [b])
 have D3:=D2.pre p3
 simp_arith only [lx2,c0]
 generalize H2.length=x3 at *
 generalize H2++[O.list (i5 [b])]=H3 at *
 have P3:=D3.S.P
 rw [ea] at P3
 refine e2_3 P3 fun p' qs' ep' A3 _=>?_
 rw [ep] at ep'
 refine j4 (List.cons.inj ep') fun e_310 e_311=>?_
 obtain rfl:=e_310
 obtain rfl:=e_311
 simp_arith only [↓b13]
 refine ⟨x3,[b],[p],ml hs,1,far,far+9,l3,⟨p,[],rfl,A3,rfl⟩,by show 1≤1000;decide,fun r hr=>by rw [List.mem_singleton.mp hr];exact pg.2.1,⟨by decide,by decide⟩,⟨f1,by lia,by lia,by lia⟩,fun v' H4 p4 F'=>?_⟩
 have F'':=F'.to (G':=gd 0 hs [p]) fun t ht=>aT8 (fun p=>(aE8 D.S.free).symm) (by lia) fun p=>Iff.rfl
 obtain rfl:=F.same F''
 simp_arith only [aY4,bi7 F]
 exact q H4 (D3.pre p4)
theorem cl1 {i:Nat}(D:Sd H k w ps hs far z x y l)(hi:i<3)(q:∀ H' t10',Sd H' k w ps hs far z x y l→QF .next (stL k.b w.s a v3 x far y t7 (some (.int (i:Int))) t9 t10' t11 t12 t13) H') :
  j1 Θu [(.assign 10 (.mcall (.loc 0) "is_free" [(.sub (.sub (.sub (.loc 6) (.loc 8)) (.lit (.int 0))) (.lit (.int 0))),(.sub (.sub (.loc 6) (.loc 8)) (.lit (.int 1)))])),(.ite (.or (.not (.call (.bi .isinstance) [(.loc 10),(.lit (.ty .bool))])) (.cmp (.loc 10) .NotEq (.sub (.call (.fn "_law_open_hours") [(.sub (.sub (.loc 6) (.loc 8)) (.lit (.int 0))),(.sub (.sub (.loc 6) (.loc 8)) (.lit (.int 1))),(.lit (.int 1))]) (.lit (.int 0))))) [(.ret (.lit (.bool false)))] [])] (stL k.b w.s a v3 x far y t7 (some (.int (i:Int))) t9 t10 t11 t12 t13) H QF XF:=by
 refine e3_4 (D.ask i hi) fun j b h e1 e2 h0 h1=>?_
 refine e1_2 (D.S.P.get e2) fun p hp A=>?_
 have pm:=List.mem_of_getElem? hp
 have pg:=D.S.pu.gp p pm
 have ly:=D.ly
 have li:=A.li
 refine j4 (D.S.pu.far) fun f1 f2=>?_
 have ix:idx l (i:Int)=some (.tup [.ref b.i,.int h]):=by rw [aB4];exact e1
 refine d7 ?_
 simp_arith only [D.S.book.ns,ly,ix,li,↓b07]
 refine ⟨k,ps,hs,p,h,D.S.book,pm,pg.2.1,?_⟩
 show sqX Θu _ QF XF Fl.next (stL k.b w.s a v3 x far y t7 (some (.int (i:Int))) t9 (some (.bool (fre 0 hs p h))) t11 t12 t13) H
 refine j3 ?_
 have e3:opn (ml hs) p h=fre 0 hs p h:=aB3 (aE8 D.S.free).symm h0
 refine d7 ?_
 have ib:C2 H (.bool (fre 0 hs p h)) .bool=some true:=rfl
 simp_arith only [ib,ly,ix,↓b93]
 refine ⟨b,p,ml hs,h,1,A,pg.2.1,⟨h0,by lia,by decide,by decide⟩,fun n H1 p1 l1=>?_⟩
 have i1:(flL (fun k=>opn (ml hs) p (h+(k:Int))) 1)[0]? = some (.bool (fre 0 hs p h)):=by rw [af3,if_pos (by decide),show h+((0:Nat):Int)=h by lia,e3]
 simp_arith only [l1,i1,aY4,bq4]
 exact q H1 _ (D.pre p1)
theorem bo7 {t:Int}(D:Sd H k w ps hs far z x y l)(hz:z≤900)(q:∀ H' w' t8' t9' t10',w'.s=w.s→Sd H' k w' ps hs far (z+1) x y l→QF .next (stL k.b w.s a v3 x far y (some (.int t)) t8' t9' t10' t11 t12 t13) H') :
  j1 Θu stB (stL k.b w.s a v3 x far y (some (.int t)) t8 t9 t10 t11 t12 t13) H QF XF:=by
 have up:∀ {H'},Sd H' k w ps hs far z x y l→Sd H' k w ps hs far (z+1) x y l:=fun D=>⟨D.S.le (Nat.le_succ _),D.lx,D.ly,D.hy,D.ask⟩
 refine b0 ⟨rfl,rfl,?_⟩
 obtain ⟨i,hi,h5⟩:∃ i:Nat,(t+a/5)%5=(i:Int)∧i<5:=⟨((t+a/5)%5).toNat,by lia,by lia⟩
 show j1 Θu (stB.drop 1) (stL k.b w.s a v3 x far y (some (.int t)) (some (.int ((t+a/5)%5))) t9 t10 t11 t12 t13) H QF XF
 rw [hi]
 refine b0 ?_
 show ifP (decide ((i:Int)=3)) _ _
 refine bw7 (fun _=>?_) (fun n3=>?_)
 ·exact cn3 D hz fun H' w' t9' hw D'=>by rw [n7,aw0];exact q H' w' _ _ _ hw D'
 refine b0 ?_
 show ifP (decide ((i:Int)=4)) _ _
 refine bw7 (fun _=>?_) (fun n4=>?_)
 ·exact b0 (cr8 D fun H' D'=>q H' w _ _ _ rfl (up D'))
 ·exact cl1 D (by lia) fun H' t10' D'=>q H' w _ _ _ rfl (up D')
theorem bn0:∀ (ts:List Int) (H:Hp) (w:Wr) (z:Nat) (s:Nat) (t7 t8 t9 t10:Option V),w.s=s→Sd H k w ps hs far z x y l→z+ts.length≤900→(∀ H' w' L',w'.s=s→Sd H' k w' ps hs far (z+ts.length) x y l→QF .next L' H') →
  j7 (A4 Θu stB XF) (fun _=>True) 7 (ts.map V.int) (stL k.b s a v3 x far y t7 t8 t9 t10 t11 t12 t13) H QF:=by
 intro ts
 induction ts with
 | nil=>intro H w z s t7 t8 t9 t10 hw D _ q;exact q H w _ hw D
 | cons t ts ih =>
  intro H w z s t7 t8 t9 t10 hw D hz q
  rw [List.length_cons] at hz q
  rw [List.map_cons,g4]
  subst hw
  exact bo7 D (by lia) fun H' w' t8' t9' t10' hw' D'=>⟨trivial,ih H' w' (z+1) w.s _ _ _ _ hw' D' (by lia) fun H2 w2 L' h2 D2=>q H2 w2 L' h2 (by rw [show z+(ts.length+1)=z+1+ts.length by lia];exact D2)⟩
end
theorem bA2:E4 0 5=[0,1,2,3,4].map V.int:=rfl
noncomputable def ar6:Ctr:=fun vs H Q _=>aD5 H Q vs
theorem a79:∀ vs H Q X,ar6 vs H Q X→v8 Θu f_l_stands vs H Q X:=by
 rintro vs H Q X ⟨_,_,far,z,a,b,⟨k,w,ps,hs,me,S⟩,hz,q⟩
 refine i9 rfl ?_
 change j1 Θu f_l_stands.body [some (.ref k.b),some (.ref w.s),some (.int a),some (.int b),none,none,none,none,none,none,none,none,none,none] H _ _
 refine d7 ?_
 rw [K2]
 refine aW4 S rfl fun _ l1=>?_
 have S1:=S.pre (b8 (o:=.list (i5 w.as)))
 have lt1:=S.lt
 generalize H.length=x at *
 generalize H++[O.list (i5 w.as)]=H1 at *
 refine j3 ?_
 refine e1_3 (S1.dc) fun es d1 d2 d3=>?_
 have z2:=S.z2
 refine d7 ?_
 simp_arith only [d1,d3.me,↓cd8]
 refine ⟨x,w.m,w.as,ps,me,hs,l1,S1.P,S1.pu.nd,S1.lm,by lia,fun H2 as' f2 s2 P2=>?_⟩
 have rf:=s2.refs.1
 have l2:=f2.list (fun hi=>by
  refine e1_2 (S1.P.isS _ hi) fun m hm hk=>?_
  exact D7 l1 hm (by rw [hk];exact ac1 _) rfl) l1
 refine e1_3 (S1.put f2 s2 P2) fun w' hw ha S2=>?_
 rw [←rf,←ha] at l2
 rw [←hw] at q ⊢
 clear S1 S d1 d2 d3 l1 lt1 f2 s2 P2 rf ha
 refine e1_3 (S2.dc) fun es d1 d2 d3=>?_
 refine j3 ?_
 refine d7 ?_
 simp_arith only [d1,d3.fa]
 refine j3 ?_
 have h3:3≤w'.as.length:=by unfold Wr.as;rw [List.length_append,S2.l1];lia
 have at':∀ i:Nat,i<w'.as.length→∃ c,w'.as[i]? = some c∧(i5 w'.as)[i]? = some (.ref c.i):=fun i hi=>⟨w'.as[i],List.getElem?_eq_getElem hi,by unfold i5;rw [List.getElem?_map,List.getElem?_eq_getElem hi];rfl⟩
 have hl:(i5 w'.as).length=w'.as.length:=List.length_map _
 have m0:=Int.emod_nonneg b (show (w'.as.length:Int)≠0 by lia)
 have m1:=Int.emod_lt_of_pos b (show 0<(w'.as.length:Int) by lia)
 refine e1_2 (at' (b%(w'.as.length:Int)).toNat (by lia)) fun cb eb ib=>?_
 refine e1_2 (at' 0 (by lia)) fun c0 e0 i0=>?_
 refine e1_2 (at' 1 (by lia)) fun c1 e1 i1=>?_
 have ib:idx (i5 w'.as) (b%(w'.as.length:Int))=some (.ref cb.i):=by unfold idx;rw [if_pos m0];exact ib
 have pz:=S2.pu.z
 have pl:=S2.P.length
 refine d7 ?_
 simp_arith only [↓bB1 l2,hl,bB1 ib,bB1 i0,bB1 i1,ax1 (bS3 (j:=(w'.as.length:Int)) (by lia))]
 have D:Sd (H2++[.list [.tup [.ref cb.i,.int (far+a%30)],.tup [.ref c0.i,.int (far+6)],.tup [.ref c1.i,.int (far+6)]]]) k w' ps hs far z x H2.length [.tup [.ref cb.i,.int (far+a%30)],.tup [.ref c0.i,.int (far+6)],.tup [.ref c1.i,.int (far+6)]]:=by
  refine j4 (S2.pu.far) fun f1 f2=>?_
  refine ⟨S2.pre b8,b7 b8 l2,b5,Ne.symm (S2.lt _ (.inl aZ9)),fun j hj=>?_⟩
  match j,hj with
  | 0,_=>exact ⟨_,cb,_,rfl,eb,by lia,by lia⟩
  | 1,_=>exact ⟨_,c0,_,rfl,e0,by lia,by lia⟩
  | 2,_=>exact ⟨_,c1,_,rfl,e1,by lia,by lia⟩
 generalize H2.length=y at *
 generalize H2++[O.list [.tup [.ref cb.i,.int (far+a%30)],.tup [.ref c0.i,.int (far+6)],.tup [.ref c1.i,.int (far+6)]]]=H3 at *
 refine j3 ?_
 refine d7 ?_
 rw [aJ3,g5,at9,bA2]
 refine ⟨⟨by decide,by decide⟩,bn0 [0,1,2,3,4] H3 w' z w'.s _ _ _ _ rfl D (by show z+5≤900;lia) fun H4 w4 L' h4 D4=>?_⟩
 rw [←h4] at q
 exact q H4 ⟨k,w4,ps,hs,_,D4.S⟩
noncomputable def Θv:Orc:=ext "_law_stands" ar6 Θu
end Mine
namespace Mine
open PySem
theorem aD3:Θv "_law_cell_at" = I1:=rfl
theorem ce2:Θv "_law_far" = bv4:=rfl
theorem cb5:Θv "_law_cast" = aY0:=rfl
theorem bT9:Θv "_law_book_of" = ag2:=rfl
theorem b00:Θv "_law_filled" = au2:=rfl
theorem cd5:Θv "_law_deed" = aS2:=rfl
theorem ce1:Θv "_law_stands" = ar6:=rfl
theorem bb1:∀ {as:List Ad},(ads as).Nodup→(as.map Ad.u).Nodup∧∀ i∈as.map Ad.u,i∉fes as
 | [],_=>⟨List.nodup_nil,fun _ h=>nomatch h⟩
 | a::as,h=>by
  refine R8 (List.nodup_append.mp (show (a.all++ads as).Nodup from h)) fun h1 h2 h3=>?_
  refine j4 (bb1 h2) fun k1 k2=>?_
  have ua:∀ i∈as.map Ad.u,i∈ads as:=fun i hi=>by obtain ⟨b,hb,rfl⟩:=List.mem_map.mp hi;exact y4 hb aN6
  have fa:∀ i∈fes as,i∈ads as:=fun i hi=>by
   refine e1_2 (List.mem_flatMap.mp hi) fun b hb hi=>?_
   rcases List.mem_cons.mp hi with q|hi
   ·rw [q];exact y4 hb bi8
   ·rw [List.mem_singleton.mp hi];exact y4 hb bf7
  obtain ⟨_,_,_,n4,_,n6⟩:=an6.mp (show (Ad.all ⟨a.i,a.f,a.u,a.e⟩).Nodup from h1)
  refine ⟨List.nodup_cons.mpr ⟨fun hm=>h3 _ aN6 _ (ua _ hm) rfl,k1⟩,fun i hi hf=>?_⟩
  rcases List.mem_append.mp (show i∈[a.f,a.e]++fes as from hf) with hf|hf<;>rcases List.mem_cons.mp hi with q|hi
  ·rcases List.mem_cons.mp hf with e|e
   ·exact n4 (e.symm.trans q)
   ·exact n6 (q.symm.trans (List.mem_singleton.mp e))
  ·refine h3 i ?_ i (ua i hi) rfl
   rcases List.mem_cons.mp hf with e|e
   ·rw [e];exact bi8
   ·rw [List.mem_singleton.mp e];exact bf7
  ·rw [q] at hf;exact h3 _ aN6 _ (fa _ hf) rfl
  ·exact k2 i hi hf
noncomputable def zN (j:Nat):Str:=aQ2 "z" (1+(j:Int)).toNat
noncomputable def zP (j:Nat):Prs:=⟨zN j,[evA 0],[]⟩
theorem bB8:∀ j:Fin 3,((zN j).length=j.val+1∧(∀ c∈(zN j).cps.toList,c=122))∧(zN j).length≤2000000∧PyData.strOk (zN j)=true:=by decide +kernel
theorem aX5 {j:Nat}(h:j<3):((zN j).length=j+1∧(∀ c∈(zN j).cps.toList,c=122))∧(zN j).length≤2000000∧PyData.strOk (zN j)=true:=bB8 ⟨j,h⟩
theorem bV8 {j:Nat}(h:j<3):Gp (zP j):=by
 refine j4 (aX5 h) fun e_312 _=>?_
 refine j4 e_312 fun h1 h2=>?_
 exact ⟨⟨by show 1≤(zN j).length;lia,by show (zN j).length≤12;lia,fun c hc=>by rw [h2 c hc];decide⟩,⟨fun r hr=>by rw [List.mem_singleton.mp hr];exact ok0 ⟨⟨by decide,by decide⟩,⟨by decide,by decide⟩,by decide,by decide⟩,fun _ h=>(nomatch h)⟩,by show 1≤2;decide,Nat.zero_le _⟩
theorem bq2 {L:Lc}{H0:Hp}{Q:List V→Hp→Prop}(hL:L.length=14):∀ (n j:Nat) (as:List Ad) (H:Hp),j+n≤3→H0<+:H→PsAt H mN as ((List.range j).map zP)→(ads as).Nodup→(∀ i∈ads as,H0.length≤i)→(∀ as' H',H0<+:H'→PsAt H' mN as' ((List.range (j+n)).map zP)→(ads as').Nodup→(∀ i∈ads as',H0.length≤i)→Q (i5 as') H') →
  n9 (av5 Θv (.lst [(.bin .Mult (.lit (.str "z")) (.bin .Add (.lit (.int 1)) (.loc 11))),(.lst [(.tup [(.lit (.str "every")),(.lit (.int 0)),(.lit (.int 1)),(.lit (.int 1))])]),(.lst []),(.lst [])]) noX) (fun _=>True) 11 L ((List.range' j n).map fun (m:Nat)=>V.int (m:Int)) (i5 as) H Q:=by
 intro n
 induction n with
 | zero=>intro j as H _ hp P nd ge q;exact q as H hp P nd ge
 | succ n ih =>
  intro j as H hj hp P nd ge q
  show n9 _ _ _ _ (V.int (j:Int)::((List.range' (j+1) n).map fun (m:Nat)=>V.int (m:Int))) _ _ _
  rw [y9]
  have e:(L.set 11 (some (.int (j:Int))))[11]? = some (some (.int (j:Int))):=by rw [List.getElem?_set_self (by lia)]
  refine R8 (aX5 (show j<3 by lia)) fun e_313 z3 z4=>?_
  refine j4 e_313 fun z1 z2=>?_
  have hz:(1≤1+(j:Int)∧1+(j:Int)≤1000∧0<(Str.ofString "z").length∧(Str.ofString "z").length≤1000∧(aQ2 "z" (1+(j:Int)).toNat).length≤2000000∧PyData.strOk (aQ2 "z" (1+(j:Int)).toNat)=true):=⟨by lia,by lia,by decide,by decide,z3,z4⟩
  simp_arith only [e]
  refine ⟨hz,?_⟩
  have h0:=hp.length_le
  have lt:=P.lt
  have p1:H<+:H++[.list [.tup [.str "every",.int 0,.int 1,.int 1]]]:=b8
  have l1:=b5 (H:=H) (l:=[.tup [.str "every",.int 0,.int 1,.int 1]])
  have n1:(H++[O.list [V.tup [.str "every",.int 0,.int 1,.int 1]]]).length=H.length+1:=List.length_append
  generalize H++[O.list [V.tup [.str "every",.int 0,.int 1,.int 1]]]=H1 at *
  have p2:H1<+:H1++[.list []]:=b8
  have l2:=b5 (H:=H1) (l:=[])
  have n2:(H1++[O.list []]).length=H1.length+1:=List.length_append
  generalize H1++[O.list []]=H2 at *
  have p3:H2<+:H2++[.list []]:=b8
  have l3:=b5 (H:=H2) (l:=[])
  have n3:(H2++[O.list []]).length=H2.length+1:=List.length_append
  generalize H2++[O.list []]=H3 at *
  have p4:H3<+:H3++[.list [.str (zN j),.ref H.length,.ref H1.length,.ref H2.length]]:=b8
  have l4:=b5 (H:=H3) (l:=[.str (zN j),.ref H.length,.ref H1.length,.ref H2.length])
  show n9 _ _ _ _ _ _ (H3++[.list [.str (zN j),.ref H.length,.ref H1.length,.ref H2.length]]) _
  generalize H3++[O.list [.str (zN j),.ref H.length,.ref H1.length,.ref H2.length]]=H4 at *
  have A:PA H4 ⟨H3.length,H.length,H1.length,H2.length⟩ (zP j) []:=⟨l4,b7 (p2.trans (p3.trans p4)) l1,b7 (p3.trans p4) l2,b7 p4 l3⟩
  have ea:ads (as++[⟨H3.length,H.length,H1.length,H2.length⟩])=ads as++[H3.length,H.length,H1.length,H2.length]:=by unfold ads;rw [List.flatMap_append];rfl
  have:=ih (j+1) (as++[⟨H3.length,H.length,H1.length,H2.length⟩]) H4 (by lia) (hp.trans (p1.trans (p2.trans (p3.trans p4)))) (by rw [List.range_succ,List.map_append];exact PsAt.snoc A (P.pre (p1.trans (p2.trans (p3.trans p4))))) ?_ (fun i hi=>?_) (by rw [show j+1+n=j+(n+1) by lia];exact q)
  ·rw [show i5 (as++[⟨H3.length,H.length,H1.length,H2.length⟩])=i5 as++[.ref H3.length] from List.map_append] at this
   exact this
  ·rw [ea]
   refine List.nodup_append.mpr ⟨nd,an6.mpr ⟨by lia,by lia,by lia,by lia,by lia,by lia⟩,fun i hi k hk e=>?_⟩
   have:=lt i hi
   have hk:k∈[H3.length,H.length,H1.length,H2.length]:=hk
   rcases List.mem_cons.mp hk with q|hk
   ·lia
   rcases List.mem_cons.mp hk with q|hk
   ·lia
   rcases List.mem_cons.mp hk with q|hk
   ·lia
   have:=List.mem_singleton.mp hk
   lia
  ·rw [ea] at hi
   rcases List.mem_append.mp hi with hi|hk
   ·exact ge i hi
   rcases List.mem_cons.mp hk with q|hk
   ·lia
   rcases List.mem_cons.mp hk with q|hk
   ·lia
   rcases List.mem_cons.mp hk with q|hk
   ·lia
   have:=List.mem_singleton.mp hk
   lia
theorem bp9 {H:Hp}{a b c d:O}:(H++[a]++[b]++[c]).set H.length d=H++[d]++[b]++[c]:=by
 rw [List.append_assoc,List.append_assoc,List.set_append_right _ _ (Nat.le_refl _),Nat.sub_self,List.append_assoc,List.append_assoc];rfl
theorem bM8 {H0 H:Hp}{k:Bk}{n o:Nat}{a1 a2:List Ad}{ps:List Prs}{far:Int}(M:Mk H0 H k ps)(ln:b6 H0 n=some (i5 a1))(lo:b6 H0 o=some (i5 a2))(P:PsAt H0 mN (a1++a2) ps)(nd:(o::ads (a1++a2)).Nodup)(h3:a1.length=3)(pu:Pu ps far) :
  St (H++[.dict [(Str.ofString "held",.ref (H.length+2)),(Str.ofString "more",.ref o),(Str.ofString "last",.int 0),(Str.ofString "met",.ref (H.length+1)),(Str.ofString "far",.int far),(Str.ofString "people",.ref n)]]++[.list []]++[.list []]) k ⟨H.length,n,o,H.length+1,H.length+2,a1,a2,[]⟩ ps [] [] mN far k.g 6∧H.length+1∉o::(fes (a1++a2)++([]:List (Nat × List Mtg)).map Prod.fst):=by
 have p1:H<+:H++[.dict [(Str.ofString "held",.ref (H.length+2)),(Str.ofString "more",.ref o),(Str.ofString "last",.int 0),(Str.ofString "met",.ref (H.length+1)),(Str.ofString "far",.int far),(Str.ofString "people",.ref n)]]:=b8
 have e1:j6 (H++[.dict [(Str.ofString "held",.ref (H.length+2)),(Str.ofString "more",.ref o),(Str.ofString "last",.int 0),(Str.ofString "met",.ref (H.length+1)),(Str.ofString "far",.int far),(Str.ofString "people",.ref n)]]) (H.length+0)=some [(Str.ofString "held",.ref (H.length+2)),(Str.ofString "more",.ref o),(Str.ofString "last",.int 0),(Str.ofString "met",.ref (H.length+1)),(Str.ofString "far",.int far),(Str.ofString "people",.ref n)]:=ab7
 have n1:(H++[O.dict [(Str.ofString "held",.ref (H.length+2)),(Str.ofString "more",.ref o),(Str.ofString "last",.int 0),(Str.ofString "met",.ref (H.length+1)),(Str.ofString "far",.int far),(Str.ofString "people",.ref n)]]).length=H.length+1:=List.length_append
 have hl:=M.fr.len
 have flt:=M.book.lt
 have L0:∀ {i l},b6 H0 i=some l→i<H0.length∧b6 H i=some l:=fun h=>⟨f9 h,M.fr.list (fun h=>nomatch h) h⟩
 refine j4 (L0 ln) fun lnl ln=>?_
 refine j4 (L0 lo) fun lol lo=>?_
 have Pl:=P.lt
 have P:=P.fr M.fr fun _ _ h=>nomatch h
 have foot:=M.foot
 have B:=M.book
 have g:=M.g
 have c:=M.c
 generalize H++[O.dict [(Str.ofString "held",.ref (H.length+2)),(Str.ofString "more",.ref o),(Str.ofString "last",.int 0),(Str.ofString "met",.ref (H.length+1)),(Str.ofString "far",.int far),(Str.ofString "people",.ref n)]]=H1 at *
 have p2:H1<+:H1++[.list []]:=b8
 have m1:=b5 (H:=H1) (l:=[])
 have n2:(H1++[O.list []]).length=H1.length+1:=List.length_append
 generalize H1++[O.list []]=H2 at *
 have p3:H2<+:H2++[.list []]:=b8
 have d2:=b5 (H:=H2) (l:=[])
 have n3:(H2++[O.list []]).length=H2.length+1:=List.length_append
 generalize H2++[O.list []]=H3 at *
 have pp:=p1.trans (p2.trans p3)
 refine j4 (List.nodup_cons.mp nd) fun no na=>?_
 refine j4 (bb1 na) fun u1 u2=>?_
 have ua:∀ i∈(a1++a2).map Ad.u,i∈ads (a1++a2):=fun i hi=>by obtain ⟨b,hb,rfl⟩:=List.mem_map.mp hi;exact y4 hb aN6
 have fa:∀ i∈fes (a1++a2),i∈ads (a1++a2):=fun i hi=>by
  refine e1_2 (List.mem_flatMap.mp hi) fun b hb hi=>?_
  rcases List.mem_cons.mp hi with q|hi
  ·rw [q];exact y4 hb bi8
  ·rw [List.mem_singleton.mp hi];exact y4 hb bf7
 refine ⟨⟨B.pre pp,⟨_,(Fr.pre (F:=[]) (p2.trans p3)).dict (fun h=>nomatch h) e1,Nat.le_refl _,⟨by rfl,by rfl,by rfl,by rw [g];rfl,by rfl,by rfl⟩⟩,b7 pp ln,b7 pp lo,by show b6 H3 (H.length+1)=some [];rw [←n1];exact b7 p3 m1,by show b6 H3 (H.length+2)=some [];rw [show H.length+2=H2.length by lia];exact d2,fun _ h=>(nomatch h),P.pre pp,List.nodup_cons.mpr ⟨fun h=>?_,u1⟩,fun i hi hr=>?_,fun i hi=>?_,h3,pu,fun _ h=>(nomatch h),by rw [c];decide,Nat.zero_le _,Nat.zero_le _,by rw [g];decide⟩,fun h=>?_⟩
 ·have:=Pl _ (ua _ h);lia
 ·have hr:i∈o::(H.length+1)::(fes (a1++a2)++[]):=hr
  rw [List.append_nil] at hr
  rcases List.mem_cons.mp hi with e|hi
  ·rcases List.mem_cons.mp hr with q|hr
   ·lia
   rcases List.mem_cons.mp hr with q|hr
   ·lia
   ·have:=Pl _ (fa _ hr);lia
  ·have hl:=Pl _ (ua i hi)
   rcases List.mem_cons.mp hr with q|hr
   ·exact no (q▸ua i hi)
   rcases List.mem_cons.mp hr with q|hr
   ·lia
   ·exact u2 i hi hr
 ·have key:i<H0.length∨(H.length≤i∧i<H.length+3):=by
   have hi:i∈[H.length,n,o,H.length+1,H.length+2]++(ads (a1++a2)++[]):=hi
   rw [List.append_nil] at hi
   rcases List.mem_append.mp hi with hi|hi
   ·rcases List.mem_cons.mp hi with q|hi
    ·exact .inr (by lia)
    rcases List.mem_cons.mp hi with q|hi
    ·exact .inl (by lia)
    rcases List.mem_cons.mp hi with q|hi
    ·exact .inl (by lia)
    rcases List.mem_cons.mp hi with q|hi
    ·exact .inr (by lia)
    have:=List.mem_singleton.mp hi
    exact .inr (by lia)
   ·exact .inl (Pl i hi)
  rcases key with h|h
  ·exact ⟨by lia,fun hf=>by have:=foot i hf;lia⟩
  ·exact ⟨by lia,fun hf=>by have:=flt i hf;lia⟩
 ·rw [List.map_nil,List.append_nil] at h
  rcases List.mem_cons.mp h with q|h
  ·lia
  ·have:=Pl _ (fa _ h);lia
end Mine
namespace Mine
open PySem
theorem bk5 {H:Hp}{L:Lc}{st:Hp→Prop}{far:Int}{nms:List Str}{Q:List V→Hp→Prop}(hL:L.length=14)(hst:st H):∀ (ks:List (Nat × List Mtg)) (acc:List V),(∀ q∈ks,b6 H q.1=some (q.2.map mtv)∧Sh far nms q.2)→Q (acc++(ks.map fun _=>true).map V.bool) H →
  u7 (av5 Θv (.cmp (.call (.bi .repr) [(.loc 11)]) .Eq (.loc 12)) noX) st (bd2 11 L) (ks.map Y4) acc H Q:=by
 intro ks
 induction ks with
 | nil=>intro acc _ q;rw [List.map_nil,List.map_nil,List.append_nil] at q;exact q
 | cons m ks ih =>
  intro acc hk q
  refine j4 (hk m List.mem_cons_self) fun l1 s1=>?_
  rw [List.map_cons,show Y4 m=.tup [.ref m.1,.opq (mtS m.2)] from rfl,a68]
  have e1:((L.set 11 (some (.ref m.1))).set (11+1) (some (.opq (mtS m.2))))[11]? = some (some (.ref m.1)):=by rw [List.getElem?_set_ne (by decide),List.getElem?_set_self (by lia)]
  have e2:((L.set 11 (some (.ref m.1))).set (11+1) (some (.opq (mtS m.2))))[12]? = some (some (.opq (mtS m.2))):=by rw [List.getElem?_set_self (by rw [List.length_set];lia)]
  have e3:=a25 l1
  generalize (L.set 11 (some (.ref m.1))).set (11+1) (some (.opq (mtS m.2)))=L1 at *
  simp_arith only [e1,e2,e3]
  refine ⟨s1.fit,hst,?_⟩
  rw [show ((PyData.list (m.2.map mtD)).shown==mtS m.2)=true from beq_self_eq_true _]
  refine ih _ (fun q hq=>hk q (.tail _ hq)) ?_
  rw [List.append_assoc];exact q
theorem aF0 {α:Type}:∀ l:List α,(l.map fun _=>true).all id=true
 | []=>rfl
 | _::l=>aF0 l
section
variable {ns:List Int} {far:Int} {k s:Nat} {v2 v3 v4 v6:V} {t11 t12 t13:Option V} {QF:QS} {XF:XS}
noncomputable abbrev cp8:List IS:=bdy (f_law.body.getD 8 .fail)
theorem bl1 (hn:ns.length≤1000):∀ (ts:List Int) (z:Nat) (H:Hp) (t5 t9 t10:Option V),Stt H far z k s→z+10*ts.length≤800→(∀ H' z' t5' t9' t10',Stt H' far z' k s→z'≤800→QF .next [some (.scr ns),some (.int far),some v2,some v3,some v4,t5',some v6,some (.ref k),some (.ref s),t9',t10',t11,t12,t13] H') →
  j7 (A4 Θv cp8 XF) (fun _=>True) 5 (ts.map V.int) [some (.scr ns),some (.int far),some v2,some v3,some v4,t5,some v6,some (.ref k),some (.ref s),t9,t10,t11,t12,t13] H QF:=by
 intro ts
 induction ts with
 | nil=>intro z H t5 t9 t10 S hz q;exact q H z _ _ _ S (Nat.le_trans (Nat.le_add_right _ _) hz)
 | cons t ts ih =>
  intro z H t5 t9 t10 S hz q
  rw [List.length_cons] at hz
  rw [List.map_cons,g4]
  refine d7 ?_
  simp_arith only [↓aD3,↓C3]
  refine ⟨hn,?_⟩
  generalize cell ns (41+2*t)=a
  refine j3 ?_
  refine d7 ?_
  simp_arith only [↓aD3,↓C3]
  refine ⟨hn,?_⟩
  generalize cell ns (42+2*t)=b
  refine j3 ?_
  refine d7 ?_
  simp_arith only [↓cd5]
  refine ⟨k,s,far,z,a,b,S,by lia,fun H1 S1=>?_⟩
  simp_arith only [↓ce1]
  refine ⟨k,s,far,z+5,a,b,S1,by lia,fun H2 S2=>?_⟩
  simp_arith only [g5]
  refine j3 ?_;rw [aw0]
  exact ⟨trivial,ih (z+5+5) H2 _ _ _ S2 (by lia) q⟩
end
theorem a99 {ns:List Int}{far:Int}{z k s:Nat}{H:Hp}{v2 v3 v4 v6:V}{Q:V→Hp→Prop}{X:XL}(hn:ns.length≤1000)(S:Stt H far z k s)(hz:z≤60)(q:∀ H',Q (.bool true) H') :
  j1 Θv (f_law.body.drop 8) [some (.scr ns),some (.int far),some v2,some v3,some v4,none,some v6,some (.ref k),some (.ref s),none,none,none,none,none] H (rQ Q) (rX X):=by
 have fin:∀ H1 z1 t5 t9 t10,Stt H1 far z1 k s→z1≤800→j1 Θv (f_law.body.drop 9) [some (.scr ns),some (.int far),some v2,some v3,some v4,t5,some v6,some (.ref k),some (.ref s),t9,t10,none,none,none] H1 (rQ Q) (rX X):=fun H1 z1 t5 t9 t10 S1 hz1=>by
  clear S
  obtain ⟨k,w,ps,hs,me,S⟩:=S1
  refine e1_3 (S.dc) fun es d1 d2 d3=>?_
  have ld:=S.ld
  refine d7 ?_
  simp_arith only [d1,d3.he,ld]
  refine bk5 rfl ld w.ks [] S.lk ⟨?_,?_⟩
  ·have:=S.z3
   rw [List.nil_append,List.length_map,List.length_map];lia
  rw [List.nil_append]
  simp_arith only [b5,I5,aF0]
  exact q _
 refine b0 ?_
 rw [aJ3]
 refine at8 (H0:=H) (P:=fun v _=>∃ r,v=.int r∧0≤r∧r≤15) (fun v _ _ _ h=>h) (List.forall_mem_cons.mpr ⟨?_,List.forall_mem_cons.mpr ⟨?_,List.forall_mem_nil _⟩⟩) (by decide) (fun H Q' q'=>?_) H _ (List.prefix_refl _) fun v H1 p1 hv=>?_
 ·intro H1 Q1 p1 q1
  simp_arith only [↓aD3,↓C3]
  exact ⟨hn,q1 _ H1 (List.prefix_refl _) ⟨_,rfl,by lia,by lia⟩⟩
 ·intro H1 Q1 p1 q1
  exact q1 _ H1 (List.prefix_refl _) ⟨15,rfl,by decide,by decide⟩
 ·simp_arith only [g5]
  exact q' _ in2.1 in2.2
 refine e1_3 hv fun r e_314 r0 r1=>?_
 obtain rfl:=e_314
 rw [at9]
 refine ⟨⟨by lia,by lia⟩,?_⟩
 rw [C5]
 have hl:=Y6 0 r
 have S1:Stt H1 far z k s:=by
  obtain ⟨k,w,ps,hs,me,S⟩:=S
  exact ⟨k,w,ps,hs,me,S.pre p1⟩
 exact bl1 hn (m9 0 r) z H1 _ _ _ S1 (by lia) fun H2 z2 t5 t9 t10 S2 hz2=>fin H2 z2 t5 t9 t10 S2 hz2
theorem bd4 {ns:List Int}{far:Int}{fb:Bool}{H:Hp}{Q:V→Hp→Prop}{X:XL}(hn:ns.length≤1000)(hf:M5 far)(hb:fb=true→cell ns 40/7%4=1)(q:∀ H',Q (.bool true) H') :
  j1 Θv (f_law.body.drop 2) [some (.scr ns),some (.int far),some (.bool fb),none,none,none,none,none,none,none,none,none,none,none] H (rQ Q) (rX X):=by
 refine b0 ?_
 generalize hK:sqX Θv (_::_)=K
 simp_arith only [↓cb5]
 refine ⟨ns,far,fb,hn,hf,hb,fun n a1 ps H1 P h3 nd hg hF=>?_⟩
 subst hK
 show sqX Θv _ _ _ Fl.next [some (.scr ns),some (.int far),some (.bool fb),some (.ref n),none,none,none,none,none,none,none,none,none,none] H1
 rw [n7]
 refine b0 ?_
 generalize hK:sqX Θv (_::_)=K
 simp_arith only [↓aD3,↓C3]
 refine ⟨hn,?_⟩
 obtain ⟨m,hm,hm3⟩:∃ m:Nat,cell ns 40/28%4=(m:Int)∧m≤3:=⟨(cell ns 40/28%4).toNat,by lia,by lia⟩
 rw [hm]
 subst hK
 rw [n7]
 refine b0 ?_
 generalize hK:sqX Θv (_::_)=K
 simp_arith only [g5]
 refine ⟨⟨by lia,by lia⟩,?_⟩
 rw [J3,Int.toNat_natCast]
 have ltP:=P.lt
 refine bq2 (H0:=H1) rfl m 0 [] H1 (by lia) (List.prefix_refl _) rfl List.nodup_nil (fun _ h=>nomatch h) fun a2 H2 p2 P2 nd2 ge2=>?_
 rw [Nat.zero_add] at P2
 have la2:=P2.length
 rw [List.length_map,List.length_range] at la2
 have lr:(i5 a2).length=a2.length:=List.length_map _
 refine ⟨by lia,?_⟩
 have p3:H2<+:H2++[.list (i5 a2)]:=b8
 have lo:=b5 (H:=H2) (l:=i5 a2)
 have lt2:=P2.lt
 have P:=P.pre (p2.trans p3)
 have P2:=P2.pre p3
 have h12:=p2.length_le
 have olt:∀ i∈ads a1++ads a2,i≠H2.length:=fun i hi=>by
  rcases List.mem_append.mp hi with h|h
  ·have:=ltP i (.tail _ h);lia
  ·have:=lt2 i h;lia
 generalize H2.length=o at *
 generalize H2++[O.list (i5 a2)]=H3 at *
 have ln:=P.ln
 have la1:=P.at'.length
 subst hK
 rw [n7]
 refine b0 ?_
 generalize hK:sqX Θv (_::_)=K
 have lr1:(i5 a1).length=a1.length:=List.length_map _
 simp_arith only [ln,lo]
 refine ⟨by lia,?_⟩
 have p4:H3<+:H3++[.list (i5 a1++i5 a2)]:=b8
 have l4:=b5 (H:=H3) (l:=i5 a1++i5 a2)
 have ln:=b7 p4 ln
 have lo:=b7 p4 lo
 have Pa:PsAt (H3++[.list (i5 a1++i5 a2)]) mN (a1++a2) (ps++(List.range m).map zP):=(PsAt.join P2 P.at').pre p4
 generalize H3.length=x4 at *
 generalize H3++[O.list (i5 a1++i5 a2)]=H4 at *
 simp_arith only [↓bT9]
 have zl:∀ p∈(List.range m).map zP,∃ j,j<3∧p=zP j:=fun p hp=>by
  refine e1_2 (List.mem_map.mp hp) fun j hj e_315=>?_
  obtain rfl:=e_315
  exact ⟨j,by have:=List.mem_range.mp hj;lia,rfl⟩
 have hnd:((ps++(List.range m).map zP).map Prs.nm).Nodup:=by
  rw [List.map_append]
  refine List.nodup_append.mpr ⟨nd,?_,fun x hx y hy e=>?_⟩
  ·rw [List.map_map]
   refine List.pairwise_map.mpr (List.Pairwise.imp_of_mem (fun {i j} hi hj (h:i<j) e=>?_) List.pairwise_lt_range)
   have l1:=(aX5 (j:=i) (by have:=List.mem_range.mp hi;lia)).1.1
   have l2:=(aX5 (j:=j) (by have:=List.mem_range.mp hj;lia)).1.1
   have e:zN i=zN j:=e
   rw [e] at l1
   lia
  ·refine e1_2 (List.mem_map.mp hx) fun p hp e_316=>?_
   obtain rfl:=e_316
   refine e1_2 (List.mem_map.mp hy) fun p' hp' e_317=>?_
   obtain rfl:=e_317
   refine e1_2 (zl p' hp') fun j hj e_318=>?_
   obtain rfl:=e_318
   refine e1_2 ((hg p hp).2) fun c hc hc'=>?_
   rw [e] at hc
   exact hc' ((aX5 hj).1.2 c hc)
 have hgp:∀ p∈ps++(List.range m).map zP,Gp p:=fun p hp=>by
  rcases List.mem_append.mp hp with h|h
  ·exact (hg p h).1
  ·refine e1_2 (zl p h) fun j hj e_319=>?_
   obtain rfl:=e_319
   exact bV8 hj
 have hlen:(ps++(List.range m).map zP).length≤6:=by rw [List.length_append,List.length_map,List.length_range];lia
 refine ⟨x4,a1++a2,_,by rw [l4];exact congrArg some List.map_append.symm,Pa,hnd,hgp,by lia,fun H5 k M=>?_⟩
 have ndA:(o::ads (a1++a2)).Nodup:=by
  have ea:ads (a1++a2)=ads a1++ads a2:=by unfold ads;rw [List.flatMap_append]
  rw [ea]
  refine List.nodup_cons.mpr ⟨fun h=>olt _ h rfl,List.nodup_append.mpr ⟨(List.nodup_cons.mp P.nd).2,nd2,fun i hi j hj e=>?_⟩⟩
  have:=ltP i (.tail _ hi)
  have:=ge2 j hj
  lia
 refine j4 (bM8 (far:=far) M ln lo Pa ndA (by lia) ⟨hf,hnd,hlen,fun p hp=>⟨(hgp p hp).nm,(hgp p hp).fine,Nat.le_trans (hgp p hp).bu (by decide)⟩⟩) fun S mx=>?_
 have kg:=M.g
 subst hK
 show sqX Θv _ _ _ Fl.next [some (.scr ns),some (.int far),some (.bool fb),some (.ref n),some (.int (m:Int)),none,some (.ref o),some (.ref k.b),none,none,none,none,none,none] H5
 rw [n7]
 refine b0 ?_
 generalize hK:sqX Θv (_::_)=K
 have n1:(H5++[O.dict []]).length=H5.length+1:=List.length_append
 have n2:(H5++[O.dict []]++[O.list []]).length=H5.length+2:=by rw [List.length_append,n1];rfl
 simp_arith only [g5]
 rw [n1,n2]
 refine ⟨?_,?_⟩
 ·rw [List.append_assoc,List.append_assoc];exact ab7 (k:=0)
 rw [bp9]
 change K _ _ Fl.next [some (.scr ns),some (.int far),some (.bool fb),some (.ref n),some (.int (m:Int)),none,some (.ref o),some (.ref k.b),some (.ref H5.length),none,none,none,none,none] (H5++[.dict [(Str.ofString "held",.ref (H5.length+2)),(Str.ofString "more",.ref o),(Str.ofString "last",.int 0),(Str.ofString "met",.ref (H5.length+1)),(Str.ofString "far",.int far),(Str.ofString "people",.ref n)]]++[.list []]++[.list []])
 generalize H5++[O.dict [(Str.ofString "held",.ref (H5.length+2)),(Str.ofString "more",.ref o),(Str.ofString "last",.int 0),(Str.ofString "met",.ref (H5.length+1)),(Str.ofString "far",.int far),(Str.ofString "people",.ref n)]]++[O.list []]++[O.list []]=H6 at *
 subst hK
 rw [n7]
 refine b0 ?_
 generalize hK:sqX Θv (_::_)=K
 cases fb with
 | false =>
  simp_arith only [g5]
  subst hK
  exact a99 hn (show Stt H6 far 6 k.b (Wr.s ⟨H5.length,n,o,H5.length+1,H5.length+2,a1,a2,[]⟩) from ⟨k,_,_,[],_,S⟩) (by decide) q
 | true =>
  simp_arith only [↓aD3,↓C3,↓b00]
  refine ⟨hn,?_⟩
  rw [kg] at S
  refine IC_filled.mk k ⟨H5.length,n,o,H5.length+1,H5.length+2,a1,a2,[]⟩ _ _ far _ 6 S kg mx (fun p hp=>?_) (by decide) (by lia) (by lia) fun H7 S7=>?_
  ·have hps:ps.length=3:=h3
   rw [List.take_append_of_le_length (by lia),List.take_of_length_le (by lia)] at hp
   exact hF rfl p hp
  ·simp_arith only [g5]
   subst hK
   exact a99 hn S7 (by decide) q
noncomputable def bb3:Ctr:=fun vs _ Q _=>∃ ns:List Int,vs=[.scr ns]∧ns.length≤1000∧∀ H',Q (.bool true) H'
theorem bL9:∀ vs H Q X,bb3 vs H Q X→v8 Θv f_law vs H Q X:=by
 rintro vs H Q X ⟨ns,rfl,hn,q⟩
 refine i9 rfl ?_
 change j1 Θv f_law.body [some (.scr ns),none,none,none,none,none,none,none,none,none,none,none,none,none] H _ _
 refine d7 ?_
 simp_arith only [↓aD3,↓C3,↓ce2]
 refine ⟨hn,_,rfl,fun far H1 p1 hf=>?_⟩
 refine j3 ?_
 refine d7 ?_
 simp_arith only [↓aD3,↓C3]
 refine ⟨hn,?_⟩
 refine ⟨fun h=>⟨hn,bd4 hn hf (fun _=>h) q⟩,fun h=>bd4 hn hf (fun e=>of_decide_eq_true e) q⟩
end Mine
namespace Mine
open PySem
noncomputable def G10:List (Str × V):=("FOUR_YEARS",.int 1461)::("BEFORE_YEAR",.tup [.int 0,.int 366,.int 731,.int 1096])::("MONTHS",.tup [.int 31,.int 28,.int 31,.int 30,.int 31,.int 30,.int 31,.int 31,.int 30,.int 31,.int 30,.int 31])::("TIMES",.int 1000000000000)::("DAYS",.int 100000000000)::("LONGEST",.int 48)::("MOST_STEP",.int 1000000)::("DEEPEST",.int 8)::("OUTER",.tup [.str "from",.str "until",.str "also",.str "but"])::("LETTERS",.str "abcdefghijklmnopqrstuvwxyz")::("LONGEST_NAME",.int 12)::("MOST_RULES",.int 20)::("MOST_STRETCH",.int 10000)::("isinstance",.bi .isinstance)::("len",.bi .len)::("any",.bi .any)::("all",.bi .all)::("max",.bi .max)::("min",.bi .min)::("repr",.bi .repr)::("int",.ty .int)::("bool",.ty .bool)::("str",.ty .str)::("tuple",.ty .tuple)::("list",.ty .list)::("range",.ty .range)::("reversed",.ty .reversed)::("Book",.bk)::("HourError",.cls "HourError" ["HourError","ValueError"])::("NoRule",.cls "NoRule" ["NoRule","HourError","ValueError"])::("NoName",.cls "NoName" ["NoName","HourError","ValueError"])::("Taken",.cls "Taken" ["Taken","HourError","ValueError"])::("Stranger",.cls "Stranger" ["Stranger","HourError","ValueError"])::("Twice",.cls "Twice" ["Twice","HourError","ValueError"])::("NoTime",.cls "NoTime" ["NoTime","HourError","ValueError"])::("NoMeeting",.cls "NoMeeting" ["NoMeeting","HourError","ValueError"])::("Clash",.cls "Clash" ["Clash","HourError","ValueError"])::("_wall",.fn "_wall")::("is_whole",.fn "is_whole")::("month_length",.fn "month_length")::("date_of",.fn "date_of")::("from_end",.fn "from_end")::("is_between",.fn "is_between")::("is_time",.fn "is_time")::("are_rising",.fn "are_rising")::("is_plain",.fn "is_plain")::("is_rule",.fn "is_rule")::("innermost",.fn "innermost")::("length_of",.fn "length_of")::("begins_plain",.fn "begins_plain")::("begins",.fn "begins")::("covers",.fn "covers")::("is_name",.fn "is_name")::("some_covers",.fn "some_covers")::("need_stretch",.fn "need_stretch")::("_law_cell_at",.fn "_law_cell_at")::("_law_whole",.fn "_law_whole")::("_law_days",.fn "_law_days")::("_law_in_month",.fn "_law_in_month")::("_law_plain_begins",.fn "_law_plain_begins")::("_law_bearing",.fn "_law_bearing")::("_law_heads",.fn "_law_heads")::("_law_begun",.fn "_law_begun")::("_law_size",.fn "_law_size")::("_law_weekdays",.fn "_law_weekdays")::("_law_plain_by",.fn "_law_plain_by")::("_law_head_by",.fn "_law_head_by")::("_law_far",.fn "_law_far")::("_law_name_by",.fn "_law_name_by")::("_law_free_by",.fn "_law_free_by")::("_law_people_by",.fn "_law_people_by")::("_law_book_of",.fn "_law_book_of")::("_law_flags",.fn "_law_flags")::("_law_open_hours",.fn "_law_open_hours")::("_law_first",.fn "_law_first")::("_law_put",.fn "_law_put")::("_law_meet",.fn "_law_meet")::("_law_refused",.fn "_law_refused")::("_law_at",.fn "_law_at")::("_law_dropped",.fn "_law_dropped")::("_law_moved",.fn "_law_moved")::("_law_busier",.fn "_law_busier")::("_law_filled",.fn "_law_filled")::("_law_cast",.fn "_law_cast")::("_law_deed",.fn "_law_deed")::("_law_stands",.fn "_law_stands")::[]
noncomputable def g6:List Str:="need_somebody"::"meets_at"::"free_at"::"need_all"::"is_free"::"bar"::"look"::"first"::"meetings"::"meet"::"come"::"busy"::"place_of"::"drop"::"move"::[]
noncomputable def ΦL10:Orc:=ext "law" bb3 Θv
end Mine

open PySem PySem.W PyProof.Rows Mine
namespace Mine.Hd
set_option maxRecDepth 100000
def bV9 (tb:String→Option Builtin)(p:Program)(w:World)(n₀:Nat)(ann:Option Value):Nat→SharedT→Thread→Option SharedT
 | 0,_,_=>none
 | n+1,s,t=>match through t with
  | true=>some s
  | false=>match stepOk n₀ ann t with
   | false=>none
   | true=>match stepT (denote tb) p w s t with
    | some (s',t')=>bV9 tb p w n₀ ann n s' t'
    | none=>none
theorem bv9 {tb:String→Option Builtin}{p:Program}{w:World}{n₀:Nat}{ann:Option Value}:∀ {n:Nat} {s s':SharedT} {t:Thread},bV9 tb p w n₀ ann n s t=some s'→topRun tb p w n₀ ann n s.abs t=some s'.abs
 | 0,_,_,_,h=>by cases h
 | n+1,s,s',t,h=>by
  unfold bV9 at h
  unfold topRun
  cases ht:through t with
  | true=>rw [ht] at h;cases h;rfl
  | false =>
   rw [ht] at h
   cases hk:stepOk n₀ ann t with
   | false=>rw [hk] at h;cases h
   | true =>
    rw [hk] at h
    cases hs:stepT (denote tb) p w s t with
    | none=>rw [hs] at h;cases h
    | some r=>obtain ⟨s₂,t₂⟩:=r;rw [hs] at h;rw [stepT_spec hs];exact bv9 h
def bu1:List Obj→Nat→BT→BT
 | [],_,t=>t
 | o::os,n,t=>bu1 os (n+1) (t.ins n o)
noncomputable def cr6 (P:Params):BT:=bu1 (boot_heap P).objs.toList 0 .nil
noncomputable abbrev P10:Program:=RowW.prog (OpenRow.toRowW Challenge.rw_uf010016_12.row)
noncomputable def b10:List Stmt:=behindTheImports P10
noncomputable def y8 (i:Nat):Stmt:=(b10[i]?).getD (.Pass default)
def bd7:Stmt→Arguments
 | .FunctionDef _ a ..=>a
 | _=>default
def aU5:Stmt→List Stmt
 | .FunctionDef _ _ b ..=>b
 | .ClassDef _ _ _ b ..=>b
 | _=>default
def aQ0:Stmt→Scope
 | .FunctionDef _ _ _ _ _ _ s ..=>s
 | _=>default
noncomputable def ao9 (i j:Nat):Stmt:=((aU5 (y8 i))[j]?).getD (.Pass default)
noncomputable def aO7:Env:={ scope:=P10.main.scope,locals:=mainNs,globals:=mainNs,cells:=[],code:=.ref 13,frame:=some 14 }
noncomputable def c10:Code:=.body b10 aO7
def a01:Pos:={ line:=0,col:=0,endLine:=0,endCol:=0 }
def shT (l:List Obj)(n k:Nat)(os:OsState):SharedT:=⟨bu1 l 0 .nil,n,{},#[],{},k,os⟩
def vs (s:String)(n:Nat):Value:=.str (Str.ofString s) n
noncomputable def fnO (n q:String)(st:Stmt):Obj:={ cls:=.none,data:=.func { name:=Str.ofString n,qualname:=Str.ofString q,params:=bd7 st,body:=FuncBody.stmts (aU5 st),scope:=aQ0 st,globals:=0,closure:=[],defaults:=.none,kwdefaults:=.none } }
def tuO (a:Array Value):Obj:={ cls:=.type "tuple",data:=.seq a }
def coO (a:Array Value):Obj:={ cls:=.type "code",data:=.fields a }
abbrev cut:String:="/claim/cut.py"
abbrev sm {α:Type}(a:α):Option α:=some a
abbrev nn {α:Type}:Option α:=none
abbrev tt:Bool:=true
abbrev ff:Bool:=false
noncomputable def de (P:Params)(k:String)(n:Nat)(v:Value):DictEntry:=⟨PyData.keyHash P (Str.ofString k),.str (Str.ofString k) n,v⟩
theorem o1:opening P10=plainProg P10.main.scope.names:=by kernel_rfl
theorem o2:∀ s,fenceModules? P10 s=some s:=by intro s;kernel_rfl
theorem cp2 (w:World):((boot_heap w.params).isNs mainGlobals&&(Array.mk ([]:List GenState)).size==0,(boot_heap w.params).objs.size,(boot_heap w.params).nsMap mainGlobals "__annotations__")=(true,11,some (.ref 6)):=by kernel_rfl
noncomputable def fuO (n q:String)(st:Stmt)(m:Value)(c:Nat):Obj:={ cls:=.type "function",data:=.func { name:=Str.ofString n,qualname:=Str.ofString q,params:=bd7 st,body:=FuncBody.stmts (aU5 st),scope:=aQ0 st,globals:=3,closure:=[],defaults:=.none,kwdefaults:=.none,pyModule:=m,code:=.ref c } }
def nv:Nat→List String→List Value
 | _,[]=>[]
 | k,x::r=>vs x k::nv (k+1) r
noncomputable def gF (n q:String)(st:Stmt)(m:Value)(a b:Nat)(ln np:Int)(vn:List String)(tl:List Obj):List Obj:=tuO #[]::{ cls:=.none,data:=.fields #[] }::tuO ⟨nv (a+3) vn⟩::tuO #[]::fnO n q st::coO #[vs n a,vs q (a+1),vs cut (a+2),.int ln 0,.int np 0,.int 0 0,.int 0 0,.int 3 0,.ref b,.bool tt,.int 181 0,.ref (b+1),.none,.ref (b+2),.ref (b+3),.ref (b+4),.int (a+3+vn.length:Nat) 0,.int ln 0,vs cut (a+4+vn.length)]::fuO n q st m (b+5)::tl
noncomputable abbrev gf (n:String):=gF n n
noncomputable abbrev ap (a b:List Obj):=a++b
def m0:Value:=vs "__main__" 164
def m1:Value:=vs "freehour.dates" 342
def m2:Value:=vs "freehour.rules" 398
def m3:Value:=vs "freehour.book" 503
def m4:Value:=vs "law_uf010016_12" 761
noncomputable def SA (P:Params):List Obj:=[boot_o_0 P,boot_o_1 P,boot_o_2 P,boot_o_3 P,boot_o_4 P,boot_o_5 P,boot_o_6 P,boot_o_7 P,boot_o_8 P,boot_o_9 P,boot_o_10 P,tuO #[],{ cls:=.none,data:=.fields #[] },coO #[vs "<module>" 182,vs "<module>" 183,vs cut 184,.int 1 0,.int 0 0,.int 0 0,.int 0 0,.int 0 0,.ref 11,.bool ff,.int 181 0,.ref 12,.none,.none,.none,.none,.int 185 0,.int 1 0,vs cut 186],{ cls:=.type "frame",slots:=#[sm (.ref 13),sm (.ref 3),sm (.ref 3),nn,sm (vs "__main__" 164),nn,sm (.ref 0)] }]
noncomputable def M9 (P:Params):List Obj:=gf "_wall" (y8 0) m0 187 15 1 1 ["k"] <| [tuO #[.type "ValueError"],{ cls:=.type "builtin_function_or_method",data:=.fields #[.builtin "type.__prepare__",.type "type"] },{ cls:=.type "dict",data:=.dict #[de P "__module__" 203 (vs "freehour.errors" 194),de P "__qualname__" 205 (vs "HourError" 204),de P "__firstlineno__" 207 (.int 5 206),de P "__static_attributes__" 208 (.ref 29)] 4 },tuO #[],{ cls:=.none,data:=.fields #[] },coO #[vs "HourError" 198,vs "HourError" 199,vs cut 200,.int 5 0,.int 0 0,.int 0 0,.int 0 0,.int 0 0,.ref 25,.bool ff,.int 181 0,.ref 26,.none,.none,.none,.none,.int 201 0,.int 5 0,vs cut 202],{ cls:=.type "frame",slots:=#[sm (.ref 27),sm (.ref 3),sm (.ref 24),nn,sm (vs "freehour.errors" 194),nn,sm (.ref 0)] },tuO #[],{ cls:=.type "dict",data:=.dict #[de P "__module__" 203 (vs "freehour.errors" 194),de P "__firstlineno__" 207 (.int 5 206),de P "__static_attributes__" 208 (.ref 29),de P "__weakref__" 210 (.ref 32),de P "__doc__" 211 (.none)] 3 },{ cls:=.type "type",data:=.cls { name:=Str.ofString "HourError",bases:=[.type "ValueError"],mro:=[.ref 31,.type "ValueError",.type "Exception",.type "BaseException",.type "object"],ns:=30,qualname:=Str.ofString "HourError",subclasses:=[.ref 44,.ref 56,.ref 68,.ref 80,.ref 92,.ref 104,.ref 116,.ref 128] },slots:=#[sm (.ref 22),nn,sm (vs "HourError" 196),sm (vs "HourError" 204),sm (.builtin "ValueError.__new__"),sm (.bool tt)] },{ cls:=.type "getset_descriptor",data:=.fields #[vs "__weakref__" 209,.ref 31,.builtin "ExceptionGroup.__weakref__",.none] },{ cls:=.type "super",data:=.fields #[.ref 31,.ref 31,.ref 31] },{ cls:=.type "builtin_function_or_method",data:=.fields #[.builtin "object.__init_subclass__",.ref 31] },tuO #[.ref 31],{ cls:=.type "builtin_function_or_method",data:=.fields #[.builtin "type.__prepare__",.type "type"] },{ cls:=.type "dict",data:=.dict #[de P "__module__" 221 (vs "freehour.errors" 194),de P "__qualname__" 223 (vs "NoRule" 222),de P "__firstlineno__" 225 (.int 7 224),de P "__static_attributes__" 226 (.ref 42)] 4 },tuO #[],{ cls:=.none,data:=.fields #[] },coO #[vs "NoRule" 216,vs "NoRule" 217,vs cut 218,.int 7 0,.int 0 0,.int 0 0,.int 0 0,.int 0 0,.ref 38,.bool ff,.int 181 0,.ref 39,.none,.none,.none,.none,.int 219 0,.int 7 0,vs cut 220],{ cls:=.type "frame",slots:=#[sm (.ref 40),sm (.ref 3),sm (.ref 37),nn,sm (vs "freehour.errors" 194),nn,sm (.ref 0)] },tuO #[],{ cls:=.type "dict",data:=.dict #[de P "__module__" 221 (vs "freehour.errors" 194),de P "__firstlineno__" 225 (.int 7 224),de P "__static_attributes__" 226 (.ref 42),de P "__doc__" 227 (.none)] 2 },{ cls:=.type "type",data:=.cls { name:=Str.ofString "NoRule",bases:=[.ref 31],mro:=[.ref 44,.ref 31,.type "ValueError",.type "Exception",.type "BaseException",.type "object"],ns:=43,qualname:=Str.ofString "NoRule" },slots:=#[sm (.ref 35),nn,sm (vs "NoRule" 214),sm (vs "NoRule" 222),sm (.builtin "ValueError.__new__"),sm (.bool tt)] },{ cls:=.type "super",data:=.fields #[.ref 44,.ref 44,.ref 44] },{ cls:=.type "builtin_function_or_method",data:=.fields #[.builtin "object.__init_subclass__",.ref 44] },tuO #[.ref 31],{ cls:=.type "builtin_function_or_method",data:=.fields #[.builtin "type.__prepare__",.type "type"] },{ cls:=.type "dict",data:=.dict #[de P "__module__" 237 (vs "freehour.errors" 194),de P "__qualname__" 239 (vs "NoName" 238),de P "__firstlineno__" 241 (.int 9 240),de P "__static_attributes__" 242 (.ref 54)] 4 },tuO #[],{ cls:=.none,data:=.fields #[] },coO #[vs "NoName" 232,vs "NoName" 233,vs cut 234,.int 9 0,.int 0 0,.int 0 0,.int 0 0,.int 0 0,.ref 50,.bool ff,.int 181 0,.ref 51,.none,.none,.none,.none,.int 235 0,.int 9 0,vs cut 236],{ cls:=.type "frame",slots:=#[sm (.ref 52),sm (.ref 3),sm (.ref 49),nn,sm (vs "freehour.errors" 194),nn,sm (.ref 0)] },tuO #[],{ cls:=.type "dict",data:=.dict #[de P "__module__" 237 (vs "freehour.errors" 194),de P "__firstlineno__" 241 (.int 9 240),de P "__static_attributes__" 242 (.ref 54),de P "__doc__" 243 (.none)] 2 },{ cls:=.type "type",data:=.cls { name:=Str.ofString "NoName",bases:=[.ref 31],mro:=[.ref 56,.ref 31,.type "ValueError",.type "Exception",.type "BaseException",.type "object"],ns:=55,qualname:=Str.ofString "NoName" },slots:=#[sm (.ref 47),nn,sm (vs "NoName" 230),sm (vs "NoName" 238),sm (.builtin "ValueError.__new__"),sm (.bool tt)] },{ cls:=.type "super",data:=.fields #[.ref 56,.ref 56,.ref 56] },{ cls:=.type "builtin_function_or_method",data:=.fields #[.builtin "object.__init_subclass__",.ref 56] },tuO #[.ref 31],{ cls:=.type "builtin_function_or_method",data:=.fields #[.builtin "type.__prepare__",.type "type"] },{ cls:=.type "dict",data:=.dict #[de P "__module__" 253 (vs "freehour.errors" 194),de P "__qualname__" 255 (vs "Taken" 254),de P "__firstlineno__" 257 (.int 11 256),de P "__static_attributes__" 258 (.ref 66)] 4 },tuO #[],{ cls:=.none,data:=.fields #[] },coO #[vs "Taken" 248,vs "Taken" 249,vs cut 250,.int 11 0,.int 0 0,.int 0 0,.int 0 0,.int 0 0,.ref 62,.bool ff,.int 181 0,.ref 63,.none,.none,.none,.none,.int 251 0,.int 11 0,vs cut 252],{ cls:=.type "frame",slots:=#[sm (.ref 64),sm (.ref 3),sm (.ref 61),nn,sm (vs "freehour.errors" 194),nn,sm (.ref 0)] },tuO #[],{ cls:=.type "dict",data:=.dict #[de P "__module__" 253 (vs "freehour.errors" 194),de P "__firstlineno__" 257 (.int 11 256),de P "__static_attributes__" 258 (.ref 66),de P "__doc__" 259 (.none)] 2 },{ cls:=.type "type",data:=.cls { name:=Str.ofString "Taken",bases:=[.ref 31],mro:=[.ref 68,.ref 31,.type "ValueError",.type "Exception",.type "BaseException",.type "object"],ns:=67,qualname:=Str.ofString "Taken" },slots:=#[sm (.ref 59),nn,sm (vs "Taken" 246),sm (vs "Taken" 254),sm (.builtin "ValueError.__new__"),sm (.bool tt)] },{ cls:=.type "super",data:=.fields #[.ref 68,.ref 68,.ref 68] },{ cls:=.type "builtin_function_or_method",data:=.fields #[.builtin "object.__init_subclass__",.ref 68] },tuO #[.ref 31],{ cls:=.type "builtin_function_or_method",data:=.fields #[.builtin "type.__prepare__",.type "type"] },{ cls:=.type "dict",data:=.dict #[de P "__module__" 269 (vs "freehour.errors" 194),de P "__qualname__" 271 (vs "Stranger" 270),de P "__firstlineno__" 273 (.int 13 272),de P "__static_attributes__" 274 (.ref 78)] 4 },tuO #[],{ cls:=.none,data:=.fields #[] },coO #[vs "Stranger" 264,vs "Stranger" 265,vs cut 266,.int 13 0,.int 0 0,.int 0 0,.int 0 0,.int 0 0,.ref 74,.bool ff,.int 181 0,.ref 75,.none,.none,.none,.none,.int 267 0,.int 13 0,vs cut 268],{ cls:=.type "frame",slots:=#[sm (.ref 76),sm (.ref 3),sm (.ref 73),nn,sm (vs "freehour.errors" 194),nn,sm (.ref 0)] },tuO #[],{ cls:=.type "dict",data:=.dict #[de P "__module__" 269 (vs "freehour.errors" 194),de P "__firstlineno__" 273 (.int 13 272),de P "__static_attributes__" 274 (.ref 78),de P "__doc__" 275 (.none)] 2 },{ cls:=.type "type",data:=.cls { name:=Str.ofString "Stranger",bases:=[.ref 31],mro:=[.ref 80,.ref 31,.type "ValueError",.type "Exception",.type "BaseException",.type "object"],ns:=79,qualname:=Str.ofString "Stranger" },slots:=#[sm (.ref 71),nn,sm (vs "Stranger" 262),sm (vs "Stranger" 270),sm (.builtin "ValueError.__new__"),sm (.bool tt)] },{ cls:=.type "super",data:=.fields #[.ref 80,.ref 80,.ref 80] },{ cls:=.type "builtin_function_or_method",data:=.fields #[.builtin "object.__init_subclass__",.ref 80] },tuO #[.ref 31],{ cls:=.type "builtin_function_or_method",data:=.fields #[.builtin "type.__prepare__",.type "type"] },{ cls:=.type "dict",data:=.dict #[de P "__module__" 285 (vs "freehour.errors" 194),de P "__qualname__" 287 (vs "Twice" 286),de P "__firstlineno__" 289 (.int 15 288),de P "__static_attributes__" 290 (.ref 90)] 4 },tuO #[],{ cls:=.none,data:=.fields #[] },coO #[vs "Twice" 280,vs "Twice" 281,vs cut 282,.int 15 0,.int 0 0,.int 0 0,.int 0 0,.int 0 0,.ref 86,.bool ff,.int 181 0,.ref 87,.none,.none,.none,.none,.int 283 0,.int 15 0,vs cut 284],{ cls:=.type "frame",slots:=#[sm (.ref 88),sm (.ref 3),sm (.ref 85),nn,sm (vs "freehour.errors" 194),nn,sm (.ref 0)] },tuO #[],{ cls:=.type "dict",data:=.dict #[de P "__module__" 285 (vs "freehour.errors" 194),de P "__firstlineno__" 289 (.int 15 288),de P "__static_attributes__" 290 (.ref 90),de P "__doc__" 291 (.none)] 2 },{ cls:=.type "type",data:=.cls { name:=Str.ofString "Twice",bases:=[.ref 31],mro:=[.ref 92,.ref 31,.type "ValueError",.type "Exception",.type "BaseException",.type "object"],ns:=91,qualname:=Str.ofString "Twice" },slots:=#[sm (.ref 83),nn,sm (vs "Twice" 278),sm (vs "Twice" 286),sm (.builtin "ValueError.__new__"),sm (.bool tt)] },{ cls:=.type "super",data:=.fields #[.ref 92,.ref 92,.ref 92] },{ cls:=.type "builtin_function_or_method",data:=.fields #[.builtin "object.__init_subclass__",.ref 92] },tuO #[.ref 31],{ cls:=.type "builtin_function_or_method",data:=.fields #[.builtin "type.__prepare__",.type "type"] },{ cls:=.type "dict",data:=.dict #[de P "__module__" 301 (vs "freehour.errors" 194),de P "__qualname__" 303 (vs "NoTime" 302),de P "__firstlineno__" 305 (.int 17 304),de P "__static_attributes__" 306 (.ref 102)] 4 },tuO #[],{ cls:=.none,data:=.fields #[] },coO #[vs "NoTime" 296,vs "NoTime" 297,vs cut 298,.int 17 0,.int 0 0,.int 0 0,.int 0 0,.int 0 0,.ref 98,.bool ff,.int 181 0,.ref 99,.none,.none,.none,.none,.int 299 0,.int 17 0,vs cut 300],{ cls:=.type "frame",slots:=#[sm (.ref 100),sm (.ref 3),sm (.ref 97),nn,sm (vs "freehour.errors" 194),nn,sm (.ref 0)] },tuO #[],{ cls:=.type "dict",data:=.dict #[de P "__module__" 301 (vs "freehour.errors" 194),de P "__firstlineno__" 305 (.int 17 304),de P "__static_attributes__" 306 (.ref 102),de P "__doc__" 307 (.none)] 2 },{ cls:=.type "type",data:=.cls { name:=Str.ofString "NoTime",bases:=[.ref 31],mro:=[.ref 104,.ref 31,.type "ValueError",.type "Exception",.type "BaseException",.type "object"],ns:=103,qualname:=Str.ofString "NoTime" },slots:=#[sm (.ref 95),nn,sm (vs "NoTime" 294),sm (vs "NoTime" 302),sm (.builtin "ValueError.__new__"),sm (.bool tt)] },{ cls:=.type "super",data:=.fields #[.ref 104,.ref 104,.ref 104] },{ cls:=.type "builtin_function_or_method",data:=.fields #[.builtin "object.__init_subclass__",.ref 104] },tuO #[.ref 31],{ cls:=.type "builtin_function_or_method",data:=.fields #[.builtin "type.__prepare__",.type "type"] },{ cls:=.type "dict",data:=.dict #[de P "__module__" 317 (vs "freehour.errors" 194),de P "__qualname__" 319 (vs "NoMeeting" 318),de P "__firstlineno__" 321 (.int 19 320),de P "__static_attributes__" 322 (.ref 114)] 4 },tuO #[],{ cls:=.none,data:=.fields #[] },coO #[vs "NoMeeting" 312,vs "NoMeeting" 313,vs cut 314,.int 19 0,.int 0 0,.int 0 0,.int 0 0,.int 0 0,.ref 110,.bool ff,.int 181 0,.ref 111,.none,.none,.none,.none,.int 315 0,.int 19 0,vs cut 316],{ cls:=.type "frame",slots:=#[sm (.ref 112),sm (.ref 3),sm (.ref 109),nn,sm (vs "freehour.errors" 194),nn,sm (.ref 0)] },tuO #[],{ cls:=.type "dict",data:=.dict #[de P "__module__" 317 (vs "freehour.errors" 194),de P "__firstlineno__" 321 (.int 19 320),de P "__static_attributes__" 322 (.ref 114),de P "__doc__" 323 (.none)] 2 },{ cls:=.type "type",data:=.cls { name:=Str.ofString "NoMeeting",bases:=[.ref 31],mro:=[.ref 116,.ref 31,.type "ValueError",.type "Exception",.type "BaseException",.type "object"],ns:=115,qualname:=Str.ofString "NoMeeting" },slots:=#[sm (.ref 107),nn,sm (vs "NoMeeting" 310),sm (vs "NoMeeting" 318),sm (.builtin "ValueError.__new__"),sm (.bool tt)] },{ cls:=.type "super",data:=.fields #[.ref 116,.ref 116,.ref 116] },{ cls:=.type "builtin_function_or_method",data:=.fields #[.builtin "object.__init_subclass__",.ref 116] },tuO #[.ref 31],{ cls:=.type "builtin_function_or_method",data:=.fields #[.builtin "type.__prepare__",.type "type"] },{ cls:=.type "dict",data:=.dict #[de P "__module__" 333 (vs "freehour.errors" 194),de P "__qualname__" 335 (vs "Clash" 334),de P "__firstlineno__" 337 (.int 21 336),de P "__static_attributes__" 338 (.ref 126)] 4 },tuO #[],{ cls:=.none,data:=.fields #[] },coO #[vs "Clash" 328,vs "Clash" 329,vs cut 330,.int 21 0,.int 0 0,.int 0 0,.int 0 0,.int 0 0,.ref 122,.bool ff,.int 181 0,.ref 123,.none,.none,.none,.none,.int 331 0,.int 21 0,vs cut 332],{ cls:=.type "frame",slots:=#[sm (.ref 124),sm (.ref 3),sm (.ref 121),nn,sm (vs "freehour.errors" 194),nn,sm (.ref 0)] },tuO #[],{ cls:=.type "dict",data:=.dict #[de P "__module__" 333 (vs "freehour.errors" 194),de P "__firstlineno__" 337 (.int 21 336),de P "__static_attributes__" 338 (.ref 126),de P "__doc__" 339 (.none)] 2 },{ cls:=.type "type",data:=.cls { name:=Str.ofString "Clash",bases:=[.ref 31],mro:=[.ref 128,.ref 31,.type "ValueError",.type "Exception",.type "BaseException",.type "object"],ns:=127,qualname:=Str.ofString "Clash" },slots:=#[sm (.ref 119),nn,sm (vs "Clash" 326),sm (vs "Clash" 334),sm (.builtin "ValueError.__new__"),sm (.bool tt)] },{ cls:=.type "super",data:=.fields #[.ref 128,.ref 128,.ref 128] },{ cls:=.type "builtin_function_or_method",data:=.fields #[.builtin "object.__init_subclass__",.ref 128] }]
noncomputable def M42 (P:Params):List Obj:=ap [tuO #[.int 0 346,.int 366 347,.int 731 348,.int 1096 349],tuO #[.int 31 351,.int 28 352,.int 31 353,.int 30 354,.int 31 355,.int 30 356,.int 31 357,.int 31 358,.int 30 359,.int 31 360,.int 30 361,.int 31 362]] <| gf "is_whole" (y8 15) m1 364 133 27 1 ["thing"] <| gf "month_length" (y8 16) m1 371 140 29 2 ["year","month"] <| gf "date_of" (y8 17) m1 379 147 33 1 ["day","rest","place","year","month"] <| gf "from_end" (y8 18) m1 390 154 45 1 ["day","date"] <| ap [tuO #[vs "from" 414,vs "until" 415,vs "also" 416,vs "but" 417]] <| gf "is_between" (y8 26) m2 419 162 55 3 ["thing","least","most"] <| gf "is_time" (y8 27) m2 428 169 57 1 ["thing"] <| gf "are_rising" (y8 28) m2 435 176 59 3 ["thing","many","most","ahead","number"] <| gf "is_plain" (y8 29) m2 446 183 68 1 ["thing","word"] <| gf "is_rule" (y8 30) m2 454 190 81 1 ["thing","deep"] <| gf "innermost" (y8 31) m2 462 197 95 1 ["rule"] <| gf "length_of" (y8 32) m2 469 204 99 1 ["rule","inner"] <| gf "begins_plain" (y8 33) m2 477 211 104 2 ["rule","hour","day"] <| gf "begins" (y8 34) m2 486 218 117 2 ["rule","hour"] <| gf "covers" (y8 35) m2 494 225 131 2 ["rule","hour","back"] <| gf "is_name" (y8 41) m3 513 232 143 1 ["thing","sign"] <| gf "some_covers" (y8 42) m3 521 239 150 2 ["rules","hour","rule"] <| gf "need_stretch" (y8 43) m3 530 246 155 3 ["hours","start","end"] <| []
noncomputable def M67 (P:Params):List Obj:=ap [tuO #[],{ cls:=.type "builtin_function_or_method",data:=.fields #[.builtin "type.__prepare__",.type "type"] },{ cls:=.type "dict",data:=.dict #[de P "__module__" 546 (vs "freehour.book" 503),de P "__qualname__" 548 (vs "Book" 547),de P "__firstlineno__" 550 (.int 160 549),de P "__init__" 557 (.ref 266),de P "come" 567 (.ref 273),de P "need_somebody" 575 (.ref 280),de P "busy" 586 (.ref 287),de P "people" 593 (.ref 294),de P "meets_at" 604 (.ref 301),de P "free_at" 614 (.ref 308),de P "is_free" 623 (.ref 315),de P "need_all" 632 (.ref 322),de P "bar" 646 (.ref 329),de P "look" 660 (.ref 336),de P "first" 671 (.ref 343),de P "meet" 683 (.ref 350),de P "meetings" 690 (.ref 357),de P "place_of" 699 (.ref 364),de P "drop" 708 (.ref 371),de P "move" 721 (.ref 378),de P "rules_of" 729 (.ref 385),de P "quiet_from" 737 (.ref 392),de P "ever" 747 (.ref 399),de P "__static_attributes__" 753 (.ref 400)] 24 },tuO #[],{ cls:=.none,data:=.fields #[.int 162 0,.int 4 0,.ref 265,.int 169 0,.int 4 0,.ref 272,.int 183 0,.int 4 0,.ref 279,.int 187 0,.int 4 0,.ref 286,.int 198 0,.int 4 0,.ref 293,.int 201 0,.int 4 0,.ref 300,.int 207 0,.int 4 0,.ref 307,.int 212 0,.int 4 0,.ref 314,.int 216 0,.int 4 0,.ref 321,.int 225 0,.int 4 0,.ref 328,.int 233 0,.int 4 0,.ref 335,.int 243 0,.int 4 0,.ref 342,.int 248 0,.int 4 0,.ref 349,.int 256 0,.int 4 0,.ref 356,.int 259 0,.int 4 0,.ref 363,.int 266 0,.int 4 0,.ref 370,.int 270 0,.int 4 0,.ref 377,.int 279 0,.int 4 0,.ref 384,.int 282 0,.int 4 0,.ref 391,.int 285 0,.int 4 0,.ref 398] },coO #[vs "Book" 541,vs "Book" 542,vs cut 543,.int 160 0,.int 0 0,.int 0 0,.int 0 0,.int 0 0,.ref 256,.bool ff,.int 181 0,.ref 257,.none,.none,.none,.none,.int 544 0,.int 160 0,vs cut 545],{ cls:=.type "frame",slots:=#[sm (.ref 258),sm (.ref 3),sm (.ref 255),nn,sm (vs "freehour.book" 503),nn,sm (.ref 0)] }] <| gF "__init__" "Book.__init__" (ao9 44 0) m3 551 260 162 1 ["self"] <| gF "come" "Book.come" (ao9 44 1) m3 558 267 169 3 ["self","name","free","rule"] <| gF "need_somebody" "Book.need_somebody" (ao9 44 2) m3 568 274 183 2 ["self","name"] <| gF "busy" "Book.busy" (ao9 44 3) m3 576 281 187 3 ["self","name","rule","meeting","back"] <| gF "people" "Book.people" (ao9 44 4) m3 587 288 198 1 ["self"] <| gF "meets_at" "Book.meets_at" (ao9 44 5) m3 594 295 201 4 ["self","name","hour","but","meeting"] <| gF "free_at" "Book.free_at" (ao9 44 6) m3 605 302 207 4 ["self","name","hour","but"] <| gF "is_free" "Book.is_free" (ao9 44 7) m3 615 309 212 3 ["self","name","hour"] <| gF "need_all" "Book.need_all" (ao9 44 8) m3 624 316 216 2 ["self","names","name"] <| gF "bar" "Book.bar" (ao9 44 9) m3 633 323 225 5 ["self","names","hours","at","but","back","hour","name"] <| gF "look" "Book.look" (ao9 44 10) m3 647 330 233 6 ["self","names","hours","at","last","but","rows","found"] <| gF "first" "Book.first" (ao9 44 11) m3 661 337 243 5 ["self","names","hours","start","end"] <| gF "meet" "Book.meet" (ao9 44 12) m3 672 344 248 5 ["self","names","hours","start","end","hour"] <| gF "meetings" "Book.meetings" (ao9 44 13) m3 684 351 256 1 ["self"] <| gF "place_of" "Book.place_of" (ao9 44 14) m3 691 358 259 2 ["self","number","place"] <| gF "drop" "Book.drop" (ao9 44 15) m3 700 365 266 2 ["self","number","place"] <| gF "move" "Book.move" (ao9 44 16) m3 709 372 270 4 ["self","number","start","end","place","meeting","hour"] <| gF "rules_of" "Book.rules_of" (ao9 44 17) m3 722 379 279 2 ["self","names"] <| gF "quiet_from" "Book.quiet_from" (ao9 44 18) m3 730 386 282 2 ["self","names"] <| gF "ever" "Book.ever" (ao9 44 19) m3 738 393 285 4 ["self","names","hours","start"] <| ap [tuO #[vs "busy_rules" 748,vs "free_rules" 749,vs "given" 750,vs "held" 751,vs "names" 752],{ cls:=.type "dict",data:=.dict #[de P "__module__" 546 (vs "freehour.book" 503),de P "__firstlineno__" 550 (.int 160 549),de P "__init__" 557 (.ref 266),de P "come" 567 (.ref 273),de P "need_somebody" 575 (.ref 280),de P "busy" 586 (.ref 287),de P "people" 593 (.ref 294),de P "meets_at" 604 (.ref 301),de P "free_at" 614 (.ref 308),de P "is_free" 623 (.ref 315),de P "need_all" 632 (.ref 322),de P "bar" 646 (.ref 329),de P "look" 660 (.ref 336),de P "first" 671 (.ref 343),de P "meet" 683 (.ref 350),de P "meetings" 690 (.ref 357),de P "place_of" 699 (.ref 364),de P "drop" 708 (.ref 371),de P "move" 721 (.ref 378),de P "rules_of" 729 (.ref 385),de P "quiet_from" 737 (.ref 392),de P "ever" 747 (.ref 399),de P "__static_attributes__" 753 (.ref 400),de P "__dict__" 755 (.ref 403),de P "__weakref__" 757 (.ref 404),de P "__doc__" 758 (.none)] 4 },{ cls:=.type "type",data:=.cls { name:=Str.ofString "Book",bases:=[.type "object"],mro:=[.ref 402,.type "object"],ns:=401,qualname:=Str.ofString "Book" },slots:=#[nn,nn,sm (vs "Book" 539),sm (vs "Book" 547),sm (.builtin "object.__new__"),sm (.bool tt)] },{ cls:=.type "getset_descriptor",data:=.fields #[vs "__dict__" 754,.ref 402,.builtin "function.__dict__",.builtin "function.__dict__#set"] },{ cls:=.type "getset_descriptor",data:=.fields #[vs "__weakref__" 756,.ref 402,.builtin "ExceptionGroup.__weakref__",.none] },{ cls:=.type "super",data:=.fields #[.ref 402,.ref 402,.ref 402] },{ cls:=.type "builtin_function_or_method",data:=.fields #[.builtin "object.__init_subclass__",.ref 402] }] <| gf "_law_cell_at" (y8 46) m4 763 407 288 2 ["_law_script","_law_k"] <| gf "_law_whole" (y8 47) m4 771 414 292 1 ["_law_found"] <| gf "_law_days" (y8 48) m4 778 421 294 2 ["_law_year","_law_month","_law_sizes"] <| gf "_law_in_month" (y8 49) m4 787 428 297 1 ["_law_day","_law_rest","_law_year","_law_month"] <| gf "_law_plain_begins" (y8 50) m4 797 435 306 2 ["_law_rule","_law_hour"] <| gf "_law_bearing" (y8 51) m4 805 442 316 0 [] <| gf "_law_heads" (y8 52) m4 811 449 318 1 ["_law_rule","_law_heads_here"] <| gf "_law_begun" (y8 53) m4 819 456 324 2 ["_law_rule","_law_hour","_law_heads_here","_law_due","_law_head"] <| gf "_law_size" (y8 54) m4 830 463 337 1 ["_law_rule","_law_plain"] <| gf "_law_weekdays" (y8 55) m4 838 470 342 1 ["_law_bits","_law_days_here","_law_k"] <| gf "_law_plain_by" (y8 56) m4 847 477 349 3 ["_law_cells","_law_far_here","_law_most","_law_kind","_law_size_here","_law_hour","_law_day"] <| ap [tuO #[],{ cls:=.none,data:=.fields #[] },fnO "_law_head_by" "_law_head_by" (y8 57),coO #[vs "_law_head_by" 860,vs "_law_head_by" 861,vs cut 862,.int 363 0,.int 3 0,.int 0 0,.int 0 0,.int 3 0,.ref 484,.bool tt,.int 181 0,.ref 485,.none,.none,.none,.ref 486,.int 863 0,.int 363 0,vs cut 864],fuO "_law_head_by" "_law_head_by" (y8 57) (vs "law_uf010016_12" 761) 487] <| gf "_law_far" (y8 58) m4 866 489 370 1 ["_law_cell"] <| gf "_law_name_by" (y8 59) m4 873 496 372 3 ["_law_shape","_law_cell","_law_k","_law_letters","_law_place","_law_name","_law_turn"] <| gf "_law_free_by" (y8 60) m4 886 503 388 2 ["_law_cells","_law_far_here","_law_kind","_law_size_here"] <| ap [tuO #[],{ cls:=.none,data:=.fields #[] },fnO "_law_people_by" "_law_people_by" (y8 61),coO #[vs "_law_people_by" 896,vs "_law_people_by" 897,vs cut 898,.int 398 0,.int 4 0,.int 0 0,.int 0 0,.int 3 0,.ref 510,.bool tt,.int 181 0,.ref 511,.none,.none,.none,.ref 512,.int 899 0,.int 398 0,vs cut 900],fuO "_law_people_by" "_law_people_by" (y8 61) (vs "law_uf010016_12" 761) 513] <| gf "_law_book_of" (y8 62) m4 902 515 417 1 ["_law_people","_law_book","_law_one","_law_rule"] <| gf "_law_flags" (y8 63) m4 912 522 424 3 ["_law_rule","_law_low","_law_many","_law_size_here","_law_found","_law_at_here","_law_k"] <| ap [tuO #[],{ cls:=.none,data:=.fields #[] },fnO "_law_open_hours" "_law_open_hours" (y8 64),coO #[vs "_law_open_hours" 925,vs "_law_open_hours" 926,vs cut 927,.int 432 0,.int 3 0,.int 0 0,.int 0 0,.int 3 0,.ref 529,.bool tt,.int 181 0,.ref 530,.none,.none,.none,.ref 531,.int 928 0,.int 432 0,vs cut 929],fuO "_law_open_hours" "_law_open_hours" (y8 64) (vs "law_uf010016_12" 761) 532,tuO #[],{ cls:=.none,data:=.fields #[] },fnO "_law_first" "_law_first" (y8 65),coO #[vs "_law_first" 931,vs "_law_first" 932,vs cut 933,.int 443 0,.int 4 0,.int 0 0,.int 0 0,.int 3 0,.ref 534,.bool tt,.int 181 0,.ref 535,.none,.none,.none,.ref 536,.int 934 0,.int 443 0,vs cut 935],fuO "_law_first" "_law_first" (y8 65) (vs "law_uf010016_12" 761) 537,tuO #[],{ cls:=.none,data:=.fields #[] },fnO "_law_put" "_law_put" (y8 66),coO #[vs "_law_put" 937,vs "_law_put" 938,vs cut 939,.int 450 0,.int 2 0,.int 0 0,.int 0 0,.int 3 0,.ref 539,.bool tt,.int 181 0,.ref 540,.none,.none,.none,.ref 541,.int 940 0,.int 450 0,vs cut 941],fuO "_law_put" "_law_put" (y8 66) (vs "law_uf010016_12" 761) 542,tuO #[],{ cls:=.none,data:=.fields #[] },fnO "_law_meet" "_law_meet" (y8 67),coO #[vs "_law_meet" 943,vs "_law_meet" 944,vs cut 945,.int 453 0,.int 4 0,.int 0 0,.int 0 0,.int 3 0,.ref 544,.bool tt,.int 181 0,.ref 545,.none,.none,.none,.ref 546,.int 946 0,.int 453 0,vs cut 947],fuO "_law_meet" "_law_meet" (y8 67) (vs "law_uf010016_12" 761) 547] <| gf "_law_refused" (y8 68) m4 949 549 472 3 ["_law_book","_law_number","_law_stretch"] <| ap [tuO #[],{ cls:=.none,data:=.fields #[] },fnO "_law_at" "_law_at" (y8 69),coO #[vs "_law_at" 958,vs "_law_at" 959,vs cut 960,.int 481 0,.int 2 0,.int 0 0,.int 0 0,.int 3 0,.ref 556,.bool tt,.int 181 0,.ref 557,.none,.none,.none,.ref 558,.int 961 0,.int 481 0,vs cut 962],fuO "_law_at" "_law_at" (y8 69) (vs "law_uf010016_12" 761) 559] <| gf "_law_dropped" (y8 70) m4 964 561 483 3 ["_law_book","_law_state","_law_a","_law_number","_law_at_here"] <| ap [tuO #[],{ cls:=.none,data:=.fields #[] },fnO "_law_moved" "_law_moved" (y8 71),coO #[vs "_law_moved" 975,vs "_law_moved" 976,vs cut 977,.int 490 0,.int 4 0,.int 0 0,.int 0 0,.int 3 0,.ref 568,.bool tt,.int 181 0,.ref 569,.none,.none,.none,.ref 570,.int 978 0,.int 490 0,vs cut 979],fuO "_law_moved" "_law_moved" (y8 71) (vs "law_uf010016_12" 761) 571,tuO #[],{ cls:=.none,data:=.fields #[] },fnO "_law_busier" "_law_busier" (y8 72),coO #[vs "_law_busier" 981,vs "_law_busier" 982,vs cut 983,.int 507 0,.int 4 0,.int 0 0,.int 0 0,.int 3 0,.ref 573,.bool tt,.int 181 0,.ref 574,.none,.none,.none,.ref 575,.int 984 0,.int 507 0,vs cut 985],fuO "_law_busier" "_law_busier" (y8 72) (vs "law_uf010016_12" 761) 576] <| gf "_law_filled" (y8 73) m4 987 578 527 3 ["_law_book","_law_state","_law_many","_law_k","_law_name","_law_hour"] <| gf "_law_cast" (y8 74) m4 999 585 536 3 ["_law_script","_law_far_here","_law_filled_here","_law_people","_law_later","_law_k"] <| gf "_law_deed" (y8 75) m4 1011 592 545 4 ["_law_book","_law_state","_law_a","_law_b"] <| gf "_law_stands" (y8 76) m4 1021 599 554 4 ["_law_book","_law_state","_law_a","_law_b","_law_every","_law_far_here","_law_asked","_law_turn","_law_look","_law_found","_law_told"] <| [tuO #[],{ cls:=.none,data:=.fields #[] },fnO "law" "law" (y8 77),coO #[vs "law" 1038,vs "law" 1039,vs cut 1040,.int 575 0,.int 1 0,.int 0 0,.int 0 0,.int 3 0,.ref 606,.bool tt,.int 181 0,.ref 607,.none,.none,.none,.ref 608,.int 1041 0,.int 575 0,vs cut 1042],fuO "law" "law" (y8 77) (vs "law_uf010016_12" 761) 609]
noncomputable def A9 (P:Params):List Obj:=[boot_o_0 P,boot_o_1 P,boot_o_2 P,{ cls:=.type "dict",data:=.dict #[de P "__name__" 165 (vs "freehour.errors" 194),de P "__doc__" 166 (.none),de P "__package__" 167 (.none),de P "__loader__" 168 (.builtin "__main__.__loader__#opaque"),de P "__spec__" 169 (.none),de P "__annotations__" 170 (.ref 6),de P "__builtins__" 171 (.ref 4),de P "__file__" 173 (vs cut 172),de P "__cached__" 174 (.none),de P "_wall" 193 (.ref 21),de P "HourError" 213 (.ref 31),de P "NoRule" 229 (.ref 44),de P "NoName" 245 (.ref 56),de P "Taken" 261 (.ref 68),de P "Stranger" 277 (.ref 80),de P "Twice" 293 (.ref 92),de P "NoTime" 309 (.ref 104),de P "NoMeeting" 325 (.ref 116),de P "Clash" 341 (.ref 128)] 19 },boot_o_4 P,boot_o_5 P,boot_o_6 P,boot_o_7 P,boot_o_8 P,boot_o_9 P,boot_o_10 P,tuO #[],{ cls:=.none,data:=.fields #[.int 1 0,.int 0 0,.ref 20,.int 5 0,.int 0 0,.ref 27,.int 7 0,.int 0 0,.ref 40,.int 9 0,.int 0 0,.ref 52,.int 11 0,.int 0 0,.ref 64,.int 13 0,.int 0 0,.ref 76,.int 15 0,.int 0 0,.ref 88,.int 17 0,.int 0 0,.ref 100,.int 19 0,.int 0 0,.ref 112,.int 21 0,.int 0 0,.ref 124] },coO #[vs "<module>" 182,vs "<module>" 183,vs cut 184,.int 1 0,.int 0 0,.int 0 0,.int 0 0,.int 0 0,.ref 11,.bool ff,.int 181 0,.ref 12,.none,.none,.none,.none,.int 185 0,.int 1 0,vs cut 186],{ cls:=.type "frame",slots:=#[sm (.ref 13),sm (.ref 3),sm (.ref 3),nn,sm (vs "__main__" 164),nn,sm (.ref 0)] }]
noncomputable def A42 (P:Params):List Obj:=[boot_o_0 P,boot_o_1 P,boot_o_2 P,{ cls:=.type "dict",data:=.dict #[de P "__name__" 165 (vs "freehour.book" 503),de P "__doc__" 166 (.none),de P "__package__" 167 (.none),de P "__loader__" 168 (.builtin "__main__.__loader__#opaque"),de P "__spec__" 169 (.none),de P "__annotations__" 170 (.ref 6),de P "__builtins__" 171 (.ref 4),de P "__file__" 173 (vs cut 172),de P "__cached__" 174 (.none),de P "_wall" 193 (.ref 21),de P "HourError" 213 (.ref 31),de P "NoRule" 229 (.ref 44),de P "NoName" 245 (.ref 56),de P "Taken" 261 (.ref 68),de P "Stranger" 277 (.ref 80),de P "Twice" 293 (.ref 92),de P "NoTime" 309 (.ref 104),de P "NoMeeting" 325 (.ref 116),de P "Clash" 341 (.ref 128),de P "FOUR_YEARS" 345 (.int 1461 344),de P "BEFORE_YEAR" 350 (.ref 131),de P "MONTHS" 363 (.ref 132),de P "is_whole" 370 (.ref 139),de P "month_length" 378 (.ref 146),de P "date_of" 389 (.ref 153),de P "from_end" 397 (.ref 160),de P "TIMES" 403 (.int 1000000000000 402),de P "DAYS" 407 (.int 100000000000 406),de P "LONGEST" 409 (.int 48 408),de P "MOST_STEP" 411 (.int 1000000 410),de P "DEEPEST" 413 (.int 8 412),de P "OUTER" 418 (.ref 161),de P "is_between" 427 (.ref 168),de P "is_time" 434 (.ref 175),de P "are_rising" 445 (.ref 182),de P "is_plain" 453 (.ref 189),de P "is_rule" 461 (.ref 196),de P "innermost" 468 (.ref 203),de P "length_of" 476 (.ref 210),de P "begins_plain" 485 (.ref 217),de P "begins" 493 (.ref 224),de P "covers" 502 (.ref 231),de P "LETTERS" 506 (vs "abcdefghijklmnopqrstuvwxyz" 505),de P "LONGEST_NAME" 508 (.int 12 507),de P "MOST_RULES" 510 (.int 20 509),de P "MOST_STRETCH" 512 (.int 10000 511),de P "is_name" 520 (.ref 238),de P "some_covers" 529 (.ref 245),de P "need_stretch" 538 (.ref 252)] 49 },boot_o_4 P,boot_o_5 P,boot_o_6 P,boot_o_7 P,boot_o_8 P,boot_o_9 P,boot_o_10 P,tuO #[],{ cls:=.none,data:=.fields #[.int 1 0,.int 0 0,.ref 20,.int 5 0,.int 0 0,.ref 27,.int 7 0,.int 0 0,.ref 40,.int 9 0,.int 0 0,.ref 52,.int 11 0,.int 0 0,.ref 64,.int 13 0,.int 0 0,.ref 76,.int 15 0,.int 0 0,.ref 88,.int 17 0,.int 0 0,.ref 100,.int 19 0,.int 0 0,.ref 112,.int 21 0,.int 0 0,.ref 124,.int 27 0,.int 0 0,.ref 138,.int 29 0,.int 0 0,.ref 145,.int 33 0,.int 0 0,.ref 152,.int 45 0,.int 0 0,.ref 159,.int 55 0,.int 0 0,.ref 167,.int 57 0,.int 0 0,.ref 174,.int 59 0,.int 0 0,.ref 181,.int 68 0,.int 0 0,.ref 188,.int 81 0,.int 0 0,.ref 195,.int 95 0,.int 0 0,.ref 202,.int 99 0,.int 0 0,.ref 209,.int 104 0,.int 0 0,.ref 216,.int 117 0,.int 0 0,.ref 223,.int 131 0,.int 0 0,.ref 230,.int 143 0,.int 0 0,.ref 237,.int 150 0,.int 0 0,.ref 244,.int 155 0,.int 0 0,.ref 251] },coO #[vs "<module>" 182,vs "<module>" 183,vs cut 184,.int 1 0,.int 0 0,.int 0 0,.int 0 0,.int 0 0,.ref 11,.bool ff,.int 181 0,.ref 12,.none,.none,.none,.none,.int 185 0,.int 1 0,vs cut 186],{ cls:=.type "frame",slots:=#[sm (.ref 13),sm (.ref 3),sm (.ref 3),nn,sm (vs "__main__" 164),nn,sm (.ref 0)] }]
noncomputable def A67 (P:Params):List Obj:=[boot_o_0 P,boot_o_1 P,boot_o_2 P,{ cls:=.type "dict",data:=.dict #[de P "__name__" 165 (vs "law_uf010016_12" 761),de P "__doc__" 166 (.none),de P "__package__" 167 (.none),de P "__loader__" 168 (.builtin "__main__.__loader__#opaque"),de P "__spec__" 169 (.none),de P "__annotations__" 170 (.ref 6),de P "__builtins__" 171 (.ref 4),de P "__file__" 173 (vs cut 172),de P "__cached__" 174 (.none),de P "_wall" 193 (.ref 21),de P "HourError" 213 (.ref 31),de P "NoRule" 229 (.ref 44),de P "NoName" 245 (.ref 56),de P "Taken" 261 (.ref 68),de P "Stranger" 277 (.ref 80),de P "Twice" 293 (.ref 92),de P "NoTime" 309 (.ref 104),de P "NoMeeting" 325 (.ref 116),de P "Clash" 341 (.ref 128),de P "FOUR_YEARS" 345 (.int 1461 344),de P "BEFORE_YEAR" 350 (.ref 131),de P "MONTHS" 363 (.ref 132),de P "is_whole" 370 (.ref 139),de P "month_length" 378 (.ref 146),de P "date_of" 389 (.ref 153),de P "from_end" 397 (.ref 160),de P "TIMES" 403 (.int 1000000000000 402),de P "DAYS" 407 (.int 100000000000 406),de P "LONGEST" 409 (.int 48 408),de P "MOST_STEP" 411 (.int 1000000 410),de P "DEEPEST" 413 (.int 8 412),de P "OUTER" 418 (.ref 161),de P "is_between" 427 (.ref 168),de P "is_time" 434 (.ref 175),de P "are_rising" 445 (.ref 182),de P "is_plain" 453 (.ref 189),de P "is_rule" 461 (.ref 196),de P "innermost" 468 (.ref 203),de P "length_of" 476 (.ref 210),de P "begins_plain" 485 (.ref 217),de P "begins" 493 (.ref 224),de P "covers" 502 (.ref 231),de P "LETTERS" 506 (vs "abcdefghijklmnopqrstuvwxyz" 505),de P "LONGEST_NAME" 508 (.int 12 507),de P "MOST_RULES" 510 (.int 20 509),de P "MOST_STRETCH" 512 (.int 10000 511),de P "is_name" 520 (.ref 238),de P "some_covers" 529 (.ref 245),de P "need_stretch" 538 (.ref 252),de P "Book" 760 (.ref 402),de P "_law_cell_at" 770 (.ref 413),de P "_law_whole" 777 (.ref 420),de P "_law_days" 786 (.ref 427),de P "_law_in_month" 796 (.ref 434),de P "_law_plain_begins" 804 (.ref 441),de P "_law_bearing" 810 (.ref 448),de P "_law_heads" 818 (.ref 455),de P "_law_begun" 829 (.ref 462),de P "_law_size" 837 (.ref 469),de P "_law_weekdays" 846 (.ref 476),de P "_law_plain_by" 859 (.ref 483),de P "_law_head_by" 865 (.ref 488),de P "_law_far" 872 (.ref 495),de P "_law_name_by" 885 (.ref 502),de P "_law_free_by" 895 (.ref 509),de P "_law_people_by" 901 (.ref 514),de P "_law_book_of" 911 (.ref 521),de P "_law_flags" 924 (.ref 528),de P "_law_open_hours" 930 (.ref 533),de P "_law_first" 936 (.ref 538),de P "_law_put" 942 (.ref 543),de P "_law_meet" 948 (.ref 548),de P "_law_refused" 957 (.ref 555),de P "_law_at" 963 (.ref 560),de P "_law_dropped" 974 (.ref 567),de P "_law_moved" 980 (.ref 572),de P "_law_busier" 986 (.ref 577),de P "_law_filled" 998 (.ref 584),de P "_law_cast" 1010 (.ref 591),de P "_law_deed" 1020 (.ref 598),de P "_law_stands" 1037 (.ref 605),de P "law" 1043 (.ref 610)] 82 },boot_o_4 P,boot_o_5 P,boot_o_6 P,boot_o_7 P,boot_o_8 P,boot_o_9 P,boot_o_10 P,tuO #[],{ cls:=.none,data:=.fields #[.int 1 0,.int 0 0,.ref 20,.int 5 0,.int 0 0,.ref 27,.int 7 0,.int 0 0,.ref 40,.int 9 0,.int 0 0,.ref 52,.int 11 0,.int 0 0,.ref 64,.int 13 0,.int 0 0,.ref 76,.int 15 0,.int 0 0,.ref 88,.int 17 0,.int 0 0,.ref 100,.int 19 0,.int 0 0,.ref 112,.int 21 0,.int 0 0,.ref 124,.int 27 0,.int 0 0,.ref 138,.int 29 0,.int 0 0,.ref 145,.int 33 0,.int 0 0,.ref 152,.int 45 0,.int 0 0,.ref 159,.int 55 0,.int 0 0,.ref 167,.int 57 0,.int 0 0,.ref 174,.int 59 0,.int 0 0,.ref 181,.int 68 0,.int 0 0,.ref 188,.int 81 0,.int 0 0,.ref 195,.int 95 0,.int 0 0,.ref 202,.int 99 0,.int 0 0,.ref 209,.int 104 0,.int 0 0,.ref 216,.int 117 0,.int 0 0,.ref 223,.int 131 0,.int 0 0,.ref 230,.int 143 0,.int 0 0,.ref 237,.int 150 0,.int 0 0,.ref 244,.int 155 0,.int 0 0,.ref 251,.int 160 0,.int 0 0,.ref 258,.int 288 0,.int 0 0,.ref 412,.int 292 0,.int 0 0,.ref 419,.int 294 0,.int 0 0,.ref 426,.int 297 0,.int 0 0,.ref 433,.int 306 0,.int 0 0,.ref 440,.int 316 0,.int 0 0,.ref 447,.int 318 0,.int 0 0,.ref 454,.int 324 0,.int 0 0,.ref 461,.int 337 0,.int 0 0,.ref 468,.int 342 0,.int 0 0,.ref 475,.int 349 0,.int 0 0,.ref 482,.int 363 0,.int 0 0,.ref 487,.int 370 0,.int 0 0,.ref 494,.int 372 0,.int 0 0,.ref 501,.int 388 0,.int 0 0,.ref 508,.int 398 0,.int 0 0,.ref 513,.int 417 0,.int 0 0,.ref 520,.int 424 0,.int 0 0,.ref 527,.int 432 0,.int 0 0,.ref 532,.int 443 0,.int 0 0,.ref 537,.int 450 0,.int 0 0,.ref 542,.int 453 0,.int 0 0,.ref 547,.int 472 0,.int 0 0,.ref 554,.int 481 0,.int 0 0,.ref 559,.int 483 0,.int 0 0,.ref 566,.int 490 0,.int 0 0,.ref 571,.int 507 0,.int 0 0,.ref 576,.int 527 0,.int 0 0,.ref 583,.int 536 0,.int 0 0,.ref 590,.int 545 0,.int 0 0,.ref 597,.int 554 0,.int 0 0,.ref 604,.int 575 0,.int 0 0,.ref 609] },coO #[vs "<module>" 182,vs "<module>" 183,vs cut 184,.int 1 0,.int 0 0,.int 0 0,.int 0 0,.int 0 0,.ref 11,.bool ff,.int 181 0,.ref 12,.none,.none,.none,.none,.int 185 0,.int 1 0,vs cut 186],{ cls:=.type "frame",slots:=#[sm (.ref 13),sm (.ref 3),sm (.ref 3),nn,sm (vs "__main__" 164),nn,sm (.ref 0)] }]
noncomputable def S9 (P:Params):List Obj:=A9 P++M9 P
noncomputable def S42 (P:Params):List Obj:=A42 P++(M9 P++M42 P)
noncomputable def S67 (P:Params):List Obj:=A67 P++(M9 P++(M42 P++M67 P))
def ci9:Pos:={ line:=21,col:=0,endLine:=22,endCol:=8 }
def bC6:Pos:={ line:=155,col:=0,endLine:=159,endCol:=34 }
def by4:Pos:={ line:=575,col:=0,endLine:=590,endCol:=93 }
noncomputable def Hf (P:Params):Heap:=⟨(S67 P).toArray,{}⟩
end Mine.Hd
namespace Mine
noncomputable def pO (P:Params)(i:Nat):Nat × Obj:=(i,(Hd.S67 P).getD i (boot_o_0 P))
noncomputable def K10 (P:Params):Frag:=[pO P 3,pO P 31,pO P 30,pO P 44,pO P 43,pO P 56,pO P 55,pO P 68,pO P 67,pO P 80,pO P 79,pO P 92,pO P 91,pO P 104,pO P 103,pO P 116,pO P 115,pO P 128,pO P 127,pO P 131,pO P 132,pO P 161]
noncomputable def X10:List (Str × List Str × Addr):=[("HourError",["HourError","ValueError"],31),("NoRule",["NoRule","HourError","ValueError"],44),("NoName",["NoName","HourError","ValueError"],56),("Taken",["Taken","HourError","ValueError"],68),("Stranger",["Stranger","HourError","ValueError"],80),("Twice",["Twice","HourError","ValueError"],92),("NoTime",["NoTime","HourError","ValueError"],104),("NoMeeting",["NoMeeting","HourError","ValueError"],116),("Clash",["Clash","HourError","ValueError"],128)]
noncomputable def H10:Hook:=kHook K10 [3,31,30,44,43,56,55,68,67,80,79,92,91,104,103,116,115,128,127,131,132,161] (fun _=>rfl)
noncomputable def V10:Program:=bM0 Challenge.pw_uf010016_12
noncomputable def B10:ClsRec:=match (plainsOf V10 (looseW V10 [Str.ofString "TIMES",Str.ofString "DAYS"])).find? (fun c=>c.name==Str.ofString "Book") with
 | some c=>c
 | none=>⟨Str.ofString "",none,[],[],0,[]⟩
end Mine
namespace Mine.Hd
set_option maxRecDepth 100000
theorem b15 (w:World)(os:OsState):topGo treeTable P10 w 11 (some (.ref 6)) 12 ⟨boot_heap w.params,Array.mk [],boot_drawn,boot_toks,os⟩ (topStub P10)=some ((shT (SA w.params) 15 187 os).abs,⟨denote treeTable c10,c10,a01,[topFrame a01]⟩):=by kernel_rfl
theorem cf0 (w:World)(os:OsState):segRun treeTable P10 w 11 (some (.ref 6)) 1 1 (shT (SA w.params) 15 187 os).abs (blockOf b10 aO7 c10 a01 [topFrame a01])=some (.next,(shT (SA w.params) 15 187 os).abs,c10,a01):=by kernel_rfl
theorem pc1 (w:World)(os:OsState):segRunT treeTable P10 w 11 (some (.ref 6)) 1 1929 (shT (SA w.params) 15 187 os) (piecesOf (b10.take 11) aO7 c10 a01 [topFrame a01])=some (.next,shT (S9 w.params) 131 342 os,c10,ci9):=by kernel_rfl
theorem pc2 (w:World)(os:OsState):segRunT treeTable P10 w 11 (some (.ref 6)) 1 698 (shT (S9 w.params) 131 342 os) (piecesOf ((b10.drop 11).take 33) aO7 c10 ci9 [topFrame a01])=some (.next,shT (S42 w.params) 253 539 os,c10,bC6):=by kernel_rfl
theorem pc3 (w:World)(os:OsState):segRunT treeTable P10 w 11 (some (.ref 6)) 1 1846 (shT (S42 w.params) 253 539 os) (piecesOf ((b10.drop 11).drop 33) aO7 c10 bC6 [topFrame a01])=some (.next,shT (S67 w.params) 611 1044 os,c10,by4):=by kernel_rfl
theorem cl8 (w:World)(os:OsState):topRun treeTable P10 w 11 (some (.ref 6)) 2 (shT (S67 w.params) 611 1044 os).abs ⟨doneF .next,c10,by4,[topFrame a01]⟩=some ⟨Hf w.params,Array.mk [],{},1044,os⟩:=by kernel_rfl
theorem cr3 (w:World):(fun os=>((staticsOk (importedModules P10.main.body) (boot_heap w.params) (Hf w.params)&&namesBound P10 (Hf w.params)&&gensDone ⟨Hf w.params,Array.mk [],{},1044,os⟩&&laidKept (boot_heap w.params) (Hf w.params)),openSeen V10 [Str.ofString "TIMES",Str.ofString "DAYS"] (importedModules P10.main.body) (fun s=>xlAt V10 [(Str.ofString "TIMES",.int 1000000000000),(Str.ofString "DAYS",.int 100000000000)] s&&recOk (RowW.records (OpenRow.toRowW Challenge.rw_uf010016_12.row)) s) true ⟨Hf w.params,Array.mk [],{},1044,os⟩,Hook.obs H10 ⟨Hf w.params,Array.mk [],{},1044,os⟩))=fun _=>(true,openGood V10 [Str.ofString "TIMES",Str.ofString "DAYS"],Hook.val H10 w):=by kernel_rfl
theorem cb1 (w:World)(os:OsState):topRun treeTable P10 w 11 (some (.ref 6)) (12+(1+(1929+(698+(1846+2))))) ⟨boot_heap w.params,Array.mk [],boot_drawn,boot_toks,os⟩ (topStub P10)=some ⟨Hf w.params,Array.mk [],{},1044,os⟩:=by
 have h3:=piece_app (rest:=[]) (segRun_of (pc3 w os)) (piece_nil (cl8 w os))
 rw [List.append_nil] at h3
 have h2:=piece_app (segRun_of (pc2 w os)) h3
 rw [List.take_append_drop] at h2
 have h1:=piece_app (segRun_of (pc1 w os)) h2
 rw [List.take_append_drop] at h1
 exact go_top (b15 w os) (piece_block (cf0 w os) h1)
theorem hl10:LeftO P10 V10 [Str.ofString "TIMES",Str.ofString "DAYS"] (fun s=>xlAt V10 [(Str.ofString "TIMES",.int 1000000000000),(Str.ofString "DAYS",.int 100000000000)] s&&recOk (RowW.records (OpenRow.toRowW Challenge.rw_uf010016_12.row)) s) (Hook.obs H10) (Hook.val H10) 8080:=LeftO.of_pieces (boot_open o1 rfl o2) cp2 cb1 rfl cr3
end Mine.Hd
namespace Mine
set_option maxRecDepth 100000
theorem cq3:(plainsOf V10 (looseW V10 [Str.ofString "TIMES",Str.ofString "DAYS"])).find? (fun c=>c.name==Str.ofString "Book")=some B10:=by kernel_rfl
theorem cp0:B10.name=Str.ofString "Book":=by kernel_rfl
theorem cn4 (P:Params):bV2 (K10 P) X10=true:=by kernel_rfl
theorem cn0:bZ4 G10 (bw4 X10)=true:=by kernel_rfl
theorem ck6:a23 B10 g6=true:=by kernel_rfl
theorem b23:Str.ofString "Book."++Str.ofString "__init__" = Str.ofString "Book.__init__":=by decide +kernel
set_option maxHeartbeats 4000000 in
theorem ck2:Challenge.rw_uf010016_12.wellSaid=true:=by
 unfold OpenLaw.wellSaid
 refine look_both (look_both (look_both (look_both (look_both (look_both (look_both (look_both (look_both (look_both (look_both (look_both (look_both (look_both (look_both (look_both (look_both (look_both ?_ ?_) ?_) ?_) ?_) ?_) ?_) ?_) ?_) ?_) ?_) ?_) ?_) ?_) ?_) ?_) ?_) ?_) ?_
 all_goals decide +kernel
noncomputable abbrev nG (P:Params)(x:String):=nsIn (K10 P) mainGlobals (Str.ofString x)
theorem ar1 (P:Params):nG P "FOUR_YEARS" = some (some (.int 1461 344)):=by kernel_rfl
theorem ak9 (P:Params):nG P "BEFORE_YEAR" = some (some (.ref 131)):=by kernel_rfl
theorem al8 (P:Params):(K10 P).lookup 131=some { cls:=Value.type "tuple",data:=Data.seq #[Value.int 0 346,Value.int 366 347,Value.int 731 348,Value.int 1096 349] }:=by kernel_rfl
theorem aR1 (P:Params):nG P "MONTHS" = some (some (.ref 132)):=by kernel_rfl
theorem aT5 (P:Params):(K10 P).lookup 132=some { cls:=Value.type "tuple",data:=Data.seq #[Value.int 31 351,Value.int 28 352,Value.int 31 353,Value.int 30 354,Value.int 31 355,Value.int 30 356,Value.int 31 357,Value.int 31 358,Value.int 30 359,Value.int 31 360,Value.int 30 361,Value.int 31 362] }:=by kernel_rfl
theorem a54 (P:Params):nG P "TIMES" = some (some (.int 1000000000000 402)):=by kernel_rfl
theorem bm7 (P:Params):nG P "DAYS" = some (some (.int 100000000000 406)):=by kernel_rfl
theorem aK0 (P:Params):nG P "LONGEST" = some (some (.int 48 408)):=by kernel_rfl
theorem au9 (P:Params):nG P "MOST_STEP" = some (some (.int 1000000 410)):=by kernel_rfl
theorem aL1 (P:Params):nG P "DEEPEST" = some (some (.int 8 412)):=by kernel_rfl
theorem a06 (P:Params):nG P "OUTER" = some (some (.ref 161)):=by kernel_rfl
theorem a88 (P:Params):(K10 P).lookup 161=some { cls:=Value.type "tuple",data:=Data.seq #[Value.str (Str.ofString "from") 414,Value.str (Str.ofString "until") 415,Value.str (Str.ofString "also") 416,Value.str (Str.ofString "but") 417] }:=by kernel_rfl
theorem aK8 (P:Params):nG P "LETTERS" = some (some (.str (Str.ofString "abcdefghijklmnopqrstuvwxyz") 505)):=by kernel_rfl
theorem ac9 (P:Params):nG P "LONGEST_NAME" = some (some (.int 12 507)):=by kernel_rfl
theorem ar4 (P:Params):nG P "MOST_RULES" = some (some (.int 20 509)):=by kernel_rfl
theorem af0 (P:Params):nG P "MOST_STRETCH" = some (some (.int 10000 511)):=by kernel_rfl
theorem ap5 (P:Params):nG P "isinstance" = some none:=by kernel_rfl
theorem bQ2 (P:Params):nG P "len" = some none:=by kernel_rfl
theorem bO3 (P:Params):nG P "any" = some none:=by kernel_rfl
theorem bH7 (P:Params):nG P "all" = some none:=by kernel_rfl
theorem bN1 (P:Params):nG P "max" = some none:=by kernel_rfl
theorem bE8 (P:Params):nG P "min" = some none:=by kernel_rfl
theorem bj1 (P:Params):nG P "repr" = some none:=by kernel_rfl
theorem bR2 (P:Params):nG P "int" = some none:=by kernel_rfl
theorem bh5 (P:Params):nG P "bool" = some none:=by kernel_rfl
theorem bG2 (P:Params):nG P "str" = some none:=by kernel_rfl
theorem a64 (P:Params):nG P "tuple" = some none:=by kernel_rfl
theorem bt0 (P:Params):nG P "list" = some none:=by kernel_rfl
theorem a08 (P:Params):nG P "range" = some none:=by kernel_rfl
theorem aD2 (P:Params):nG P "reversed" = some none:=by kernel_rfl
theorem ay9 (P:Params):nG P "HourError" = some (some (.ref 31)):=by kernel_rfl
theorem aW1 (P:Params):nG P "NoRule" = some (some (.ref 44)):=by kernel_rfl
theorem aW7 (P:Params):nG P "NoName" = some (some (.ref 56)):=by kernel_rfl
theorem a92 (P:Params):nG P "Taken" = some (some (.ref 68)):=by kernel_rfl
theorem aE0 (P:Params):nG P "Stranger" = some (some (.ref 80)):=by kernel_rfl
theorem a50 (P:Params):nG P "Twice" = some (some (.ref 92)):=by kernel_rfl
theorem aS5 (P:Params):nG P "NoTime" = some (some (.ref 104)):=by kernel_rfl
theorem av2 (P:Params):nG P "NoMeeting" = some (some (.ref 116)):=by kernel_rfl
theorem a56 (P:Params):nG P "Clash" = some (some (.ref 128)):=by kernel_rfl
theorem bm9 (P:Params):nG P "_wall" = some (some (.ref 21)):=by kernel_rfl
theorem aB7 (P:Params):nG P "is_whole" = some (some (.ref 139)):=by kernel_rfl
theorem ag0 (P:Params):nG P "month_length" = some (some (.ref 146)):=by kernel_rfl
theorem aJ9 (P:Params):nG P "date_of" = some (some (.ref 153)):=by kernel_rfl
theorem az6 (P:Params):nG P "from_end" = some (some (.ref 160)):=by kernel_rfl
theorem aq6 (P:Params):nG P "is_between" = some (some (.ref 168)):=by kernel_rfl
theorem aK6 (P:Params):nG P "is_time" = some (some (.ref 175)):=by kernel_rfl
theorem aq5 (P:Params):nG P "are_rising" = some (some (.ref 182)):=by kernel_rfl
theorem aC3 (P:Params):nG P "is_plain" = some (some (.ref 189)):=by kernel_rfl
theorem aM3 (P:Params):nG P "is_rule" = some (some (.ref 196)):=by kernel_rfl
theorem aw9 (P:Params):nG P "innermost" = some (some (.ref 203)):=by kernel_rfl
theorem aw6 (P:Params):nG P "length_of" = some (some (.ref 210)):=by kernel_rfl
theorem af2 (P:Params):nG P "begins_plain" = some (some (.ref 217)):=by kernel_rfl
theorem aY1 (P:Params):nG P "begins" = some (some (.ref 224)):=by kernel_rfl
theorem aR9 (P:Params):nG P "covers" = some (some (.ref 231)):=by kernel_rfl
theorem aM0 (P:Params):nG P "is_name" = some (some (.ref 238)):=by kernel_rfl
theorem ai9 (P:Params):nG P "some_covers" = some (some (.ref 245)):=by kernel_rfl
theorem ad6 (P:Params):nG P "need_stretch" = some (some (.ref 252)):=by kernel_rfl
theorem aj6 (P:Params):nG P "_law_cell_at" = some (some (.ref 413)):=by kernel_rfl
theorem aw5 (P:Params):nG P "_law_whole" = some (some (.ref 420)):=by kernel_rfl
theorem aD8 (P:Params):nG P "_law_days" = some (some (.ref 427)):=by kernel_rfl
theorem ag5 (P:Params):nG P "_law_in_month" = some (some (.ref 434)):=by kernel_rfl
theorem T8 (P:Params):nG P "_law_plain_begins" = some (some (.ref 441)):=by kernel_rfl
theorem ak8 (P:Params):nG P "_law_bearing" = some (some (.ref 448)):=by kernel_rfl
theorem av9 (P:Params):nG P "_law_heads" = some (some (.ref 455)):=by kernel_rfl
theorem aw8 (P:Params):nG P "_law_begun" = some (some (.ref 462)):=by kernel_rfl
theorem aB0 (P:Params):nG P "_law_size" = some (some (.ref 469)):=by kernel_rfl
theorem ae3 (P:Params):nG P "_law_weekdays" = some (some (.ref 476)):=by kernel_rfl
theorem ah5 (P:Params):nG P "_law_plain_by" = some (some (.ref 483)):=by kernel_rfl
theorem am0 (P:Params):nG P "_law_head_by" = some (some (.ref 488)):=by kernel_rfl
theorem aJ1 (P:Params):nG P "_law_far" = some (some (.ref 495)):=by kernel_rfl
theorem ai8 (P:Params):nG P "_law_name_by" = some (some (.ref 502)):=by kernel_rfl
theorem al9 (P:Params):nG P "_law_free_by" = some (some (.ref 509)):=by kernel_rfl
theorem aa3 (P:Params):nG P "_law_people_by" = some (some (.ref 514)):=by kernel_rfl
theorem aj5 (P:Params):nG P "_law_book_of" = some (some (.ref 521)):=by kernel_rfl
theorem ax2 (P:Params):nG P "_law_flags" = some (some (.ref 528)):=by kernel_rfl
theorem Y3 (P:Params):nG P "_law_open_hours" = some (some (.ref 533)):=by kernel_rfl
theorem av3 (P:Params):nG P "_law_first" = some (some (.ref 538)):=by kernel_rfl
theorem aL0 (P:Params):nG P "_law_put" = some (some (.ref 543)):=by kernel_rfl
theorem aC7 (P:Params):nG P "_law_meet" = some (some (.ref 548)):=by kernel_rfl
theorem ak5 (P:Params):nG P "_law_refused" = some (some (.ref 555)):=by kernel_rfl
theorem aV5 (P:Params):nG P "_law_at" = some (some (.ref 560)):=by kernel_rfl
theorem am1 (P:Params):nG P "_law_dropped" = some (some (.ref 567)):=by kernel_rfl
theorem ay4 (P:Params):nG P "_law_moved" = some (some (.ref 572)):=by kernel_rfl
theorem at6 (P:Params):nG P "_law_busier" = some (some (.ref 577)):=by kernel_rfl
theorem at1 (P:Params):nG P "_law_filled" = some (some (.ref 584)):=by kernel_rfl
theorem az8 (P:Params):nG P "_law_cast" = some (some (.ref 591)):=by kernel_rfl
theorem aC9 (P:Params):nG P "_law_deed" = some (some (.ref 598)):=by kernel_rfl
theorem ap3 (P:Params):nG P "_law_stands" = some (some (.ref 605)):=by kernel_rfl
theorem X6:f7 G10 g6 V10 "month_length" = some A8:=by kernel_rfl
theorem aw4:f7 G10 g6 V10 "date_of" = some W9:=by kernel_rfl
theorem au3:f7 G10 g6 V10 "from_end" = some N8:=by kernel_rfl
theorem aq8:f7 G10 g6 V10 "is_whole" = some N6:=by kernel_rfl
theorem ag3:f7 G10 g6 V10 "is_between" = some F1:=by kernel_rfl
theorem az2:f7 G10 g6 V10 "is_time" = some V8:=by kernel_rfl
theorem ah3:f7 G10 g6 V10 "are_rising" = some f_are_rising:=by kernel_rfl
theorem as6:f7 G10 g6 V10 "is_plain" = some f_is_plain:=by kernel_rfl
theorem ay3:f7 G10 g6 V10 "is_rule" = some f_is_rule:=by kernel_rfl
theorem ak6:f7 G10 g6 V10 "innermost" = some f_innermost:=by kernel_rfl
theorem aj1:f7 G10 g6 V10 "length_of" = some f_length_of:=by kernel_rfl
theorem X3:f7 G10 g6 V10 "begins_plain" = some f_begins_plain:=by kernel_rfl
theorem aD4:f7 G10 g6 V10 "begins" = some f_begins:=by kernel_rfl
theorem aA6:f7 G10 g6 V10 "covers" = some f_covers:=by kernel_rfl
theorem ab4:f7 G10 g6 V10 "some_covers" = some f_some_covers:=by kernel_rfl
theorem X8:f7 G10 g6 V10 "need_stretch" = some C0:=by kernel_rfl
theorem ay0:f7 G10 g6 V10 "is_name" = some f_is_name:=by kernel_rfl
theorem az5 {α:Type}{a b:α}{l m:List α}(h:a::l=b::m):a=b:=(List.cons.inj h).1
theorem j5 {α:Type}{a b:α}{l m:List α}(h:a::l=b::m):l=m:=(List.cons.inj h).2
theorem ckM:[i7 G10 g6 B10 "need_somebody",i7 G10 g6 B10 "meets_at",i7 G10 g6 B10 "free_at",i7 G10 g6 B10 "need_all",i7 G10 g6 B10 "is_free",i7 G10 g6 B10 "bar",i7 G10 g6 B10 "look",i7 G10 g6 B10 "first",i7 G10 g6 B10 "meetings",i7 G10 g6 B10 "meet",i7 G10 g6 B10 "__init__",i7 G10 g6 B10 "come",i7 G10 g6 B10 "busy",i7 G10 g6 B10 "place_of",i7 G10 g6 B10 "drop",i7 G10 g6 B10 "move"]=[some w5,some f_B_meets_at,some f_B_free_at,some f_B_need_all,some f_B_is_free,some f_B_bar,some f_B_look,some W0,some F5,some f_B_meet,some G3,some f_B_come,some f_B_busy,some f_B_place_of,some f_B_drop,some f_B_move]:=by kernel_rfl
theorem Q8:i7 G10 g6 B10 "need_somebody" = some w5:=az5 ckM
theorem al0:i7 G10 g6 B10 "meets_at" = some f_B_meets_at:=az5 (j5 ckM)
theorem au0:i7 G10 g6 B10 "free_at" = some f_B_free_at:=az5 (j5 (j5 ckM))
theorem aj2:i7 G10 g6 B10 "need_all" = some f_B_need_all:=az5 (j5 (j5 (j5 ckM)))
theorem at4:i7 G10 g6 B10 "is_free" = some f_B_is_free:=az5 (j5 (j5 (j5 (j5 ckM))))
theorem aX0:i7 G10 g6 B10 "bar" = some f_B_bar:=az5 (j5 (j5 (j5 (j5 (j5 ckM)))))
theorem aK9:i7 G10 g6 B10 "look" = some f_B_look:=az5 (j5 (j5 (j5 (j5 (j5 (j5 ckM))))))
theorem aD1:i7 G10 g6 B10 "first" = some W0:=az5 (j5 (j5 (j5 (j5 (j5 (j5 (j5 ckM)))))))
theorem aj7:i7 G10 g6 B10 "meetings" = some F5:=az5 (j5 (j5 (j5 (j5 (j5 (j5 (j5 (j5 ckM))))))))
theorem aM4:i7 G10 g6 B10 "meet" = some f_B_meet:=az5 (j5 (j5 (j5 (j5 (j5 (j5 (j5 (j5 (j5 ckM)))))))))
theorem aK1:i7 G10 g6 B10 "__init__" = some G3:=az5 (j5 (j5 (j5 (j5 (j5 (j5 (j5 (j5 (j5 (j5 ckM))))))))))
theorem aN0:i7 G10 g6 B10 "come" = some f_B_come:=az5 (j5 (j5 (j5 (j5 (j5 (j5 (j5 (j5 (j5 (j5 (j5 ckM)))))))))))
theorem aM8:i7 G10 g6 B10 "busy" = some f_B_busy:=az5 (j5 (j5 (j5 (j5 (j5 (j5 (j5 (j5 (j5 (j5 (j5 (j5 ckM))))))))))))
theorem al7:i7 G10 g6 B10 "place_of" = some f_B_place_of:=az5 (j5 (j5 (j5 (j5 (j5 (j5 (j5 (j5 (j5 (j5 (j5 (j5 (j5 ckM)))))))))))))
theorem aL5:i7 G10 g6 B10 "drop" = some f_B_drop:=az5 (j5 (j5 (j5 (j5 (j5 (j5 (j5 (j5 (j5 (j5 (j5 (j5 (j5 (j5 ckM))))))))))))))
theorem aJ7:i7 G10 g6 B10 "move" = some f_B_move:=az5 (j5 (j5 (j5 (j5 (j5 (j5 (j5 (j5 (j5 (j5 (j5 (j5 (j5 (j5 (j5 ckM)))))))))))))))
theorem aa8:f7 G10 g6 V10 "_law_cell_at" = some J7:=by kernel_rfl
theorem ak1:f7 G10 g6 V10 "_law_whole" = some U9:=by kernel_rfl
theorem as8:f7 G10 g6 V10 "_law_days" = some ab8:=by kernel_rfl
theorem Y5:f7 G10 g6 V10 "_law_in_month" = some F7:=by kernel_rfl
theorem M8:f7 G10 g6 V10 "_law_plain_begins" = some f_l_plain_begins:=by kernel_rfl
theorem ab3:f7 G10 g6 V10 "_law_bearing" = some I9:=by kernel_rfl
theorem aj3:f7 G10 g6 V10 "_law_heads" = some f_l_heads:=by kernel_rfl
theorem aj4:f7 G10 g6 V10 "_law_begun" = some f_l_begun:=by kernel_rfl
theorem at3:f7 G10 g6 V10 "_law_size" = some f_l_size:=by kernel_rfl
theorem Y1:f7 G10 g6 V10 "_law_weekdays" = some G6:=by kernel_rfl
theorem Y7:f7 G10 g6 V10 "_law_plain_by" = some f_l_plain_by:=by kernel_rfl
theorem ab6:f7 G10 g6 V10 "_law_head_by" = some f_l_head_by:=by kernel_rfl
theorem aw2:f7 G10 g6 V10 "_law_far" = some ar5:=by kernel_rfl
theorem aa6:f7 G10 g6 V10 "_law_name_by" = some f_l_name_by:=by kernel_rfl
theorem ab0:f7 G10 g6 V10 "_law_free_by" = some f_l_free_by:=by kernel_rfl
theorem X0:f7 G10 g6 V10 "_law_people_by" = some f_l_people_by:=by kernel_rfl
theorem aa5:f7 G10 g6 V10 "_law_book_of" = some f_l_book_of:=by kernel_rfl
theorem aj0:f7 G10 g6 V10 "_law_flags" = some f_l_flags:=by kernel_rfl
theorem Q7:f7 G10 g6 V10 "_law_open_hours" = some f_l_open_hours:=by kernel_rfl
theorem aj9:f7 G10 g6 V10 "_law_first" = some f_l_first:=by kernel_rfl
theorem av8:f7 G10 g6 V10 "_law_put" = some f_l_put:=by kernel_rfl
theorem ar3:f7 G10 g6 V10 "_law_meet" = some f_l_meet:=by kernel_rfl
theorem ab1:f7 G10 g6 V10 "_law_refused" = some f_l_refused:=by kernel_rfl
theorem aA4:f7 G10 g6 V10 "_law_at" = some f_l_at:=by kernel_rfl
theorem ab2:f7 G10 g6 V10 "_law_dropped" = some f_l_dropped:=by kernel_rfl
theorem ak0:f7 G10 g6 V10 "_law_moved" = some f_l_moved:=by kernel_rfl
theorem ai3:f7 G10 g6 V10 "_law_busier" = some f_l_busier:=by kernel_rfl
theorem ah9:f7 G10 g6 V10 "_law_filled" = some f_l_filled:=by kernel_rfl
theorem ar0:f7 G10 g6 V10 "_law_cast" = some f_l_cast:=by kernel_rfl
theorem aq1:f7 G10 g6 V10 "_law_deed" = some f_l_deed:=by kernel_rfl
theorem ai0:f7 G10 g6 V10 "_law_stands" = some f_l_stands:=by kernel_rfl
theorem a70:f7 G10 g6 V10 "law" = some f_law:=by kernel_rfl
end Mine
set_option maxRecDepth 100000 in
set_option maxHeartbeats 8000000 in
theorem PySem.Challenge.cw_uf010016_12_holds : PySem.Challenge.rw_uf010016_12.Holds := by
 w_on
 refine holds_law ck2 fun said=>?_
 refine holds_open (q:=V10) (loose:=[Str.ofString "TIMES",Str.ofString "DAYS"]) (Xt:=fun s=>xlAt V10 [(Str.ofString "TIMES",.int 1000000000000),(Str.ofString "DAYS",.int 100000000000)] s&&recOk (RowW.records (OpenRow.toRowW Challenge.rw_uf010016_12.row)) s) (XP:=XL V10 [(Str.ofString "TIMES",.int 1000000000000),(Str.ofString "DAYS",.int 100000000000)]) (Yf:=Hook.obs H10) (Ya:=Hook.val H10) (YP:=Hook.says H10) (N:=8080) ?hl (Hook.of H10) (Hook.keeps H10) (fun s e=>xl_of s (Bool.and_eq_true_iff.mp e).1) XL.keeps (by rfl) (by rfl) (by rfl) (fun s e=>recFacts_of (Bool.and_eq_true_iff.mp e).2) (by rfl) (by first|assumption|decide +kernel) (by decide +kernel) ⟨rfl,rfl,rfl,rfl,rfl,by decide +kernel⟩ ?hw ?hc
 case hl=>exact Hd.hl10
 case hw=>w_witness2
 intro w s₀ s₁ mg mb G Y fa o pm cd doc dV kV ho hd hcd hD hmg hg args vals as hpre hlay hrd hwl hlo
 have KX:=kIn_of Y
 refine Ground.open G ?_
 intro T B D TE TW
 wrow_args hpre hlay hrd hwl hlo
 obtain ⟨C,N,mN,hC,P0⟩:=TE B10 (List.mem_of_find?_eq_some cq3)
 have P:=P0.ofCmp
 rw [cp0] at hC
 have GA:bS7 ⟨Challenge.rw_uf010016_12.row.prog,w,s₁.heap,mg,mb,C,mN,bw4 X10,[]⟩ G10:=by
  refine ⟨U5 (mg_of KX T.g (ar1 _)),?_⟩
  refine ⟨aU6 (vs:=[Value.int 0 346,Value.int 366 347,Value.int 731 348,Value.int 1096 349]) (n:=0) (mg_of KX T.g (ak9 _)) (KX _ _ (al8 _)) (by decide) (fun _=>(p9 (p9 (p9 (p9 aq2))))),?_⟩
  refine ⟨aU6 (vs:=[Value.int 31 351,Value.int 28 352,Value.int 31 353,Value.int 30 354,Value.int 31 355,Value.int 30 356,Value.int 31 357,Value.int 31 358,Value.int 30 359,Value.int 31 360,Value.int 30 361,Value.int 31 362]) (n:=0) (mg_of KX T.g (aR1 _)) (KX _ _ (aT5 _)) (by decide) (fun _=>(p9 (p9 (p9 (p9 (p9 (p9 (p9 (p9 (p9 (p9 (p9 (p9 aq2))))))))))))),?_⟩
  refine ⟨U5 (mg_of KX T.g (a54 _)),?_⟩
  refine ⟨U5 (mg_of KX T.g (bm7 _)),?_⟩
  refine ⟨U5 (mg_of KX T.g (aK0 _)),?_⟩
  refine ⟨U5 (mg_of KX T.g (au9 _)),?_⟩
  refine ⟨U5 (mg_of KX T.g (aL1 _)),?_⟩
  refine ⟨aU6 (vs:=[Value.str (Str.ofString "from") 414,Value.str (Str.ofString "until") 415,Value.str (Str.ofString "also") 416,Value.str (Str.ofString "but") 417]) (n:=0) (mg_of KX T.g (a06 _)) (KX _ _ (a88 _)) (by decide) (fun _=>(ac0 ⟨by decide +kernel,by decide +kernel⟩ (ac0 ⟨by decide +kernel,by decide +kernel⟩ (ac0 ⟨by decide +kernel,by decide +kernel⟩ (ac0 ⟨by decide +kernel,by decide +kernel⟩ aq2))))),?_⟩
  refine ⟨bQ7 (mg_of KX T.g (aK8 _)) ⟨by decide +kernel,by decide +kernel⟩,?_⟩
  refine ⟨U5 (mg_of KX T.g (ac9 _)),?_⟩
  refine ⟨U5 (mg_of KX T.g (ar4 _)),?_⟩
  refine ⟨U5 (mg_of KX T.g (af0 _)),?_⟩
  refine ⟨az9 (ns_none_of KX T.g (ap5 _)) ((T.builtins _ (by decide)).trans rfl),?_⟩
  refine ⟨az9 (ns_none_of KX T.g (bQ2 _)) ((T.builtins _ (by decide)).trans rfl),?_⟩
  refine ⟨az9 (ns_none_of KX T.g (bO3 _)) ((T.builtins _ (by decide)).trans rfl),?_⟩
  refine ⟨az9 (ns_none_of KX T.g (bH7 _)) ((T.builtins _ (by decide)).trans rfl),?_⟩
  refine ⟨az9 (ns_none_of KX T.g (bN1 _)) ((T.builtins _ (by decide)).trans rfl),?_⟩
  refine ⟨az9 (ns_none_of KX T.g (bE8 _)) ((T.builtins _ (by decide)).trans rfl),?_⟩
  refine ⟨az9 (ns_none_of KX T.g (bj1 _)) ((T.builtins _ (by decide)).trans rfl),?_⟩
  refine ⟨aA1 (ns_none_of KX T.g (bR2 _)) ((T.builtins _ (by decide)).trans rfl),?_⟩
  refine ⟨aA1 (ns_none_of KX T.g (bh5 _)) ((T.builtins _ (by decide)).trans rfl),?_⟩
  refine ⟨aA1 (ns_none_of KX T.g (bG2 _)) ((T.builtins _ (by decide)).trans rfl),?_⟩
  refine ⟨aA1 (ns_none_of KX T.g (a64 _)) ((T.builtins _ (by decide)).trans rfl),?_⟩
  refine ⟨aA1 (ns_none_of KX T.g (bt0 _)) ((T.builtins _ (by decide)).trans rfl),?_⟩
  refine ⟨aA1 (ns_none_of KX T.g (a08 _)) ((T.builtins _ (by decide)).trans rfl),?_⟩
  refine ⟨aA1 (ns_none_of KX T.g (aD2 _)) ((T.builtins _ (by decide)).trans rfl),?_⟩
  refine ⟨b36 hC,?_⟩
  refine ⟨W6 (mg_of KX T.g (ay9 _)),?_⟩
  refine ⟨W6 (mg_of KX T.g (aW1 _)),?_⟩
  refine ⟨W6 (mg_of KX T.g (aW7 _)),?_⟩
  refine ⟨W6 (mg_of KX T.g (a92 _)),?_⟩
  refine ⟨W6 (mg_of KX T.g (aE0 _)),?_⟩
  refine ⟨W6 (mg_of KX T.g (a50 _)),?_⟩
  refine ⟨W6 (mg_of KX T.g (aS5 _)),?_⟩
  refine ⟨W6 (mg_of KX T.g (av2 _)),?_⟩
  refine ⟨W6 (mg_of KX T.g (a56 _)),?_⟩
  refine ⟨l7 (by decide +kernel) (mg_of KX T.g (bm9 _)),?_⟩
  refine ⟨l7 (by decide +kernel) (mg_of KX T.g (aB7 _)),?_⟩
  refine ⟨l7 (by decide +kernel) (mg_of KX T.g (ag0 _)),?_⟩
  refine ⟨l7 (by decide +kernel) (mg_of KX T.g (aJ9 _)),?_⟩
  refine ⟨l7 (by decide +kernel) (mg_of KX T.g (az6 _)),?_⟩
  refine ⟨l7 (by decide +kernel) (mg_of KX T.g (aq6 _)),?_⟩
  refine ⟨l7 (by decide +kernel) (mg_of KX T.g (aK6 _)),?_⟩
  refine ⟨l7 (by decide +kernel) (mg_of KX T.g (aq5 _)),?_⟩
  refine ⟨l7 (by decide +kernel) (mg_of KX T.g (aC3 _)),?_⟩
  refine ⟨l7 (by decide +kernel) (mg_of KX T.g (aM3 _)),?_⟩
  refine ⟨l7 (by decide +kernel) (mg_of KX T.g (aw9 _)),?_⟩
  refine ⟨l7 (by decide +kernel) (mg_of KX T.g (aw6 _)),?_⟩
  refine ⟨l7 (by decide +kernel) (mg_of KX T.g (af2 _)),?_⟩
  refine ⟨l7 (by decide +kernel) (mg_of KX T.g (aY1 _)),?_⟩
  refine ⟨l7 (by decide +kernel) (mg_of KX T.g (aR9 _)),?_⟩
  refine ⟨l7 (by decide +kernel) (mg_of KX T.g (aM0 _)),?_⟩
  refine ⟨l7 (by decide +kernel) (mg_of KX T.g (ai9 _)),?_⟩
  refine ⟨l7 (by decide +kernel) (mg_of KX T.g (ad6 _)),?_⟩
  refine ⟨l7 (by decide +kernel) (mg_of KX T.g (aj6 _)),?_⟩
  refine ⟨l7 (by decide +kernel) (mg_of KX T.g (aw5 _)),?_⟩
  refine ⟨l7 (by decide +kernel) (mg_of KX T.g (aD8 _)),?_⟩
  refine ⟨l7 (by decide +kernel) (mg_of KX T.g (ag5 _)),?_⟩
  refine ⟨l7 (by decide +kernel) (mg_of KX T.g (T8 _)),?_⟩
  refine ⟨l7 (by decide +kernel) (mg_of KX T.g (ak8 _)),?_⟩
  refine ⟨l7 (by decide +kernel) (mg_of KX T.g (av9 _)),?_⟩
  refine ⟨l7 (by decide +kernel) (mg_of KX T.g (aw8 _)),?_⟩
  refine ⟨l7 (by decide +kernel) (mg_of KX T.g (aB0 _)),?_⟩
  refine ⟨l7 (by decide +kernel) (mg_of KX T.g (ae3 _)),?_⟩
  refine ⟨l7 (by decide +kernel) (mg_of KX T.g (ah5 _)),?_⟩
  refine ⟨l7 (by decide +kernel) (mg_of KX T.g (am0 _)),?_⟩
  refine ⟨l7 (by decide +kernel) (mg_of KX T.g (aJ1 _)),?_⟩
  refine ⟨l7 (by decide +kernel) (mg_of KX T.g (ai8 _)),?_⟩
  refine ⟨l7 (by decide +kernel) (mg_of KX T.g (al9 _)),?_⟩
  refine ⟨l7 (by decide +kernel) (mg_of KX T.g (aa3 _)),?_⟩
  refine ⟨l7 (by decide +kernel) (mg_of KX T.g (aj5 _)),?_⟩
  refine ⟨l7 (by decide +kernel) (mg_of KX T.g (ax2 _)),?_⟩
  refine ⟨l7 (by decide +kernel) (mg_of KX T.g (Y3 _)),?_⟩
  refine ⟨l7 (by decide +kernel) (mg_of KX T.g (av3 _)),?_⟩
  refine ⟨l7 (by decide +kernel) (mg_of KX T.g (aL0 _)),?_⟩
  refine ⟨l7 (by decide +kernel) (mg_of KX T.g (aC7 _)),?_⟩
  refine ⟨l7 (by decide +kernel) (mg_of KX T.g (ak5 _)),?_⟩
  refine ⟨l7 (by decide +kernel) (mg_of KX T.g (aV5 _)),?_⟩
  refine ⟨l7 (by decide +kernel) (mg_of KX T.g (am1 _)),?_⟩
  refine ⟨l7 (by decide +kernel) (mg_of KX T.g (ay4 _)),?_⟩
  refine ⟨l7 (by decide +kernel) (mg_of KX T.g (at6 _)),?_⟩
  refine ⟨l7 (by decide +kernel) (mg_of KX T.g (at1 _)),?_⟩
  refine ⟨l7 (by decide +kernel) (mg_of KX T.g (az8 _)),?_⟩
  refine ⟨l7 (by decide +kernel) (mg_of KX T.g (aC9 _)),?_⟩
  refine ⟨l7 (by decide +kernel) (mg_of KX T.g (ap3 _)),?_⟩
  exact trivial
 have g:GOk ⟨Challenge.rw_uf010016_12.row.prog,w,s₁.heap,mg,mb,C,mN,bw4 X10,[]⟩ G10 g6:=gok (tab:=X10) T GA P ck6 KX rfl (cn4 _) cn0
 have o1:g7 _ 1 Φ1:=f8 g bI4 (d6 T (x:="month_length") (f:=A8) (by decide +kernel) X6) ai6
 have o2:g7 _ 2 Φ2:=f8 g o1 (d6 T (x:="date_of") (f:=W9) (by decide +kernel) aw4) aP4
 have o3:g7 _ 3 Φ3:=f8 g o2 (d6 T (x:="from_end") (f:=N8) (by decide +kernel) au3) aJ5
 have o4:g7 _ 4 Φ4:=f8 g o3 (d6 T (x:="is_whole") (f:=N6) (by decide +kernel) aq8) aM2
 have o5:g7 _ 5 Φ5:=f8 g o4 (d6 T (x:="is_between") (f:=F1) (by decide +kernel) ag3) ay2
 have o6:g7 _ 6 Φ6:=f8 g o5 (d6 T (x:="is_time") (f:=V8) (by decide +kernel) az2) aO1
 have o7:g7 _ 7 Φ7:=f8 g o6 (d6 T (x:="are_rising") (f:=f_are_rising) (by decide +kernel) ah3) ay8
 have o8:g7 _ 8 Φ8:=f8 g o7 (d6 T (x:="is_plain") (f:=f_is_plain) (by decide +kernel) as6) aL6
 have o9:g7 _ 9 Φ9:=f8 g o8 (d6 T (x:="is_rule") (f:=f_is_rule) (by decide +kernel) ay3) aP7
 have o10:g7 _ 10 Φa:=f8 g o9 (d6 T (x:="innermost") (f:=f_innermost) (by decide +kernel) ak6) aA3
 have o11:g7 _ 11 Φb:=f8 g o10 (d6 T (x:="length_of") (f:=f_length_of) (by decide +kernel) aj1) aC1
 have o12:g7 _ 12 Φc:=f8 g o11 (d6 T (x:="begins_plain") (f:=f_begins_plain) (by decide +kernel) X3) aj8
 have o13:g7 _ 13 Φd:=f8 g o12 (d6 T (x:="begins") (f:=f_begins) (by decide +kernel) aD4) a32
 have o14:g7 _ 14 Φe:=f8 g o13 (d6 T (x:="covers") (f:=f_covers) (by decide +kernel) aA6) a84
 have o15:g7 _ 15 Φf:=f8 g o14 (d6 T (x:="some_covers") (f:=f_some_covers) (by decide +kernel) ab4) at2
 have o16:g7 _ 16 Φg:=f8 g o15 (d6 T (x:="need_stretch") (f:=C0) (by decide +kernel) X8) ak4
 have o17:g7 _ 17 Φh:=f8 g o16 (d6 T (x:="is_name") (f:=f_is_name) (by decide +kernel) ay0) aQ8
 have o18:g7 _ 18 Ψ1:=f8 g o17 (i6 P Q8) ae5
 have o19:g7 _ 19 Ψ2:=f8 g o18 (i6 P al0) aL8
 have o20:g7 _ 20 Ψ3:=f8 g o19 (i6 P au0) aV1
 have o21:g7 _ 21 Ψ4:=f8 g o20 (i6 P aj2) aN4
 have o22:g7 _ 22 Ψf:=f8 g o21 (i6 P at4) aR3
 have o23:g7 _ 23 Ψ5:=f8 g o22 (i6 P aX0) bX2
 have o24:g7 _ 24 Ψ6:=f8 g o23 (i6 P aK9) bP3
 have o25:g7 _ 25 Ψ7:=f8 g o24 (i6 P aD1) bu9
 have o26:g7 _ 26 Ψ8:=f8 g o25 (i6 P aj7) aK2
 have o27:g7 _ 27 Ψm:=f8 g o26 (i6 P aM4) bO9
 have o28:g7 _ 28 Ψ9:=f8 g o27 (b23▸i6 P aK1) bD6
 have o29:g7 _ 29 Ψa:=f8 g o28 (i6 P aN0) bF7
 have o30:g7 _ 30 Ψb:=f8 g o29 (i6 P aM8) bQ4
 have o31:g7 _ 31 Ψc:=f8 g o30 (i6 P al7) aN3
 have o32:g7 _ 32 Ψd:=f8 g o31 (i6 P aL5) bD3
 have o33:g7 _ 33 Ψe:=f8 g o32 (i6 P aJ7) bB7
 have o34:g7 _ 34 Θ1:=f8 g o33 (d6 T (x:="_law_cell_at") (f:=J7) (by decide +kernel) aa8) aS4
 have o35:g7 _ 35 Θ2:=f8 g o34 (d6 T (x:="_law_whole") (f:=U9) (by decide +kernel) ak1) br1
 have o36:g7 _ 36 Θ2a:=f8 g o35 (d6 T (x:="_law_days") (f:=ab8) (by decide +kernel) as8) bG6
 have o37:g7 _ 37 Θ2b:=f8 g o36 (d6 T (x:="_law_in_month") (f:=F7) (by decide +kernel) Y5) aL3
 have o38:g7 _ 38 Θ3:=f8 g o37 (d6 T (x:="_law_plain_begins") (f:=f_l_plain_begins) (by decide +kernel) M8) al1
 have o39:g7 _ 39 Θ4:=f8 g o38 (d6 T (x:="_law_bearing") (f:=I9) (by decide +kernel) ab3) aX7
 have o40:g7 _ 40 Θ5:=f8 g o39 (d6 T (x:="_law_heads") (f:=f_l_heads) (by decide +kernel) aj3) bi6
 have o41:g7 _ 41 Θ6:=f8 g o40 (d6 T (x:="_law_begun") (f:=f_l_begun) (by decide +kernel) aj4) bg9
 have o42:g7 _ 42 Θ7:=f8 g o41 (d6 T (x:="_law_size") (f:=f_l_size) (by decide +kernel) at3) bI5
 have o43:g7 _ 43 Θa:=f8 g o42 (d6 T (x:="_law_weekdays") (f:=G6) (by decide +kernel) Y1) aJ4
 have o44:g7 _ 44 Θb:=f8 g o43 (d6 T (x:="_law_plain_by") (f:=f_l_plain_by) (by decide +kernel) Y7) aM5
 have o45:g7 _ 45 Θc:=f8 g o44 (d6 T (x:="_law_head_by") (f:=f_l_head_by) (by decide +kernel) ab6) aP8
 have o46:g7 _ 46 Θd:=f8 g o45 (d6 T (x:="_law_far") (f:=ar5) (by decide +kernel) aw2) bX1
 have o47:g7 _ 47 Θe:=f8 g o46 (d6 T (x:="_law_name_by") (f:=f_l_name_by) (by decide +kernel) aa6) aT9
 have o48:g7 _ 48 Θf:=f8 g o47 (d6 T (x:="_law_free_by") (f:=f_l_free_by) (by decide +kernel) ab0) aQ3
 have o49:g7 _ 49 Θg:=f8 g o48 (d6 T (x:="_law_people_by") (f:=f_l_people_by) (by decide +kernel) X0) aA8
 have o50:g7 _ 50 Θh:=f8 g o49 (d6 T (x:="_law_book_of") (f:=f_l_book_of) (by decide +kernel) aa5) aQ6
 have o51:g7 _ 51 Θi:=f8 g o50 (d6 T (x:="_law_flags") (f:=f_l_flags) (by decide +kernel) aj0) bq6
 have o52:g7 _ 52 Θj:=f8 g o51 (d6 T (x:="_law_open_hours") (f:=f_l_open_hours) (by decide +kernel) Q7) av7
 have o53:g7 _ 53 Θk:=f8 g o52 (d6 T (x:="_law_first") (f:=f_l_first) (by decide +kernel) aj9) a22
 have o54:g7 _ 54 Θl:=f8 g o53 (d6 T (x:="_law_put") (f:=f_l_put) (by decide +kernel) av8) cg2
 have o55:g7 _ 55 Θm:=f8 g o54 (d6 T (x:="_law_meet") (f:=f_l_meet) (by decide +kernel) ar3) bi9
 have o56:g7 _ 56 Θn:=f8 g o55 (d6 T (x:="_law_refused") (f:=f_l_refused) (by decide +kernel) ab1) aY9
 have o57:g7 _ 57 Θo:=f8 g o56 (d6 T (x:="_law_at") (f:=f_l_at) (by decide +kernel) aA4) cm0
 have o58:g7 _ 58 Θp:=f8 g o57 (d6 T (x:="_law_dropped") (f:=f_l_dropped) (by decide +kernel) ab2) aT7
 have o59:g7 _ 59 Θq:=f8 g o58 (d6 T (x:="_law_moved") (f:=f_l_moved) (by decide +kernel) ak0) bp2
 have o60:g7 _ 60 Θr:=f8 g o59 (d6 T (x:="_law_busier") (f:=f_l_busier) (by decide +kernel) ai3) a29
 have o61:g7 _ 61 Θs:=f8 g o60 (d6 T (x:="_law_filled") (f:=f_l_filled) (by decide +kernel) ah9) a57
 have o62:g7 _ 62 Θt:=f8 g o61 (d6 T (x:="_law_cast") (f:=f_l_cast) (by decide +kernel) ar0) bG5
 have o63:g7 _ 63 Θu:=f8 g o62 (d6 T (x:="_law_deed") (f:=f_l_deed) (by decide +kernel) aq1) bF3
 have o64:g7 _ 64 Θv:=f8 g o63 (d6 T (x:="_law_stands") (f:=f_l_stands) (by decide +kernel) ai0) a79
 have o65:g7 _ 65 ΦL10:=f8 g o64 (d6 T (x:="law") (f:=f_law) (by decide +kernel) a70) bL9
 exact bj5 o65 (aU0 (by decide) rfl) (by decide +kernel) hmg (by assumption) (by assumption) ⟨_,rfl,by omega,fun _=>rfl⟩ (by omega) hg (fun _=>rfl) (by first|rfl|wrow_post)
