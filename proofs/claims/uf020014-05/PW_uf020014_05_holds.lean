import PyProof.Rows.All
import Wide.All
import Open.Line
import Wide.FinOn
import OpenK.KWalk
import PyProof.TupleIter
import PyProof.RulesTry
import PyProof.TupleKey
import PyProof.DictKinds
import PyProof.DictRoadsH
import PyProof.CompFree
import PyProof.CompMap
import PyProof.Cells
import PyProof.DefCall
import PyProof.ForAny
import PyProof.RaisesMany
import PyProof.RangeIter
import PyProof.DictList
import PyProof.RulesAssignMore
import PyProof.WalksMore
import PyProof.StrWalks
import PyProof.EnumMake
import PyProof.WalksPairs
import PyProof.DictTable
import PyProof.LetGo
import PyProof.Rules2
import PyProof.Rules3
import PyProof.EvalArms
import PyProof.DictStraight
import PyProof.EnumFor
import PyProof.ZipIter
import PyProof.RulesAs
import PyProof.AssignAttr
import KE.KTryMore
import OpenK.KMake
import PyProof.ExcBaseAll.ValueError
import PyProof.ExcClass2
import KE.KDictOf
import PyProof.SetKind
import PyProof.SetRoads
import PyProof.SetNew
import PyProof.Walks
import PyProof.CollectIter
import PyProof.TupleOfSeq
import PyProof.Rows.SortWalk
import PyProof.ListRange
import PyProof.AttrMissHeap
import PyProof.AutoSeq1
import PyProof.Rows.ExtendIn
import PyProof.Rows.MinMaxN
import KE.KFind
import KE.KSetAt
import PyProof.Rows.SortBase
import KE.KSortTup
import PySem.Challenge.RW_uf020014_05
set_option Elab.async false
set_option bootstrap.genMatcherCode false
set_option autoImplicit false
set_option linter.unusedVariables false
namespace Vc
theorem xa_0_2 {p0 p1 G : Prop} (h : p0 /\ p1) (f : p0 -> p1 -> G) : G := by obtain ⟨h0, h1⟩ := h; exact f h0 h1
theorem xa_0_3 {p0 p1 p2 G : Prop} (h : p0 /\ p1 /\ p2) (f : p0 -> p1 -> p2 -> G) : G := by obtain ⟨h0, h1, h2⟩ := h; exact f h0 h1 h2
theorem xa_0_4 {p0 p1 p2 p3 G : Prop} (h : p0 /\ p1 /\ p2 /\ p3) (f : p0 -> p1 -> p2 -> p3 -> G) : G := by obtain ⟨h0, h1, h2, h3⟩ := h; exact f h0 h1 h2 h3
theorem xa_0_5 {p0 p1 p2 p3 p4 G : Prop} (h : p0 /\ p1 /\ p2 /\ p3 /\ p4) (f : p0 -> p1 -> p2 -> p3 -> p4 -> G) : G := by obtain ⟨h0, h1, h2, h3, h4⟩ := h; exact f h0 h1 h2 h3 h4
theorem xa_0_6 {p0 p1 p2 p3 p4 p5 G : Prop} (h : p0 /\ p1 /\ p2 /\ p3 /\ p4 /\ p5) (f : p0 -> p1 -> p2 -> p3 -> p4 -> p5 -> G) : G := by obtain ⟨h0, h1, h2, h3, h4, h5⟩ := h; exact f h0 h1 h2 h3 h4 h5
theorem xa_1_1.{u0} {A0 : Sort u0} {p0 : A0 -> Prop} {G : Prop} (h : ∃ a0, p0 a0) (f : ∀ a0, p0 a0 -> G) : G := by obtain ⟨a0, h0⟩ := h; exact f a0 h0
theorem xa_1_2.{u0} {A0 : Sort u0} {p0 p1 : A0 -> Prop} {G : Prop} (h : ∃ a0, p0 a0 /\ p1 a0) (f : ∀ a0, p0 a0 -> p1 a0 -> G) : G := by obtain ⟨a0, h0, h1⟩ := h; exact f a0 h0 h1
theorem xa_1_3.{u0} {A0 : Sort u0} {p0 p1 p2 : A0 -> Prop} {G : Prop} (h : ∃ a0, p0 a0 /\ p1 a0 /\ p2 a0) (f : ∀ a0, p0 a0 -> p1 a0 -> p2 a0 -> G) : G := by obtain ⟨a0, h0, h1, h2⟩ := h; exact f a0 h0 h1 h2
theorem xa_1_4.{u0} {A0 : Sort u0} {p0 p1 p2 p3 : A0 -> Prop} {G : Prop} (h : ∃ a0, p0 a0 /\ p1 a0 /\ p2 a0 /\ p3 a0) (f : ∀ a0, p0 a0 -> p1 a0 -> p2 a0 -> p3 a0 -> G) : G := by obtain ⟨a0, h0, h1, h2, h3⟩ := h; exact f a0 h0 h1 h2 h3
theorem xa_1_5.{u0} {A0 : Sort u0} {p0 p1 p2 p3 p4 : A0 -> Prop} {G : Prop} (h : ∃ a0, p0 a0 /\ p1 a0 /\ p2 a0 /\ p3 a0 /\ p4 a0) (f : ∀ a0, p0 a0 -> p1 a0 -> p2 a0 -> p3 a0 -> p4 a0 -> G) : G := by obtain ⟨a0, h0, h1, h2, h3, h4⟩ := h; exact f a0 h0 h1 h2 h3 h4
theorem xa_2_1.{u0, u1} {A0 : Sort u0} {A1 : Sort u1} {p0 : A0 -> A1 -> Prop} {G : Prop} (h : ∃ a0 a1, p0 a0 a1) (f : ∀ a0 a1, p0 a0 a1 -> G) : G := by obtain ⟨a0, a1, h0⟩ := h; exact f a0 a1 h0
theorem xa_2_2.{u0, u1} {A0 : Sort u0} {A1 : Sort u1} {p0 p1 : A0 -> A1 -> Prop} {G : Prop} (h : ∃ a0 a1, p0 a0 a1 /\ p1 a0 a1) (f : ∀ a0 a1, p0 a0 a1 -> p1 a0 a1 -> G) : G := by obtain ⟨a0, a1, h0, h1⟩ := h; exact f a0 a1 h0 h1
theorem xa_2_3.{u0, u1} {A0 : Sort u0} {A1 : Sort u1} {p0 p1 p2 : A0 -> A1 -> Prop} {G : Prop} (h : ∃ a0 a1, p0 a0 a1 /\ p1 a0 a1 /\ p2 a0 a1) (f : ∀ a0 a1, p0 a0 a1 -> p1 a0 a1 -> p2 a0 a1 -> G) : G := by obtain ⟨a0, a1, h0, h1, h2⟩ := h; exact f a0 a1 h0 h1 h2
theorem xa_2_4.{u0, u1} {A0 : Sort u0} {A1 : Sort u1} {p0 p1 p2 p3 : A0 -> A1 -> Prop} {G : Prop} (h : ∃ a0 a1, p0 a0 a1 /\ p1 a0 a1 /\ p2 a0 a1 /\ p3 a0 a1) (f : ∀ a0 a1, p0 a0 a1 -> p1 a0 a1 -> p2 a0 a1 -> p3 a0 a1 -> G) : G := by obtain ⟨a0, a1, h0, h1, h2, h3⟩ := h; exact f a0 a1 h0 h1 h2 h3
theorem xa_2_5.{u0, u1} {A0 : Sort u0} {A1 : Sort u1} {p0 p1 p2 p3 p4 : A0 -> A1 -> Prop} {G : Prop} (h : ∃ a0 a1, p0 a0 a1 /\ p1 a0 a1 /\ p2 a0 a1 /\ p3 a0 a1 /\ p4 a0 a1) (f : ∀ a0 a1, p0 a0 a1 -> p1 a0 a1 -> p2 a0 a1 -> p3 a0 a1 -> p4 a0 a1 -> G) : G := by obtain ⟨a0, a1, h0, h1, h2, h3, h4⟩ := h; exact f a0 a1 h0 h1 h2 h3 h4
theorem xa_2_6.{u0, u1} {A0 : Sort u0} {A1 : Sort u1} {p0 p1 p2 p3 p4 p5 : A0 -> A1 -> Prop} {G : Prop} (h : ∃ a0 a1, p0 a0 a1 /\ p1 a0 a1 /\ p2 a0 a1 /\ p3 a0 a1 /\ p4 a0 a1 /\ p5 a0 a1) (f : ∀ a0 a1, p0 a0 a1 -> p1 a0 a1 -> p2 a0 a1 -> p3 a0 a1 -> p4 a0 a1 -> p5 a0 a1 -> G) : G := by obtain ⟨a0, a1, h0, h1, h2, h3, h4, h5⟩ := h; exact f a0 a1 h0 h1 h2 h3 h4 h5
theorem xa_2_10.{u0, u1} {A0 : Sort u0} {A1 : Sort u1} {p0 p1 p2 p3 p4 p5 p6 p7 p8 p9 : A0 -> A1 -> Prop} {G : Prop} (h : ∃ a0 a1, p0 a0 a1 /\ p1 a0 a1 /\ p2 a0 a1 /\ p3 a0 a1 /\ p4 a0 a1 /\ p5 a0 a1 /\ p6 a0 a1 /\ p7 a0 a1 /\ p8 a0 a1 /\ p9 a0 a1) (f : ∀ a0 a1, p0 a0 a1 -> p1 a0 a1 -> p2 a0 a1 -> p3 a0 a1 -> p4 a0 a1 -> p5 a0 a1 -> p6 a0 a1 -> p7 a0 a1 -> p8 a0 a1 -> p9 a0 a1 -> G) : G := by obtain ⟨a0, a1, h0, h1, h2, h3, h4, h5, h6, h7, h8, h9⟩ := h; exact f a0 a1 h0 h1 h2 h3 h4 h5 h6 h7 h8 h9
theorem xa_3_1.{u0, u1, u2} {A0 : Sort u0} {A1 : Sort u1} {A2 : Sort u2} {p0 : A0 -> A1 -> A2 -> Prop} {G : Prop} (h : ∃ a0 a1 a2, p0 a0 a1 a2) (f : ∀ a0 a1 a2, p0 a0 a1 a2 -> G) : G := by obtain ⟨a0, a1, a2, h0⟩ := h; exact f a0 a1 a2 h0
theorem xa_3_2.{u0, u1, u2} {A0 : Sort u0} {A1 : Sort u1} {A2 : Sort u2} {p0 p1 : A0 -> A1 -> A2 -> Prop} {G : Prop} (h : ∃ a0 a1 a2, p0 a0 a1 a2 /\ p1 a0 a1 a2) (f : ∀ a0 a1 a2, p0 a0 a1 a2 -> p1 a0 a1 a2 -> G) : G := by obtain ⟨a0, a1, a2, h0, h1⟩ := h; exact f a0 a1 a2 h0 h1
theorem xa_3_3.{u0, u1, u2} {A0 : Sort u0} {A1 : Sort u1} {A2 : Sort u2} {p0 p1 p2 : A0 -> A1 -> A2 -> Prop} {G : Prop} (h : ∃ a0 a1 a2, p0 a0 a1 a2 /\ p1 a0 a1 a2 /\ p2 a0 a1 a2) (f : ∀ a0 a1 a2, p0 a0 a1 a2 -> p1 a0 a1 a2 -> p2 a0 a1 a2 -> G) : G := by obtain ⟨a0, a1, a2, h0, h1, h2⟩ := h; exact f a0 a1 a2 h0 h1 h2
theorem xa_3_4.{u0, u1, u2} {A0 : Sort u0} {A1 : Sort u1} {A2 : Sort u2} {p0 p1 p2 p3 : A0 -> A1 -> A2 -> Prop} {G : Prop} (h : ∃ a0 a1 a2, p0 a0 a1 a2 /\ p1 a0 a1 a2 /\ p2 a0 a1 a2 /\ p3 a0 a1 a2) (f : ∀ a0 a1 a2, p0 a0 a1 a2 -> p1 a0 a1 a2 -> p2 a0 a1 a2 -> p3 a0 a1 a2 -> G) : G := by obtain ⟨a0, a1, a2, h0, h1, h2, h3⟩ := h; exact f a0 a1 a2 h0 h1 h2 h3
theorem xa_3_5.{u0, u1, u2} {A0 : Sort u0} {A1 : Sort u1} {A2 : Sort u2} {p0 p1 p2 p3 p4 : A0 -> A1 -> A2 -> Prop} {G : Prop} (h : ∃ a0 a1 a2, p0 a0 a1 a2 /\ p1 a0 a1 a2 /\ p2 a0 a1 a2 /\ p3 a0 a1 a2 /\ p4 a0 a1 a2) (f : ∀ a0 a1 a2, p0 a0 a1 a2 -> p1 a0 a1 a2 -> p2 a0 a1 a2 -> p3 a0 a1 a2 -> p4 a0 a1 a2 -> G) : G := by obtain ⟨a0, a1, a2, h0, h1, h2, h3, h4⟩ := h; exact f a0 a1 a2 h0 h1 h2 h3 h4
theorem xa_3_6.{u0, u1, u2} {A0 : Sort u0} {A1 : Sort u1} {A2 : Sort u2} {p0 p1 p2 p3 p4 p5 : A0 -> A1 -> A2 -> Prop} {G : Prop} (h : ∃ a0 a1 a2, p0 a0 a1 a2 /\ p1 a0 a1 a2 /\ p2 a0 a1 a2 /\ p3 a0 a1 a2 /\ p4 a0 a1 a2 /\ p5 a0 a1 a2) (f : ∀ a0 a1 a2, p0 a0 a1 a2 -> p1 a0 a1 a2 -> p2 a0 a1 a2 -> p3 a0 a1 a2 -> p4 a0 a1 a2 -> p5 a0 a1 a2 -> G) : G := by obtain ⟨a0, a1, a2, h0, h1, h2, h3, h4, h5⟩ := h; exact f a0 a1 a2 h0 h1 h2 h3 h4 h5
theorem xa_3_7.{u0, u1, u2} {A0 : Sort u0} {A1 : Sort u1} {A2 : Sort u2} {p0 p1 p2 p3 p4 p5 p6 : A0 -> A1 -> A2 -> Prop} {G : Prop} (h : ∃ a0 a1 a2, p0 a0 a1 a2 /\ p1 a0 a1 a2 /\ p2 a0 a1 a2 /\ p3 a0 a1 a2 /\ p4 a0 a1 a2 /\ p5 a0 a1 a2 /\ p6 a0 a1 a2) (f : ∀ a0 a1 a2, p0 a0 a1 a2 -> p1 a0 a1 a2 -> p2 a0 a1 a2 -> p3 a0 a1 a2 -> p4 a0 a1 a2 -> p5 a0 a1 a2 -> p6 a0 a1 a2 -> G) : G := by obtain ⟨a0, a1, a2, h0, h1, h2, h3, h4, h5, h6⟩ := h; exact f a0 a1 a2 h0 h1 h2 h3 h4 h5 h6
theorem xa_4_2.{u0, u1, u2, u3} {A0 : Sort u0} {A1 : Sort u1} {A2 : Sort u2} {A3 : Sort u3} {p0 p1 : A0 -> A1 -> A2 -> A3 -> Prop} {G : Prop} (h : ∃ a0 a1 a2 a3, p0 a0 a1 a2 a3 /\ p1 a0 a1 a2 a3) (f : ∀ a0 a1 a2 a3, p0 a0 a1 a2 a3 -> p1 a0 a1 a2 a3 -> G) : G := by obtain ⟨a0, a1, a2, a3, h0, h1⟩ := h; exact f a0 a1 a2 a3 h0 h1
theorem xa_4_3.{u0, u1, u2, u3} {A0 : Sort u0} {A1 : Sort u1} {A2 : Sort u2} {A3 : Sort u3} {p0 p1 p2 : A0 -> A1 -> A2 -> A3 -> Prop} {G : Prop} (h : ∃ a0 a1 a2 a3, p0 a0 a1 a2 a3 /\ p1 a0 a1 a2 a3 /\ p2 a0 a1 a2 a3) (f : ∀ a0 a1 a2 a3, p0 a0 a1 a2 a3 -> p1 a0 a1 a2 a3 -> p2 a0 a1 a2 a3 -> G) : G := by obtain ⟨a0, a1, a2, a3, h0, h1, h2⟩ := h; exact f a0 a1 a2 a3 h0 h1 h2
theorem xa_4_5.{u0, u1, u2, u3} {A0 : Sort u0} {A1 : Sort u1} {A2 : Sort u2} {A3 : Sort u3} {p0 p1 p2 p3 p4 : A0 -> A1 -> A2 -> A3 -> Prop} {G : Prop} (h : ∃ a0 a1 a2 a3, p0 a0 a1 a2 a3 /\ p1 a0 a1 a2 a3 /\ p2 a0 a1 a2 a3 /\ p3 a0 a1 a2 a3 /\ p4 a0 a1 a2 a3) (f : ∀ a0 a1 a2 a3, p0 a0 a1 a2 a3 -> p1 a0 a1 a2 a3 -> p2 a0 a1 a2 a3 -> p3 a0 a1 a2 a3 -> p4 a0 a1 a2 a3 -> G) : G := by obtain ⟨a0, a1, a2, a3, h0, h1, h2, h3, h4⟩ := h; exact f a0 a1 a2 a3 h0 h1 h2 h3 h4
theorem xa_4_7.{u0, u1, u2, u3} {A0 : Sort u0} {A1 : Sort u1} {A2 : Sort u2} {A3 : Sort u3} {p0 p1 p2 p3 p4 p5 p6 : A0 -> A1 -> A2 -> A3 -> Prop} {G : Prop} (h : ∃ a0 a1 a2 a3, p0 a0 a1 a2 a3 /\ p1 a0 a1 a2 a3 /\ p2 a0 a1 a2 a3 /\ p3 a0 a1 a2 a3 /\ p4 a0 a1 a2 a3 /\ p5 a0 a1 a2 a3 /\ p6 a0 a1 a2 a3) (f : ∀ a0 a1 a2 a3, p0 a0 a1 a2 a3 -> p1 a0 a1 a2 a3 -> p2 a0 a1 a2 a3 -> p3 a0 a1 a2 a3 -> p4 a0 a1 a2 a3 -> p5 a0 a1 a2 a3 -> p6 a0 a1 a2 a3 -> G) : G := by obtain ⟨a0, a1, a2, a3, h0, h1, h2, h3, h4, h5, h6⟩ := h; exact f a0 a1 a2 a3 h0 h1 h2 h3 h4 h5 h6
theorem xa_4_8.{u0, u1, u2, u3} {A0 : Sort u0} {A1 : Sort u1} {A2 : Sort u2} {A3 : Sort u3} {p0 p1 p2 p3 p4 p5 p6 p7 : A0 -> A1 -> A2 -> A3 -> Prop} {G : Prop} (h : ∃ a0 a1 a2 a3, p0 a0 a1 a2 a3 /\ p1 a0 a1 a2 a3 /\ p2 a0 a1 a2 a3 /\ p3 a0 a1 a2 a3 /\ p4 a0 a1 a2 a3 /\ p5 a0 a1 a2 a3 /\ p6 a0 a1 a2 a3 /\ p7 a0 a1 a2 a3) (f : ∀ a0 a1 a2 a3, p0 a0 a1 a2 a3 -> p1 a0 a1 a2 a3 -> p2 a0 a1 a2 a3 -> p3 a0 a1 a2 a3 -> p4 a0 a1 a2 a3 -> p5 a0 a1 a2 a3 -> p6 a0 a1 a2 a3 -> p7 a0 a1 a2 a3 -> G) : G := by obtain ⟨a0, a1, a2, a3, h0, h1, h2, h3, h4, h5, h6, h7⟩ := h; exact f a0 a1 a2 a3 h0 h1 h2 h3 h4 h5 h6 h7
theorem xa_5_4.{u0, u1, u2, u3, u4} {A0 : Sort u0} {A1 : Sort u1} {A2 : Sort u2} {A3 : Sort u3} {A4 : Sort u4} {p0 p1 p2 p3 : A0 -> A1 -> A2 -> A3 -> A4 -> Prop} {G : Prop} (h : ∃ a0 a1 a2 a3 a4, p0 a0 a1 a2 a3 a4 /\ p1 a0 a1 a2 a3 a4 /\ p2 a0 a1 a2 a3 a4 /\ p3 a0 a1 a2 a3 a4) (f : ∀ a0 a1 a2 a3 a4, p0 a0 a1 a2 a3 a4 -> p1 a0 a1 a2 a3 a4 -> p2 a0 a1 a2 a3 a4 -> p3 a0 a1 a2 a3 a4 -> G) : G := by obtain ⟨a0, a1, a2, a3, a4, h0, h1, h2, h3⟩ := h; exact f a0 a1 a2 a3 a4 h0 h1 h2 h3
theorem xa_5_5.{u0, u1, u2, u3, u4} {A0 : Sort u0} {A1 : Sort u1} {A2 : Sort u2} {A3 : Sort u3} {A4 : Sort u4} {p0 p1 p2 p3 p4 : A0 -> A1 -> A2 -> A3 -> A4 -> Prop} {G : Prop} (h : ∃ a0 a1 a2 a3 a4, p0 a0 a1 a2 a3 a4 /\ p1 a0 a1 a2 a3 a4 /\ p2 a0 a1 a2 a3 a4 /\ p3 a0 a1 a2 a3 a4 /\ p4 a0 a1 a2 a3 a4) (f : ∀ a0 a1 a2 a3 a4, p0 a0 a1 a2 a3 a4 -> p1 a0 a1 a2 a3 a4 -> p2 a0 a1 a2 a3 a4 -> p3 a0 a1 a2 a3 a4 -> p4 a0 a1 a2 a3 a4 -> G) : G := by obtain ⟨a0, a1, a2, a3, a4, h0, h1, h2, h3, h4⟩ := h; exact f a0 a1 a2 a3 a4 h0 h1 h2 h3 h4
theorem xa_5_6.{u0, u1, u2, u3, u4} {A0 : Sort u0} {A1 : Sort u1} {A2 : Sort u2} {A3 : Sort u3} {A4 : Sort u4} {p0 p1 p2 p3 p4 p5 : A0 -> A1 -> A2 -> A3 -> A4 -> Prop} {G : Prop} (h : ∃ a0 a1 a2 a3 a4, p0 a0 a1 a2 a3 a4 /\ p1 a0 a1 a2 a3 a4 /\ p2 a0 a1 a2 a3 a4 /\ p3 a0 a1 a2 a3 a4 /\ p4 a0 a1 a2 a3 a4 /\ p5 a0 a1 a2 a3 a4) (f : ∀ a0 a1 a2 a3 a4, p0 a0 a1 a2 a3 a4 -> p1 a0 a1 a2 a3 a4 -> p2 a0 a1 a2 a3 a4 -> p3 a0 a1 a2 a3 a4 -> p4 a0 a1 a2 a3 a4 -> p5 a0 a1 a2 a3 a4 -> G) : G := by obtain ⟨a0, a1, a2, a3, a4, h0, h1, h2, h3, h4, h5⟩ := h; exact f a0 a1 a2 a3 a4 h0 h1 h2 h3 h4 h5
theorem xa_6_6.{u0, u1, u2, u3, u4, u5} {A0 : Sort u0} {A1 : Sort u1} {A2 : Sort u2} {A3 : Sort u3} {A4 : Sort u4} {A5 : Sort u5} {p0 p1 p2 p3 p4 p5 : A0 -> A1 -> A2 -> A3 -> A4 -> A5 -> Prop} {G : Prop} (h : ∃ a0 a1 a2 a3 a4 a5, p0 a0 a1 a2 a3 a4 a5 /\ p1 a0 a1 a2 a3 a4 a5 /\ p2 a0 a1 a2 a3 a4 a5 /\ p3 a0 a1 a2 a3 a4 a5 /\ p4 a0 a1 a2 a3 a4 a5 /\ p5 a0 a1 a2 a3 a4 a5) (f : ∀ a0 a1 a2 a3 a4 a5, p0 a0 a1 a2 a3 a4 a5 -> p1 a0 a1 a2 a3 a4 a5 -> p2 a0 a1 a2 a3 a4 a5 -> p3 a0 a1 a2 a3 a4 a5 -> p4 a0 a1 a2 a3 a4 a5 -> p5 a0 a1 a2 a3 a4 a5 -> G) : G := by obtain ⟨a0, a1, a2, a3, a4, a5, h0, h1, h2, h3, h4, h5⟩ := h; exact f a0 a1 a2 a3 a4 a5 h0 h1 h2 h3 h4 h5
theorem xa_8_7.{u0, u1, u2, u3, u4, u5, u6, u7} {A0 : Sort u0} {A1 : Sort u1} {A2 : Sort u2} {A3 : Sort u3} {A4 : Sort u4} {A5 : Sort u5} {A6 : Sort u6} {A7 : Sort u7} {p0 p1 p2 p3 p4 p5 p6 : A0 -> A1 -> A2 -> A3 -> A4 -> A5 -> A6 -> A7 -> Prop} {G : Prop} (h : ∃ a0 a1 a2 a3 a4 a5 a6 a7, p0 a0 a1 a2 a3 a4 a5 a6 a7 /\ p1 a0 a1 a2 a3 a4 a5 a6 a7 /\ p2 a0 a1 a2 a3 a4 a5 a6 a7 /\ p3 a0 a1 a2 a3 a4 a5 a6 a7 /\ p4 a0 a1 a2 a3 a4 a5 a6 a7 /\ p5 a0 a1 a2 a3 a4 a5 a6 a7 /\ p6 a0 a1 a2 a3 a4 a5 a6 a7) (f : ∀ a0 a1 a2 a3 a4 a5 a6 a7, p0 a0 a1 a2 a3 a4 a5 a6 a7 -> p1 a0 a1 a2 a3 a4 a5 a6 a7 -> p2 a0 a1 a2 a3 a4 a5 a6 a7 -> p3 a0 a1 a2 a3 a4 a5 a6 a7 -> p4 a0 a1 a2 a3 a4 a5 a6 a7 -> p5 a0 a1 a2 a3 a4 a5 a6 a7 -> p6 a0 a1 a2 a3 a4 a5 a6 a7 -> G) : G := by obtain ⟨a0, a1, a2, a3, a4, a5, a6, a7, h0, h1, h2, h3, h4, h5, h6⟩ := h; exact f a0 a1 a2 a3 a4 a5 a6 a7 h0 h1 h2 h3 h4 h5 h6
theorem xi_2_2.{u0, u1} {A0 : Sort u0} {A1 : Sort u1} {p0 p1 : A0 -> A1 -> Prop} (a0 : A0) (a1 : A1) (h0 : p0 a0 a1) (h1 : p1 a0 a1)  : ∃ a0 a1, p0 a0 a1 /\ p1 a0 a1 := ⟨a0, a1, h0, h1⟩
theorem xi_2_3.{u0, u1} {A0 : Sort u0} {A1 : Sort u1} {p0 p1 p2 : A0 -> A1 -> Prop} (a0 : A0) (a1 : A1) (h0 : p0 a0 a1) (h1 : p1 a0 a1) (h2 : p2 a0 a1)  : ∃ a0 a1, p0 a0 a1 /\ p1 a0 a1 /\ p2 a0 a1 := ⟨a0, a1, h0, h1, h2⟩
theorem xi_2_4.{u0, u1} {A0 : Sort u0} {A1 : Sort u1} {p0 p1 p2 p3 : A0 -> A1 -> Prop} (a0 : A0) (a1 : A1) (h0 : p0 a0 a1) (h1 : p1 a0 a1) (h2 : p2 a0 a1) (h3 : p3 a0 a1)  : ∃ a0 a1, p0 a0 a1 /\ p1 a0 a1 /\ p2 a0 a1 /\ p3 a0 a1 := ⟨a0, a1, h0, h1, h2, h3⟩
theorem xi_2_5.{u0, u1} {A0 : Sort u0} {A1 : Sort u1} {p0 p1 p2 p3 p4 : A0 -> A1 -> Prop} (a0 : A0) (a1 : A1) (h0 : p0 a0 a1) (h1 : p1 a0 a1) (h2 : p2 a0 a1) (h3 : p3 a0 a1) (h4 : p4 a0 a1)  : ∃ a0 a1, p0 a0 a1 /\ p1 a0 a1 /\ p2 a0 a1 /\ p3 a0 a1 /\ p4 a0 a1 := ⟨a0, a1, h0, h1, h2, h3, h4⟩
theorem xi_2_6.{u0, u1} {A0 : Sort u0} {A1 : Sort u1} {p0 p1 p2 p3 p4 p5 : A0 -> A1 -> Prop} (a0 : A0) (a1 : A1) (h0 : p0 a0 a1) (h1 : p1 a0 a1) (h2 : p2 a0 a1) (h3 : p3 a0 a1) (h4 : p4 a0 a1) (h5 : p5 a0 a1)  : ∃ a0 a1, p0 a0 a1 /\ p1 a0 a1 /\ p2 a0 a1 /\ p3 a0 a1 /\ p4 a0 a1 /\ p5 a0 a1 := ⟨a0, a1, h0, h1, h2, h3, h4, h5⟩
theorem xi_2_10.{u0, u1} {A0 : Sort u0} {A1 : Sort u1} {p0 p1 p2 p3 p4 p5 p6 p7 p8 p9 : A0 -> A1 -> Prop} (a0 : A0) (a1 : A1) (h0 : p0 a0 a1) (h1 : p1 a0 a1) (h2 : p2 a0 a1) (h3 : p3 a0 a1) (h4 : p4 a0 a1) (h5 : p5 a0 a1) (h6 : p6 a0 a1) (h7 : p7 a0 a1) (h8 : p8 a0 a1) (h9 : p9 a0 a1)  : ∃ a0 a1, p0 a0 a1 /\ p1 a0 a1 /\ p2 a0 a1 /\ p3 a0 a1 /\ p4 a0 a1 /\ p5 a0 a1 /\ p6 a0 a1 /\ p7 a0 a1 /\ p8 a0 a1 /\ p9 a0 a1 := ⟨a0, a1, h0, h1, h2, h3, h4, h5, h6, h7, h8, h9⟩
theorem xi_3_3.{u0, u1, u2} {A0 : Sort u0} {A1 : Sort u1} {A2 : Sort u2} {p0 p1 p2 : A0 -> A1 -> A2 -> Prop} (a0 : A0) (a1 : A1) (a2 : A2) (h0 : p0 a0 a1 a2) (h1 : p1 a0 a1 a2) (h2 : p2 a0 a1 a2)  : ∃ a0 a1 a2, p0 a0 a1 a2 /\ p1 a0 a1 a2 /\ p2 a0 a1 a2 := ⟨a0, a1, a2, h0, h1, h2⟩
theorem xi_3_5.{u0, u1, u2} {A0 : Sort u0} {A1 : Sort u1} {A2 : Sort u2} {p0 p1 p2 p3 p4 : A0 -> A1 -> A2 -> Prop} (a0 : A0) (a1 : A1) (a2 : A2) (h0 : p0 a0 a1 a2) (h1 : p1 a0 a1 a2) (h2 : p2 a0 a1 a2) (h3 : p3 a0 a1 a2) (h4 : p4 a0 a1 a2)  : ∃ a0 a1 a2, p0 a0 a1 a2 /\ p1 a0 a1 a2 /\ p2 a0 a1 a2 /\ p3 a0 a1 a2 /\ p4 a0 a1 a2 := ⟨a0, a1, a2, h0, h1, h2, h3, h4⟩
theorem xi_3_6.{u0, u1, u2} {A0 : Sort u0} {A1 : Sort u1} {A2 : Sort u2} {p0 p1 p2 p3 p4 p5 : A0 -> A1 -> A2 -> Prop} (a0 : A0) (a1 : A1) (a2 : A2) (h0 : p0 a0 a1 a2) (h1 : p1 a0 a1 a2) (h2 : p2 a0 a1 a2) (h3 : p3 a0 a1 a2) (h4 : p4 a0 a1 a2) (h5 : p5 a0 a1 a2)  : ∃ a0 a1 a2, p0 a0 a1 a2 /\ p1 a0 a1 a2 /\ p2 a0 a1 a2 /\ p3 a0 a1 a2 /\ p4 a0 a1 a2 /\ p5 a0 a1 a2 := ⟨a0, a1, a2, h0, h1, h2, h3, h4, h5⟩
theorem xi_4_5.{u0, u1, u2, u3} {A0 : Sort u0} {A1 : Sort u1} {A2 : Sort u2} {A3 : Sort u3} {p0 p1 p2 p3 p4 : A0 -> A1 -> A2 -> A3 -> Prop} (a0 : A0) (a1 : A1) (a2 : A2) (a3 : A3) (h0 : p0 a0 a1 a2 a3) (h1 : p1 a0 a1 a2 a3) (h2 : p2 a0 a1 a2 a3) (h3 : p3 a0 a1 a2 a3) (h4 : p4 a0 a1 a2 a3)  : ∃ a0 a1 a2 a3, p0 a0 a1 a2 a3 /\ p1 a0 a1 a2 a3 /\ p2 a0 a1 a2 a3 /\ p3 a0 a1 a2 a3 /\ p4 a0 a1 a2 a3 := ⟨a0, a1, a2, a3, h0, h1, h2, h3, h4⟩
theorem xi_4_7.{u0, u1, u2, u3} {A0 : Sort u0} {A1 : Sort u1} {A2 : Sort u2} {A3 : Sort u3} {p0 p1 p2 p3 p4 p5 p6 : A0 -> A1 -> A2 -> A3 -> Prop} (a0 : A0) (a1 : A1) (a2 : A2) (a3 : A3) (h0 : p0 a0 a1 a2 a3) (h1 : p1 a0 a1 a2 a3) (h2 : p2 a0 a1 a2 a3) (h3 : p3 a0 a1 a2 a3) (h4 : p4 a0 a1 a2 a3) (h5 : p5 a0 a1 a2 a3) (h6 : p6 a0 a1 a2 a3)  : ∃ a0 a1 a2 a3, p0 a0 a1 a2 a3 /\ p1 a0 a1 a2 a3 /\ p2 a0 a1 a2 a3 /\ p3 a0 a1 a2 a3 /\ p4 a0 a1 a2 a3 /\ p5 a0 a1 a2 a3 /\ p6 a0 a1 a2 a3 := ⟨a0, a1, a2, a3, h0, h1, h2, h3, h4, h5, h6⟩
theorem xi_4_8.{u0, u1, u2, u3} {A0 : Sort u0} {A1 : Sort u1} {A2 : Sort u2} {A3 : Sort u3} {p0 p1 p2 p3 p4 p5 p6 p7 : A0 -> A1 -> A2 -> A3 -> Prop} (a0 : A0) (a1 : A1) (a2 : A2) (a3 : A3) (h0 : p0 a0 a1 a2 a3) (h1 : p1 a0 a1 a2 a3) (h2 : p2 a0 a1 a2 a3) (h3 : p3 a0 a1 a2 a3) (h4 : p4 a0 a1 a2 a3) (h5 : p5 a0 a1 a2 a3) (h6 : p6 a0 a1 a2 a3) (h7 : p7 a0 a1 a2 a3)  : ∃ a0 a1 a2 a3, p0 a0 a1 a2 a3 /\ p1 a0 a1 a2 a3 /\ p2 a0 a1 a2 a3 /\ p3 a0 a1 a2 a3 /\ p4 a0 a1 a2 a3 /\ p5 a0 a1 a2 a3 /\ p6 a0 a1 a2 a3 /\ p7 a0 a1 a2 a3 := ⟨a0, a1, a2, a3, h0, h1, h2, h3, h4, h5, h6, h7⟩
theorem xi_8_7.{u0, u1, u2, u3, u4, u5, u6, u7} {A0 : Sort u0} {A1 : Sort u1} {A2 : Sort u2} {A3 : Sort u3} {A4 : Sort u4} {A5 : Sort u5} {A6 : Sort u6} {A7 : Sort u7} {p0 p1 p2 p3 p4 p5 p6 : A0 -> A1 -> A2 -> A3 -> A4 -> A5 -> A6 -> A7 -> Prop} (a0 : A0) (a1 : A1) (a2 : A2) (a3 : A3) (a4 : A4) (a5 : A5) (a6 : A6) (a7 : A7) (h0 : p0 a0 a1 a2 a3 a4 a5 a6 a7) (h1 : p1 a0 a1 a2 a3 a4 a5 a6 a7) (h2 : p2 a0 a1 a2 a3 a4 a5 a6 a7) (h3 : p3 a0 a1 a2 a3 a4 a5 a6 a7) (h4 : p4 a0 a1 a2 a3 a4 a5 a6 a7) (h5 : p5 a0 a1 a2 a3 a4 a5 a6 a7) (h6 : p6 a0 a1 a2 a3 a4 a5 a6 a7)  : ∃ a0 a1 a2 a3 a4 a5 a6 a7, p0 a0 a1 a2 a3 a4 a5 a6 a7 /\ p1 a0 a1 a2 a3 a4 a5 a6 a7 /\ p2 a0 a1 a2 a3 a4 a5 a6 a7 /\ p3 a0 a1 a2 a3 a4 a5 a6 a7 /\ p4 a0 a1 a2 a3 a4 a5 a6 a7 /\ p5 a0 a1 a2 a3 a4 a5 a6 a7 /\ p6 a0 a1 a2 a3 a4 a5 a6 a7 := ⟨a0, a1, a2, a3, a4, a5, a6, a7, h0, h1, h2, h3, h4, h5, h6⟩
end Vc
namespace Vc
open PySem PySem.W in
noncomputable def ke (P : Params) (x : String) (t : Nat) (v : Value) : DictEntry := ⟨PyData.keyHash P (Str.ofString x), .str (Str.ofString x) t, v⟩
end Vc
section
namespace Vc
open PySem PyProof.Rows
noncomputable def isNm : Stmt -> Bool
 | .Assign [.Name x _] _ _ => x == Str.ofString "__name__"
 | _ => false
noncomputable def view (p : Program) : Program := { p with main := { p.main with body := p.main.body.filter (fun t => !isNm t) } }
noncomputable def methIn (m : String) : List Stmt -> Option (Arguments × List Stmt × Scope)
 | [] => none
 | .FunctionDef name a b _ _ _ sc _ _ _ :: r => if name == Str.ofString m then some (a, b, sc) else methIn m r
 | _ :: r => methIn m r
noncomputable def methAt (c m : String) : List Stmt -> Option (Arguments × List Stmt × Scope)
 | [] => none
 | .ClassDef name _ _ body _ _ _ _ _ _ _ :: r => if name == Str.ofString c then methIn m body else methAt c m r
 | _ :: r => methAt c m r
noncomputable def noArgs : Arguments := { posonlyargs := [], args := [], vararg := none, kwonlyargs := [], kw_defaults := [], kwarg := none, defaults := [] }
noncomputable def methP (p : Program) (c m : String) : Arguments := match methAt c m p.main.body with | some (a, _, _) => a | none => noArgs
noncomputable def methB (p : Program) (c m : String) : List Stmt := match methAt c m p.main.body with | some (_, b, _) => b | none => []
noncomputable def methS (p : Program) (c m : String) : Scope := match methAt c m p.main.body with | some (_, _, s) => s | none => { kind := .function, names := [], isGenerator := false, isCoroutine := false }
end Vc
end
section
open PySem PySem.W PyProof.Rows
set_option maxRecDepth 100000
set_option maxHeartbeats 8000000
namespace Mine
noncomputable def K05 (P : Params) : Frag := [
 (3, { cls := Value.type "dict", data := Data.dict #[Vc.ke P "__name__" 165 (Value.str (Str.ofString "law_uf020014_05") 296), Vc.ke P "__doc__" 166 (Value.none), Vc.ke P "__package__" 167 (Value.none), Vc.ke P "__loader__" 168 (Value.builtin "__main__.__loader__#opaque"), Vc.ke P "__spec__" 169 (Value.none), Vc.ke P "__annotations__" 170 (Value.ref 6), Vc.ke P "__builtins__" 171 (Value.ref 4), Vc.ke P "__file__" 173 (Value.str (Str.ofString "/claim/cut.py") 172), Vc.ke P "__cached__" 174 (Value.none), Vc.ke P "given_of" 199 (Value.ref 21), Vc.ke P "wanted_from" 213 (Value.ref 28), Vc.ke P "Walk" 260 (Value.ref 55), Vc.ke P "least_digits" 269 (Value.ref 66), Vc.ke P "has_room" 275 (Value.ref 71), Vc.ke P "sets_of" 283 (Value.ref 76), Vc.ke P "is_within" 289 (Value.ref 81), Vc.ke P "least_sets" 295 (Value.ref 86), Vc.ke P "_law_cell" 305 (Value.ref 93), Vc.ke P "_law_mixed" 313 (Value.ref 100), Vc.ke P "_law_part" 325 (Value.ref 107), Vc.ke P "_law_work" 331 (Value.ref 112), Vc.ke P "_law_due" 341 (Value.ref 119), Vc.ke P "_law_run" 352 (Value.ref 126), Vc.ke P "_law_given" 358 (Value.ref 131), Vc.ke P "_law_look" 376 (Value.ref 138), Vc.ke P "_law_looks" 390 (Value.ref 145), Vc.ke P "_law_all" 407 (Value.ref 152), Vc.ke P "_law_leaves" 418 (Value.ref 159), Vc.ke P "_law_subsets" 424 (Value.ref 164), Vc.ke P "_law_within" 430 (Value.ref 169), Vc.ke P "_law_least" 436 (Value.ref 174), Vc.ke P "_law_sets_same" 442 (Value.ref 179), Vc.ke P "law" 448 (Value.ref 184)] 33 }),
 (41, { cls := Value.type "code", data := Data.fields #[Value.str (Str.ofString "__init__") 226, Value.str (Str.ofString "Walk.__init__") 227, Value.str (Str.ofString "/claim/cut.py") 228, Value.int 24 0, Value.int 4 0, Value.int 0 0, Value.int 0 0, Value.int 3 0, Value.ref 36, Value.bool true, Value.int 181 0, Value.ref 37, Value.none, Value.ref 38, Value.ref 39, Value.ref 40, Value.int 233 0, Value.int 24 0, Value.str (Str.ofString "/claim/cut.py") 234] }),
 (42, { cls := Value.type "function", data := Data.func { name := Str.ofString "__init__", qualname := Str.ofString "Walk.__init__", params := Vc.methP PySem.Challenge.pw_uf020014_05 "Walk" "__init__", body := PySem.FuncBody.stmts (Vc.methB PySem.Challenge.pw_uf020014_05 "Walk" "__init__"), scope := Vc.methS PySem.Challenge.pw_uf020014_05 "Walk" "__init__", globals := 3, closure := [], defaults := Value.none, kwdefaults := Value.none, pyModule := Value.str (Str.ofString "whichbroke.rooms") 200, code := Value.ref 41 } }),
 (46, { cls := Value.type "code", data := Data.fields #[Value.str (Str.ofString "choices") 236, Value.str (Str.ofString "Walk.choices") 237, Value.str (Str.ofString "/claim/cut.py") 238, Value.int 31 0, Value.int 3 0, Value.int 0 0, Value.int 0 0, Value.int 3 0, Value.ref 43, Value.bool true, Value.int 181 0, Value.ref 44, Value.none, Value.none, Value.none, Value.ref 45, Value.int 239 0, Value.int 31 0, Value.str (Str.ofString "/claim/cut.py") 240] }),
 (47, { cls := Value.type "function", data := Data.func { name := Str.ofString "choices", qualname := Str.ofString "Walk.choices", params := Vc.methP PySem.Challenge.pw_uf020014_05 "Walk" "choices", body := PySem.FuncBody.stmts (Vc.methB PySem.Challenge.pw_uf020014_05 "Walk" "choices"), scope := Vc.methS PySem.Challenge.pw_uf020014_05 "Walk" "choices", globals := 3, closure := [], defaults := Value.none, kwdefaults := Value.none, pyModule := Value.str (Str.ofString "whichbroke.rooms") 200, code := Value.ref 46 } }),
 (51, { cls := Value.type "code", data := Data.fields #[Value.str (Str.ofString "grown") 242, Value.str (Str.ofString "Walk.grown") 243, Value.str (Str.ofString "/claim/cut.py") 244, Value.int 39 0, Value.int 2 0, Value.int 0 0, Value.int 0 0, Value.int 3 0, Value.ref 48, Value.bool true, Value.int 181 0, Value.ref 49, Value.none, Value.none, Value.none, Value.ref 50, Value.int 245 0, Value.int 39 0, Value.str (Str.ofString "/claim/cut.py") 246] }),
 (52, { cls := Value.type "function", data := Data.func { name := Str.ofString "grown", qualname := Str.ofString "Walk.grown", params := Vc.methP PySem.Challenge.pw_uf020014_05 "Walk" "grown", body := PySem.FuncBody.stmts (Vc.methB PySem.Challenge.pw_uf020014_05 "Walk" "grown"), scope := Vc.methS PySem.Challenge.pw_uf020014_05 "Walk" "grown", globals := 3, closure := [], defaults := Value.none, kwdefaults := Value.none, pyModule := Value.str (Str.ofString "whichbroke.rooms") 200, code := Value.ref 51 } }),
 (54, { cls := Value.type "dict", data := Data.dict #[Vc.ke P "__module__" 221 (Value.str (Str.ofString "whichbroke.rooms") 200), Vc.ke P "__firstlineno__" 225 (Value.int 22 224), Vc.ke P "__init__" 235 (Value.ref 42), Vc.ke P "choices" 241 (Value.ref 47), Vc.ke P "grown" 247 (Value.ref 52), Vc.ke P "__static_attributes__" 253 (Value.ref 53), Vc.ke P "__dict__" 255 (Value.ref 56), Vc.ke P "__weakref__" 257 (Value.ref 57), Vc.ke P "__doc__" 258 (Value.none)] 4 }),
 (55, { cls := Value.type "type", data := Data.cls { name := Str.ofString "Walk", bases := [Value.type "object"], mro := [Value.ref 55, Value.type "object"], ns := 54, qualname := Str.ofString "Walk" }, slots := #[none, none, some (Value.str (Str.ofString "Walk") 214), some (Value.str (Str.ofString "Walk") 222), some (Value.builtin "object.__new__"), some (Value.bool true)] })]
noncomputable def as05 : List Addr := [3, 41, 42, 46, 47, 51, 52, 54, 55]
theorem as05_e : ∀ P, as05 = (K05 P).map (·.1) := fun zz => rfl
noncomputable abbrev hk05 : Hook := kHook K05 as05 as05_e
noncomputable abbrev xt05 : Shared -> Bool := fun s => xlAt (Vc.view PySem.Challenge.pw_uf020014_05) [] s && recOk (RowW.records PySem.Challenge.rw_uf020014_05.row.toRowW) s
theorem runA : ∀ w, (openEnds treeTable PySem.Challenge.pw_uf020014_05 w 2148).map (fun s => (openSeen (Vc.view PySem.Challenge.pw_uf020014_05) [] (importedModules PySem.Challenge.pw_uf020014_05.main.body) xt05 true s).2) = some ((openGood (Vc.view PySem.Challenge.pw_uf020014_05) []).2) := fun w => by kernel_rfl
theorem runB : ∀ w, (openEnds treeTable PySem.Challenge.pw_uf020014_05 w 2148).map (fun s => (openSeen (Vc.view PySem.Challenge.pw_uf020014_05) [] (importedModules PySem.Challenge.pw_uf020014_05.main.body) xt05 true s).1) = some ((openGood (Vc.view PySem.Challenge.pw_uf020014_05) []).1) := fun w => by kernel_rfl
theorem runC : ∀ w, (openEnds treeTable PySem.Challenge.pw_uf020014_05 w 2148).map (fun s => Hook.obs hk05 s) = some (Hook.val hk05 w) := fun w => by kernel_rfl
theorem left : LeftO PySem.Challenge.pw_uf020014_05 (Vc.view PySem.Challenge.pw_uf020014_05) [] xt05 (Hook.obs hk05) (Hook.val hk05) 2148 := fun w => by
 have c := runC w
 have b := runB w
 obtain ⟨s, h1, h2⟩ := Option.map_eq_some_iff.mp (runA w)
 rw [h1] at b c ⊢
 exact congrArg some (Prod.ext (Prod.ext (Option.some.inj b) h2) (Option.some.inj c))
theorem said : PySem.Challenge.rw_uf020014_05.wellSaid = true := by kernel_rfl
end Mine
end
section
namespace Vc
open PySem
noncomputable def Hd1 (A : Around) (h : Heap) : Prop :=
 A.handled = none ∨ ∃ a o vs r, A.handled = some (.ref a) /\ h.get? a = some o /\ o.cls = .ref r /\ o.data = .fields vs /\ vs[2]? = some .none
theorem Hd1.ext {A : Around} {h h' : Heap} {i : Addr} (x : Hd1 A h) (e : Heap.ExtBut i h h') (hi : ∀ o r, h.get? i = some o -> o.cls ≠ .ref r) : Hd1 A h' := by
 rcases x with x | ⟨a, o, vs, r, x1, x2, x3, x4, x5⟩
 ·exact .inl x
 ·refine .inr ⟨a, o, vs, r, x1, e a o (fun q => ?_) x2, x3, x4, x5⟩
  subst q; exact hi o r x2 x3
theorem entry_unchain : entryFor table "proto.unchain" = some Builtin.«proto.unchain» := by
 exact entryFor_of_tree (by kernel_rfl)
section
variable {prog : Program} {w : World} {A : Around} {E : Value -> Shared -> Prop} {s : Shared}
theorem unchain {a b : Addr} {o : Obj} {vs : Array Value} {Q : Value -> Shared -> Prop} (ho : s.heap.get? b = some o) (hd : o.data = .fields vs) (h2 : vs[2]? = some .none) (hQ : Q .none s) :
  wpAny (model prog w) A (runValue (.builtin "proto.unchain" ⟨[.ref a, .ref b, .ref b, .bool false], []⟩)) Q E s := by
 refine wpAny_runValue (codeAny_builtin entry_unchain ?_)
 unfold Builtin.«proto.unchain»
 refine wpAny_bind (wpAny_field ho hd h2 ?_)
 exact wpAny_pure hQ
theorem raise_stop {α : Type} {Q : α -> Shared -> Prop} (hh : Hd1 A s.heap) (hQ : ∀ a h', (∀ b o, s.heap.get? b = some o -> h'.get? b = some o) -> (∃ o, h'.get? a = some o /\ o.cls = .type "StopIteration") -> E (.ref a) { s with heap := h' }) :
  wpAny (model prog w) A (newExc (.type "StopIteration") [] >>= fun e => (raiseNew e : Sem α)) Q E s := by
 refine wpAny_bind ?_
 simp only [newExc, newTuple]
 refine wpAny_bind (wpAny_newObj_type ?_ (by size_fits))
 refine wpAny_bind (m := firstArgMember _ _) (wpAny_of_eq (a := Value.none) (by first | rfl | (simp only [firstArgMember]; rfl)) ?_)
 refine wpAny_newObj_type ?_ (by size_fits)
 simp only [raiseNew]
 refine wpAny_bind (wpAny_handled ?_)
 have k2 : ∀ (o1 o2 : Obj) b o, s.heap.get? b = some o -> ((s.heap.push o1).push o2).get? b = some o := fun o1 o2 b o e => Heap.get?_push_of_some _ (Heap.get?_push_of_some _ e)
 rcases hh with hh | ⟨b, o, vs, r, hh, ho, hc, hd, h2⟩
 ·rw [hh]
  exact wpAny_bind (wpAny_pure (wpAny_throw (hQ _ _ (k2 _ _) ⟨_, Heap.get?_push_size _ rfl, rfl⟩)))
 ·rw [hh]
  dsimp only
  have hne : b ≠ (s.heap.push { cls := .type "tuple", data := .seq #[] }).objs.size := Nat.ne_of_lt (Heap.lt_size (Heap.get?_push_of_some _ ho))
  rw [if_pos (by simpa using hne)]
  refine wpAny_bind (wpAny_holding (unchain (k2 _ _ _ _ ho) hd h2 ?_))
  have he := Heap.get?_push_size (s.heap.push { cls := .type "tuple", data := .seq #[] }) (o := { cls := Value.type "StopIteration", data := Data.fields (#[Value.ref s.heap.objs.size, Value.none, Value.none, Value.none, Value.bool false, Value.none] ++ ownMembersOf (Value.type "StopIteration") []) }) rfl
  refine wpAny_bind (m := setField (.ref _) 2 (.ref b)) (wpAny_setField he rfl ?_ (wpAny_throw (hQ _ _ (fun c oc e => ?_) ⟨_, Heap.get?_update_self _ he rfl, rfl⟩)))
  ·simp; (clear hne; omega)
  ·rw [Heap.get?_update_other _ _ (Nat.ne_of_gt (Heap.lt_size (Heap.get?_push_of_some _ e)))]
   exact k2 _ _ _ _ e
theorem next_list_endH {it l : Addr} {i : Nat} {items : Array Value} {Q : Option Value -> Shared -> Prop} (hh : Hd1 A s.heap)
  (hit : s.heap.IsListIter it l i) (hl : s.heap.IsList l items) (hx : items[i]? = none)
  (hQ : ∀ h', Heap.ExtBut it s.heap h' -> Q none { s with heap := h' }) : wpAny (model prog w) A (pyNext (.ref it)) Q E s := by
 refine Vc.xa_1_3 (id hit) fun o ho hc hd => ?_
 obtain ⟨ol, hol, _, nl, hdl⟩ := hl
 unfold pyNext
 refine wpAny_bind (wpAny_attempt (wpAny_callSpecial?_slot (name := Str.ofString "__next__") hit.typeIs slot_listiter_next
  (wpAny_call_entry slot_listiter_next hit.typeIs entry_listiter_next ?_ (args_listiter_next _))))
 refine wpAny_bind (m := field (.ref it) 0) (wpAny_field ho hd (x := .ref l) rfl ?_)
 rw [if_neg (show ¬ ((Value.ref l == Value.none) = true) from Bool.false_ne_true)]
 refine wpAny_bind (m := field (.ref it) 1) (wpAny_field ho hd (x := .int i 0) rfl (wpAny_bind (m := seqItems? (.ref l)) (wpAny_seqItems hol hdl ?_)))
 simp only [Int.toNat_natCast, hx]
 have eb : Heap.ExtBut it s.heap (s.heap.update it (Obj.mapFields (·.setIfInBounds 0 .none))) := (Heap.SameBut.update ..).extBut
 refine wpAny_bind (wpAny_rule (wpAny_bind (wpAny_setField ho hd (by simp) ?_)))
 refine raise_stop (A := A.in1) (s := { s with heap := s.heap.update it (Obj.mapFields (·.setIfInBounds 0 .none)) }) (Hd1.ext (A := A.in1) hh eb fun o' r q e => ?_) fun a h' k hq1 => Vc.xa_1_2 hq1 fun oa ha hca => ?_
 ·rw [ho] at q; cases q; rw [hc] at e; cases e
 ·refine wpAny_bind (wpAny_isInstance (T := "StopIteration") (b := true) ⟨_, ha, hca⟩ isSubtype_stop (wpAny_pure (hQ _ fun b ob n e => k b ob (eb b ob n e))))
theorem next_tuple_endH {it t : Addr} {i : Nat} {items : Array Value} {Q : Option Value -> Shared -> Prop} (hh : Hd1 A s.heap)
  (hit : s.heap.IsTupleIter it t i) (ht : s.heap.IsTuple t items) (hx : items[i]? = none)
  (hQ : ∀ h', Heap.ExtBut it s.heap h' -> Q none { s with heap := h' }) : wpAny (model prog w) A (pyNext (.ref it)) Q E s := by
 refine Vc.xa_1_3 (id hit) fun o ho hc hd => ?_
 obtain ⟨ol, hol, _, nl, hdl⟩ := ht
 unfold pyNext
 refine wpAny_bind (wpAny_attempt (wpAny_callSpecial?_slot (name := Str.ofString "__next__") hit.typeIs F.slot_tuple_iterator_next
  (wpAny_call_entry F.slot_tuple_iterator_next hit.typeIs F.entry_tuple_iterator_next ?_ (F.args_tuple_iterator_next_1 _))))
 refine wpAny_bind (m := field (.ref it) 0) (wpAny_field ho hd (x := .ref t) rfl ?_)
 rw [if_neg (show ¬ ((Value.ref t == Value.none) = true) from Bool.false_ne_true)]
 refine wpAny_bind (m := field (.ref it) 1) (wpAny_field ho hd (x := .int i 0) rfl (wpAny_bind (m := seqItems? (.ref t)) (wpAny_seqItems hol hdl ?_)))
 simp only [Int.toNat_natCast, hx]
 have eb : Heap.ExtBut it s.heap (s.heap.update it (Obj.mapFields (·.setIfInBounds 0 .none))) := (Heap.SameBut.update ..).extBut
 refine wpAny_bind (wpAny_rule (wpAny_bind (wpAny_setField ho hd (by simp) ?_)))
 refine raise_stop (A := A.in1) (s := { s with heap := s.heap.update it (Obj.mapFields (·.setIfInBounds 0 .none)) }) (Hd1.ext (A := A.in1) hh eb fun o' r q e => ?_) fun a h' k hq2 => Vc.xa_1_2 hq2 fun oa ha hca => ?_
 ·rw [ho] at q; cases q; rw [hc] at e; cases e
 ·refine wpAny_bind (wpAny_isInstance (T := "StopIteration") (b := true) ⟨_, ha, hca⟩ isSubtype_stop (wpAny_pure (hQ _ fun b ob n e => k b ob (eb b ob n e))))
theorem unpack_itemsH {t : Addr} {items : Array Value} {Q : List Value -> Shared -> Prop} (hh : Hd1 A s.heap) (ht : s.heap.IsTuple t items)
  (hQ : ∀ h', Heap.ExtBut s.heap.objs.size s.heap h' -> Q items.toList { s with heap := h' }) : wpAny (model prog w) A (unpackItems (.ref t) items.size none) Q E s := by
 have hlt : t ≠ s.heap.objs.size := by obtain ⟨o, ho, _⟩ := ht; exact Nat.ne_of_lt (Heap.lt_size ho)
 unfold unpackItems notIterableAtAll
 refine wpAny_bind (wpAny_bind (wpAny_specialOf ht.typeIs F.slot_tuple_iter.lookup (wpAny_pure ?_)))
 rw [if_neg (by decide)]
 refine wpAny_bind (wpAny_holding (wpAny_pyIter_tuple ht (wpAny_bind (wpAny_holding (wpAny_draw_tuple hlt items.size 0 _ _ ⟨_, Heap.get?_push_size _ rfl, rfl, rfl⟩ (ht.push _) (by (clear hlt; omega)) fun h₁ hit₁ hs₁ => ?_)))))
 have hall : List.take items.size (List.drop 0 items.toList) = items.toList := by
  rw [List.drop_zero]; exact List.take_of_length_le (by simp)
 rw [hall, if_neg (by simp)]
 have eb : Heap.ExtBut s.heap.objs.size s.heap h₁ := fun b o hb e => hs₁.extBut b o hb (Heap.get?_push_of_some _ e)
 refine wpAny_bind (wpAny_holding (next_tuple_endH (Hd1.ext hh eb fun o r q => ?_) hit₁ ((ht.push _).extBut hs₁.extBut hlt) (by simp) fun h₂ he₂ => ?_))
 ·exact absurd (Heap.lt_size q) (Nat.lt_irrefl _)
 ·rw [Option.isSome_none, if_neg (by decide)]
  exact wpAny_pure (hQ h₂ fun b o hb e => he₂ b o hb (eb b o hb e))
theorem assign_tupleH {env : Env} {elts : List Expr} {k : Nat} {pos : Pos} {t : Addr} {items : Array Value} {Q : Unit -> Shared -> Prop} (hh : Hd1 A s.heap) (ht : s.heap.IsTuple t items)
  (hn : (assignEach elts env).length = items.size) (hstar : (assignEach elts env).findIdx? (·.1) = none)
  (h : ∀ h', Heap.ExtBut s.heap.objs.size s.heap h' -> wpAny (model prog w) A (assignInOrder ((assignEach elts env).map (·.2)) items.toList) Q E { s with heap := h' }) :
  wpAny (model prog w) A (assign (.Tuple elts k pos) env (.ref t)) Q E s := by
 rw [arm_assign_Tuple]
 refine wpAny_bind (wpAny_standAt ?_)
 unfold unpack
 rw [hn, hstar]
 exact wpAny_bind (wpAny_holding (unpack_itemsH hh ht h))
end
end Vc
end
section
namespace Vc
open PySem
section
variable {prog : Program} {w : World} {A : Around} {E : Value -> Shared -> Prop} {s : Shared}
noncomputable def IsNest (prog : Program) (w : World) (h : Heap) (k : Int × List Int) (a : Addr) : Prop :=
 ∃ o items n b t, h.get? a = some o /\ o.cls = .type "tuple" /\ o.data = .seq items n /\ items.toList = [.int k.1 t, .ref b] /\ IsTupleKey (intKind prog w) h k.2 b
theorem IsNest.typeIs {k : Int × List Int} {a : Addr} (x : IsNest prog w s.heap k a) : s.TypeIs (.ref a) "tuple" := Exists.imp (fun o x => Exists.elim x fun zz x => Exists.elim x fun zz x => Exists.elim x fun zz x => Exists.elim x fun zz x => ⟨x.1, x.2.1⟩) x
theorem IsNest.inj {h : Heap} {a : Addr} {x y : Int × List Int} (hx : IsNest prog w h x a) (hy : IsNest prog w h y a) : x = y := by
 refine Vc.xa_5_5 hx fun o items n b t ho zz hd hi hk => ?_
 try clear hx
 refine Vc.xa_5_5 hy fun o' items' n' b' t' ho' zz hd' hi' hk' => ?_
 try clear hy
 rw [ho] at ho'; cases ho'
 rw [hd] at hd'; cases hd'
 rw [hi] at hi'
 simp only [List.cons.injEq, Value.int.injEq, Value.ref.injEq, and_true] at hi'
 refine Vc.xa_0_2 hi' fun ho22_0 hr22_1 => ?_
 try clear hi'
 obtain ⟨h1, _⟩ := ho22_0
 subst hr22_1
 have h2 := hk.inj hk'
 cases x; cases y; simp at h1 h2; rw [h1, h2]
theorem IsNest.keeps {h h' : Heap} {k : Int × List Int} {a d : Addr} {o : Obj} {es ep} (x : IsNest prog w h k a) (ho : h.get? d = some o) (hd : o.data = .dict es ep) (hs : Heap.SameBut d h h') : IsNest prog w h' k a := by
 refine Vc.xa_5_5 x fun o' items n b t ho' hc hd' hi hk => ?_
 try clear x
 have hne : a ≠ d := by
  rintro rfl
  rw [ho] at ho'; cases ho'
  rw [hd] at hd'; cases hd'
 exact ⟨o', items, n, b, t, (hs.2 a hne).trans ho', hc, hd', hi, hk.keeps ho hd hs⟩
noncomputable def nestHash (prog : Program) (w : World) (k : Int × List Int) : Int := reduceHash (Builtin.Tuple.tupleHashOf [(intKind prog w).hash k.1, tupleKeyHash (intKind prog w) k.2])
theorem nest_hash {k : Int × List Int} {a : Addr} {Q : Int -> Shared -> Prop} (hu : A.units + 1 < cLine) (hk : IsNest prog w s.heap k a) (h : Q (nestHash prog w k) { s with toks := s.toks + (k.2.length + 3) }) :
  wpAny (model prog w) A (pyHash (.ref a)) Q E s := by
 have hT := hk.typeIs
 refine Vc.xa_5_5 hk fun o items n b t ho zz hd hi hb => ?_
 try clear hk
 unfold pyHash
 first | unfold pyHashByItsType | skip
 first | refine wpAny_bind (wpAny_cRoomFor_or (.inr (by omega)) ?_) | skip
 refine wpAny_bind (wpAny_specialOf hT F.slot_tuple_hash.lookup ?_)
 show wpAny _ _ (if (some (Value.builtin "tuple.__hash__") == some Value.none) = true then _ else _) Q E s
 rw [if_neg (by rw [beq_builtin_none]; exact Bool.false_ne_true)]
 refine wpAny_bind (wpAny_specialOf hT F.slot_tuple_hash.lookup ?_)
 show wpAny _ _ (callSpecialIfBoundUnlessNone? (.ref a) "__hash__" _ >>= _) Q E s
 refine wpAny_bind (wpAny_callSpecialIfBoundUnlessNone?_slot hT F.slot_tuple_hash (wpAny_call_entry F.slot_tuple_hash hT F.entry_tuple_hash ?_ (F.args_tuple_hash_1 _)))
 show wpAny _ _ (Builtin.Tuple.tupleItemsOf (.ref a) >>= _) _ _ s
 refine wpAny_bind (wpAny_tupleItemsOf ho hd ?_)
 refine wpAny_bind ?_
 rw [<- Array.forIn_toList, hi]
 simp only [List.forIn_cons, List.forIn_nil]
 refine wpAny_bind (wpAny_bind ((intKind prog w).pyHash (k := k.1) (by simp [intKind, Value.isInt]) (wpAny_pure ?_)))
 refine wpAny_bind (wpAny_bind (wpAny_pyHash_tuple (knd := intKind prog w) (s := { s with toks := s.toks + 1 }) hu hb (wpAny_pure (wpAny_pure ?_))))
 refine wpAny_ret_mkInt ?_
 show wpAny _ _ (if (decide (-(2 : Int) ^ 63 <= Builtin.Tuple.tupleHashOf [(intKind prog w).hash k.1, tupleKeyHash (intKind prog w) k.2]) && decide (Builtin.Tuple.tupleHashOf [(intKind prog w).hash k.1, tupleKeyHash (intKind prog w) k.2] < 2 ^ 63)) = true then _ else _) Q E _
 have et : s.toks + 1 + (k.2.length + 1) + 1 = s.toks + (k.2.length + 3) := by (clear hu; omega)
 unfold nestHash reduceHash at h
 by_cases hr : (decide (-(2 : Int) ^ 63 <= Builtin.Tuple.tupleHashOf [(intKind prog w).hash k.1, tupleKeyHash (intKind prog w) k.2]) && decide (Builtin.Tuple.tupleHashOf [(intKind prog w).hash k.1, tupleKeyHash (intKind prog w) k.2] < 2 ^ 63)) = true
 ·rw [if_pos hr]
  rw [if_pos hr] at h
  refine wpAny_pure ?_
  show Q _ { s with toks := s.toks + 1 + (k.2.length + 1) + 1 }
  rw [et]; exact h
 ·rw [if_neg hr]
  rw [if_neg hr] at h
  refine wpAny_bind (wpAny_rule (wpAny_pure ?_))
  show Q _ { s with toks := s.toks + 1 + (k.2.length + 1) + 1 }
  rw [et]; exact h
theorem nest_eq_tree {x y : Int × List Int} {a b : Addr} {P : Fin -> Shared -> Prop} (hu : A.units < cLine) (hx : IsNest prog w s.heap x a) (hy : IsNest prog w s.heap y b) (h : P (.done (.ret (.bool (decide (x = y))))) s) :
  wpAny (model prog w) A (Builtin.«tuple.__eq__» ⟨[.ref a, .ref b], []⟩) P E s := by
 have hTb := hy.typeIs
 refine Vc.xa_5_5 hx fun oa xs na xb xt hoa zz hda hia hxk => ?_
 try clear hx
 refine Vc.xa_5_5 hy fun ob ys nb yb yt hob zz hdb hib hyk => ?_
 try clear hy
 show wpAny _ _ (isInstance (.ref b) (.type "tuple") >>= _) _ _ s
 refine wpAny_bind (wpAny_isInstance hTb isSubtype_tuple_tuple ?_)
 simp only [Bool.not_true, Bool.false_eq_true, if_false]
 refine wpAny_bind (wpAny_tupleItemsOf hoa hda ?_)
 refine wpAny_bind (wpAny_tupleItemsOf hob hdb ?_)
 refine wpAny_bind ?_
 rw [hia, hib]
 simp only [List.zip_cons_cons, List.zip_nil_left, List.zip_nil_right, List.forIn_cons, List.forIn_nil]
 refine wpAny_bind (wpAny_bind ((intKind prog w).eqBool (a := x.1) (b := y.1) (by simp [intKind, Value.isInt]) (by simp [intKind, Value.isInt]) ?_))
 by_cases h1 : x.1 = y.1
 ·rw [decide_eq_true h1]
  simp only [Bool.not_true, Bool.false_eq_true, if_false]
  refine wpAny_pure ?_
  refine wpAny_bind (wpAny_bind (wpAny_eqBool_tuple (knd := intKind prog w) hu hxk hyk ?_))
  by_cases h2 : x.2 = y.2
  ·rw [decide_eq_true h2]
   simp only [Bool.not_true, Bool.false_eq_true, if_false]
   refine wpAny_pure (wpAny_pure ?_)
   have e : x = y := Prod.ext h1 h2
   have e1 : xs.size = 2 := by rw [<- Array.length_toList, hia]; rfl
   have e2 : ys.size = 2 := by rw [<- Array.length_toList, hib]; rfl
   rw [e1, e2]
   rw [decide_eq_true e] at h
   exact wpAny_pure h
  ·rw [decide_eq_false h2]
   simp only [Bool.not_false, if_true]
   rw [decide_eq_false (fun e => h2 (by rw [e]))] at h
   exact wpAny_bind (wpAny_pure (wpAny_pure (wpAny_pure (wpAny_pure h))))
 ·rw [decide_eq_false h1]
  simp only [Bool.not_false, if_true]
  rw [decide_eq_false (fun e => h1 (by rw [e]))] at h
  exact wpAny_bind (wpAny_pure (wpAny_pure (wpAny_pure (wpAny_pure h))))
theorem nest_eq {x y : Int × List Int} {a b : Addr} {Q : Bool -> Shared -> Prop} (hu : A.units + 1 < cLine) (hx : IsNest prog w s.heap x a) (hy : IsNest prog w s.heap y b) (h : Q (decide (x = y)) s) :
  wpAny (model prog w) A (eqBool (.ref a) (.ref b)) Q E s := by
 unfold eqBool
 try with_reducible refine wpAny_holding ?_
 show wpAny _ _ (if (Value.ref a == Value.ref b) = true then _ else _) Q E s
 by_cases hab : (Value.ref a == Value.ref b) = true
 ·rw [if_pos hab]
  have e : a = b := by have := eq_of_beq hab; injection this
  subst e
  obtain rfl := hx.inj hy
  exact wpAny_bind (wpAny_rule (wpAny_pure (by simpa using h)))
 ·rw [if_neg hab]
  exact wpAny_bind (wpAny_richCompare_same_room (op := .Eq) hx.typeIs hy.typeIs F.slot_tuple_eq
   (wpAny_call_entry F.slot_tuple_eq hx.typeIs F.entry_tuple_eq (nest_eq_tree (by show A.units + 1 < _; (clear hab; omega)) hx hy ⟨_, rfl, (fun e => nomatch e), wpAny_truthy_bool h⟩) (F.args_tuple_eq_2 _ _)) (by (clear hab; omega)))
theorem quiet_one {ks : List Int} {a : Addr} {n : Nat} {Q : Bool -> Shared -> Prop} (hk : IsTupleKey (intKind prog w) s.heap ks a) (h : Q true s) : wpAny (model prog w) A (eqIsQuiet (n + 1) (.ref a)) Q E s := by
 have hT := hk.typeIs
 refine Vc.xa_3_4 hk fun o items m ho zz hd hi => ?_
 try clear hk
 unfold eqIsQuiet
 refine wpAny_bind (wpAny_specialOf hT F.slot_tuple_eq.lookup ?_)
 show wpAny _ _ (isInstance (.ref a) (.type "tuple") >>= _) _ _ s
 refine wpAny_bind (wpAny_isInstance hT isSubtype_tuple_tuple ?_)
 simp only [Bool.not_true, Bool.false_eq_true, if_false]
 refine wpAny_bind (wpAny_seqItems ho hd ?_)
 refine wpAny_bind ?_
 show wpAny _ _ (forIn items _ _) _ _ s
 rw [<- Array.forIn_toList]
 refine wpAny_forIn_list _ (fun rest r s' => r.1 = none /\ s' = s /\ ∀ v ∈ rest, carriedByValue v = true) _ ?_ ?_ _ _ ⟨rfl, rfl, hi.byValue⟩
 ·rintro v rest r s' ⟨hr, rfl, hall⟩
  rw [eqIsQuiet_byValue _ (hall v List.mem_cons_self)]
  refine wpAny_bind (wpAny_pure ?_)
  simp only [Bool.not_true, Bool.false_eq_true, if_false]
  exact wpAny_pure ⟨rfl, rfl, fun u hu' => hall u (List.mem_cons_of_mem _ hu')⟩
 ·rintro ⟨r1, r2⟩ s' ⟨hr, rfl, _⟩
  simp only at hr
  subst hr
  exact wpAny_pure h
theorem nest_quiet {k : Int × List Int} {a : Addr} {Q : Bool -> Shared -> Prop} (hk : IsNest prog w s.heap k a) (h : Q true s) : wpAny (model prog w) A (eqIsQuiet 8 (.ref a)) Q E s := by
 have hT := hk.typeIs
 refine Vc.xa_5_5 hk fun o items n b t ho zz hd hi hb => ?_
 try clear hk
 unfold eqIsQuiet
 refine wpAny_bind (wpAny_specialOf hT F.slot_tuple_eq.lookup ?_)
 show wpAny _ _ (isInstance (.ref a) (.type "tuple") >>= _) _ _ s
 refine wpAny_bind (wpAny_isInstance hT isSubtype_tuple_tuple ?_)
 simp only [Bool.not_true, Bool.false_eq_true, if_false]
 refine wpAny_bind (wpAny_seqItems ho hd ?_)
 refine wpAny_bind ?_
 show wpAny _ _ (forIn items _ _) _ _ s
 rw [<- Array.forIn_toList, hi]
 simp only [List.forIn_cons, List.forIn_nil]
 rw [eqIsQuiet_byValue _ (by rfl)]
 refine wpAny_bind (wpAny_bind (wpAny_pure ?_))
 simp only [Bool.not_true, Bool.false_eq_true, if_false]
 refine wpAny_pure ?_
 refine wpAny_bind (wpAny_bind (quiet_one hb ?_))
 simp only [Bool.not_true, Bool.false_eq_true, if_false]
 exact wpAny_pure (wpAny_pure (wpAny_pure h))
end
noncomputable def nestKind (prog : Program) (w : World) : HeapKind prog w (Int × List Int) where
 is := IsNest prog w
 hash := nestHash prog w
 draws := fun k => k.2.length + 3
 room := fun A => A.units + 1 < cLine
 inj := fun hx hy => hx.inj hy
 keeps := fun x ho hd hs => x.keeps ho hd hs
 pyHash := fun hu hk h => nest_hash hu hk h
 eqBool := fun hu hx hy h => nest_eq hu hx hy h
 quiet := fun hk h => nest_quiet hk h
end Vc
end
section
namespace Vc
open PySem
set_option genSizeOf false in
inductive V where
 | none
 | bool (b : Bool)
 | int (i : Int)
 | str (s : Str)
 | tup (l : List V)
 | ref (a : Addr)
 | exc (c : String)
 | glb (x : String)
 | rng (a b c : Int)
 deriving Inhabited
noncomputable def Solid (o : Obj) : Prop := (o.cls = .type "tuple" /\ ∃ xs n, o.data = .seq xs n) ∨ (o.cls = .type "range" /\ ∃ vs, o.data = .fields vs)
structure VS (h h' : Heap) : Prop where
 solid : ∀ b o, h.get? b = some o -> Solid o -> h'.get? b = some o
 exc : ∀ b o vs r, h.get? b = some o -> o.cls = .ref r -> o.data = .fields vs -> ∃ o' vs', h'.get? b = some o' /\ (o'.cls = o.cls /\ o'.dict = o.dict) /\ o'.data = .fields vs' /\ vs'[2]? = vs[2]?
structure Pr where
 P : Program -> World -> Heap -> Addr -> Prop
 keep : ∀ {p : Program} {w : World} {h h' : Heap} {a : Addr}, VS h h' -> (∀ o, h.get? a = some o -> h'.get? a = some o) -> P p w h a -> P p w h' a
 there : ∀ {p : Program} {w : World} {h : Heap} {a : Addr}, P p w h a -> ∃ ob, h.get? a = some ob /\ ∀ vs, ob.data ≠ .fields vs
theorem IsNest.solid {p : Program} {w : World} {h h' : Heap} {k : Int × List Int} {a : Addr} (v : VS h h') (x : IsNest p w h k a) : IsNest p w h' k a := by
 obtain ⟨o, items, n, b, t, ho, hc, hd, hi, o2, i2, n2, ho2, hc2, hd2, hi2⟩ := x
 exact ⟨o, items, n, b, t, v.solid a o ho (.inl ⟨hc, items, n, hd⟩), hc, hd, hi, o2, i2, n2, v.solid b o2 ho2 (.inl ⟨hc2, i2, n2, hd2⟩), hc2, hd2, hi2⟩
noncomputable def dckP (ks : List (Int × List Int)) : Pr where
 P p w h a := a ≠ sysModules /\ ∃ xs, h.DictOfH (nestKind p w) a xs /\ xs.map (·.1) = ks
 keep := fun v e x => ⟨x.1, x.2.imp fun xs y => ⟨y.1.imp fun o z => z.imp fun es z => z.imp fun ep z => ⟨e o z.1, z.2.1, z.2.2.1, z.2.2.2.1, fun x hx => IsNest.solid v (z.2.2.2.2.1 x hx), z.2.2.2.2.2⟩, y.2⟩⟩
 there := fun x => x.2.elim fun xs y => y.1.imp fun o z => z.elim fun es z => z.elim fun ep z => ⟨z.1, fun vs e => Data.noConfusion (z.2.2.1.symm.trans e)⟩
set_option genSizeOf false in
inductive O where
 | lst (l : List V)
 | fro (l : List V)
 | dci (l : List (Int × V))
 | dcs (l : List (Str × V))
 | ins (c : String) (dx : Addr)
 | nsd (l : List (String × V))
 | prd (p : Pr)
 deriving Inhabited
noncomputable abbrev MH := Addr -> Option O
noncomputable def upd (H : MH) (a : Addr) (o : O) : MH := fun b => if b = a then some o else H b
theorem upd_self (H : MH) (a : Addr) (o : O) : upd H a o a = some o := if_pos rfl
theorem upd_ne {H : MH} {a b : Addr} {o : O} (h : b ≠ a) : upd H a o b = H b := if_neg h
structure Cx where
 prog : Program
 w : World
 h0 : Heap
 mg : Str -> Option Value
 mb : Str -> Option Value
noncomputable def Cx.G (C : Cx) (x : String) (v : Value) : Prop := C.mg (Str.ofString x) = some v ∨ (C.mg (Str.ofString x) = none /\ C.mb (Str.ofString x) = some v)
structure Cx.Good (C : Cx) : Prop where
 g : C.h0.Ns mainGlobals C.mg
 b : C.h0.Ns builtinsNs C.mb
 nolimit : C.h0.NoLimit
theorem Cx.G.uniq {C : Cx} {x : String} {v v' : Value} (h : C.G x v) (h' : C.G x v') : v = v' := by
 rcases h with h | ⟨h1, h2⟩ <;> rcases h' with h' | ⟨h1', h2'⟩
 ·exact Option.some.inj (h.symm.trans h')
 ·rw [h] at h1'; cases h1'
 ·rw [h1] at h'; cases h'
 ·exact Option.some.inj (h2.symm.trans h2')
noncomputable abbrev Cx.M (C : Cx) : Model := model C.prog C.w
noncomputable def NoDict (h : Heap) (a : Addr) : Prop := ∀ o, h.get? a = some o -> o.dict = Option.none
theorem NoDict.of {h : Heap} {a : Addr} {o : Obj} (e : h.get? a = some o) (d : o.dict = Option.none) : NoDict h a := fun o' e' => by rw [e] at e'; cases e'; exact d
mutual
noncomputable def VR (C : Cx) (h : Heap) : V -> Value -> Prop
 | .none, v => v = .none
 | .bool b, v => v = .bool b
 | .int i, v => ∃ t, v = .int i t
 | .str s, v => ∃ t, v = .str s t
 | .tup l, v => ∃ a items, (v = .ref a /\ NoDict h a) /\ h.IsTuple a items /\ VRs C h l items.toList
 | .ref a, v => v = .ref a
 | .exc c, v => ∃ a o vs r, v = .ref a /\ h.get? a = some o /\ o.cls = .ref r /\ (C.G c (.ref r) /\ o.dict = Option.none) /\ o.data = .fields vs
 | .glb x, v => C.G x v
 | .rng a b c, v => ∃ r t u w, v = .ref r /\ IsRange h r a b c t u w
noncomputable def VRs (C : Cx) (h : Heap) : List V -> List Value -> Prop
 | [], [] => True
 | x :: xs, v :: vs => VR C h x v /\ VRs C h xs vs
 | [], _ :: _ => False
 | _ :: _, [] => False
end
section
variable {C : Cx} {h h' h'' : Heap}
theorem VRs.nil : VRs C h [] [] := by dsimp only [VRs]
theorem VRs.cons {x : V} {v : Value} {xs : List V} {vs : List Value} (a : VR C h x v) (b : VRs C h xs vs) : VRs C h (x :: xs) (v :: vs) := by dsimp only [VRs]; exact ⟨a, b⟩
theorem VRs.head {x : V} {v : Value} {xs : List V} {vs : List Value} (a : VRs C h (x :: xs) (v :: vs)) : VR C h x v := by dsimp only [VRs] at a; exact a.1
theorem VRs.tail {x : V} {v : Value} {xs : List V} {vs : List Value} (a : VRs C h (x :: xs) (v :: vs)) : VRs C h xs vs := by dsimp only [VRs] at a; exact a.2
theorem VRs.inv_nil {vs : List Value} (a : VRs C h [] vs) : vs = [] := by
 cases vs with
 | nil => rfl
 | cons _ _ => exact (show False from a).elim
theorem VRs.inv_cons {x : V} {xs : List V} {vs : List Value} (a : VRs C h (x :: xs) vs) : ∃ v vs', vs = v :: vs' /\ VR C h x v /\ VRs C h xs vs' := by
 cases vs with
 | nil => exact (show False from a).elim
 | cons v vs' => exact ⟨v, vs', rfl, a.head, a.tail⟩
theorem VRs.length : ∀ {xs : List V} {vs : List Value}, VRs C h xs vs -> xs.length = vs.length
 | [], [], _ => rfl
 | _ :: xs, _ :: vs, x => by simp [VRs.length x.tail]
 | [], _ :: _, x => (show False from x).elim
 | _ :: _, [], x => (show False from x).elim
theorem VRs.get : ∀ {xs : List V} {vs : List Value} {i : Nat} {x : V}, VRs C h xs vs -> xs[i]? = some x -> ∃ v, vs[i]? = some v /\ VR C h x v
 | y :: xs, v :: vs, 0, x, r, e => by simp at e; subst e; exact ⟨v, rfl, r.head⟩
 | _ :: xs, _ :: vs, i + 1, x, r, e => by simp at e; simpa using VRs.get r.tail e
 | [], _, _, _, _, e => by simp at e
 | _ :: _, [], _, _, r, _ => (show False from r).elim
theorem VRs.append : ∀ {xs ys : List V} {vs ws : List Value}, VRs C h xs vs -> VRs C h ys ws -> VRs C h (xs ++ ys) (vs ++ ws)
 | [], _, [], _, _, r => r
 | _ :: xs, _, _ :: vs, _, x, r => VRs.cons x.head (VRs.append x.tail r)
 | [], _, _ :: _, _, x, _ => (show False from x).elim
 | _ :: _, _, [], _, x, _ => (show False from x).elim
theorem VRs.take : ∀ {xs : List V} {vs : List Value} (n : Nat), VRs C h xs vs -> VRs C h (xs.take n) (vs.take n)
 | _, _, 0, _ => by simpa using VRs.nil
 | [], [], _ + 1, _ => by simpa using VRs.nil
 | _ :: _, _ :: _, n + 1, r => by simpa using VRs.cons r.head (VRs.take n r.tail)
 | [], _ :: _, _ + 1, r => (show False from r).elim
 | _ :: _, [], _ + 1, r => (show False from r).elim
theorem VRs.drop : ∀ {xs : List V} {vs : List Value} (n : Nat), VRs C h xs vs -> VRs C h (xs.drop n) (vs.drop n)
 | _, _, 0, r => by simpa using r
 | [], [], _ + 1, _ => by simpa using VRs.nil
 | _ :: _, _ :: _, n + 1, r => by simpa using VRs.drop n r.tail
 | [], _ :: _, _ + 1, r => (show False from r).elim
 | _ :: _, [], _ + 1, r => (show False from r).elim
end
structure VK (h h' : Heap) : Prop where
 solid : ∀ b o, h.get? b = some o -> Solid o -> h'.get? b = some o
 exc : ∀ b o vs r, h.get? b = some o -> o.cls = .ref r -> o.data = .fields vs -> ∃ o' vs', h'.get? b = some o' /\ (o'.cls = o.cls /\ o'.dict = o.dict) /\ o'.data = .fields vs' /\ vs'[2]? = vs[2]?
 dct : ∀ b o es ep, h.get? b = some o -> o.data = .dict es ep -> ∃ o' es' ep', h'.get? b = some o' /\ o'.data = .dict es' ep'
theorem VK.s {h h' : Heap} (x : VK h h') : VS h h' := ⟨x.solid, x.exc⟩
theorem VK.refl (h : Heap) : VK h h := ⟨fun zz zz e zz => e, fun zz o vs zz e c d => ⟨o, vs, e, ⟨rfl, rfl⟩, d, rfl⟩, fun zz o es ep e d => ⟨o, es, ep, e, d⟩⟩
theorem VK.trans {h h' h'' : Heap} (x : VK h h') (y : VK h' h'') : VK h h'' :=
 ⟨fun b o e s => y.solid b o (x.solid b o e s) s, fun b o vs r e c d => by
  refine Vc.xa_2_4 (x.exc b o vs r e c d) fun o' vs' e' c' d' g' => ?_
  refine Vc.xa_2_4 (y.exc b o' vs' r e' (c'.1.trans c) d') fun o'' vs'' e'' c'' d'' g'' => ?_
  exact ⟨o'', vs'', e'', ⟨c''.1.trans c'.1, c''.2.trans c'.2⟩, d'', g''.trans g'⟩, fun b o es ep e d => by
  refine Vc.xa_3_2 (x.dct b o es ep e d) fun o' es' ep' e' d' => ?_
  exact y.dct b o' es' ep' e' d'⟩
theorem VK.of_keeps {h h' : Heap} (k : ∀ b o, h.get? b = some o -> h'.get? b = some o) : VK h h' :=
 ⟨fun b o e zz => k b o e, fun b o vs r e c d => ⟨o, vs, k b o e, ⟨rfl, rfl⟩, d, rfl⟩, fun b o es ep e d => ⟨o, es, ep, k b o e, d⟩⟩
noncomputable def Loose (o : Obj) : Prop := (∃ es ep, o.data = .dict es ep) ∨ (∃ v, o.data = .cell v) ∨ (∃ T, o.cls = .type T /\ T ≠ "tuple" /\ T ≠ "range")
theorem Loose.not_solid {o : Obj} (l : Loose o) (s : Solid o) : False := by
 rcases s with ⟨c, xs, n, d⟩ | ⟨c, vs, d⟩ <;> rcases l with ⟨es, ep, d'⟩ | ⟨v, d'⟩ | ⟨T, c', n1, n2⟩
 ·rw [d] at d'; cases d'
 ·rw [d] at d'; cases d'
 ·rw [c] at c'; injection c' with e; exact n1 e.symm
 ·rw [d] at d'; cases d'
 ·rw [d] at d'; cases d'
 ·rw [c] at c'; injection c' with e; exact n2 e.symm
theorem Loose.not_exc {o : Obj} (l : Loose o) {r : Addr} {vs : Array Value} (c : o.cls = .ref r) (d : o.data = .fields vs) : False := by
 rcases l with ⟨es, ep, d'⟩ | ⟨v, d'⟩ | ⟨T, c', _, _⟩
 ·rw [d] at d'; cases d'
 ·rw [d] at d'; cases d'
 ·rw [c] at c'; cases c'
theorem VK.of_but {h h' : Heap} {D : Addr -> Prop} (k : ∀ b o, h.get? b = some o -> ¬ D b -> h'.get? b = some o) (l : ∀ b o, h.get? b = some o -> D b -> Loose o)
  (d : ∀ b o es ep, h.get? b = some o -> D b -> o.data = .dict es ep -> ∃ o' es' ep', h'.get? b = some o' /\ o'.data = .dict es' ep') : VK h h' :=
 ⟨fun b o e s => k b o e fun q => (l b o e q).not_solid s, fun b o vs r e c dd => ⟨o, vs, k b o e fun q => (l b o e q).not_exc c dd, ⟨rfl, rfl⟩, dd, rfl⟩, fun b o es ep e dd =>
  Classical.byCases (fun q : D b => d b o es ep e q dd) fun q => ⟨o, es, ep, k b o e q, dd⟩⟩
mutual
theorem VR.keepS {C : Cx} {h h' : Heap} (k : VS h h') : ∀ {x : V} {v : Value}, VR C h x v -> VR C h' x v
 | .none, _, r => r
 | .bool _, _, r => r
 | .int _, _, r => r
 | .str _, _, r => r
 | .tup l, v, r => by
  refine Vc.xa_2_3 ((show ∃ a items, (v = .ref a /\ NoDict h a) /\ h.IsTuple a items /\ VRs C h l items.toList from r)) fun a items ho211_2 ho211_3 rs => ?_
  obtain ⟨e, nd⟩ := ho211_2
  obtain ⟨o, ho, hc, n, hd⟩ := ho211_3
  exact ⟨a, items, ⟨e, .of (k.solid a o ho (.inl ⟨hc, items, n, hd⟩)) (nd o ho)⟩, ⟨o, k.solid a o ho (.inl ⟨hc, items, n, hd⟩), hc, n, hd⟩, VRs.keepS k rs⟩
 | .ref _, _, r => r
 | .exc c, v, r => by
  refine Vc.xa_4_5 ((show ∃ a o vs r, v = .ref a /\ h.get? a = some o /\ o.cls = .ref r /\ (C.G c (.ref r) /\ o.dict = Option.none) /\ o.data = .fields vs from r)) fun a o vs r e ho hc g hd => ?_
  refine Vc.xa_2_4 (k.exc a o vs r ho hc hd) fun o' vs' ho' hc' hd' zz => ?_
  exact ⟨a, o', vs', r, e, ho', hc'.1.trans hc, ⟨g.1, hc'.2.trans g.2⟩, hd'⟩
 | .glb _, _, r => r
 | .rng a b c, v, r => by
  refine Vc.xa_4_2 ((show ∃ r t u w, v = .ref r /\ IsRange h r a b c t u w from r)) fun q t u w e hr => ?_
  exact ⟨q, t, u, w, e, k.solid q _ hr (.inr ⟨rfl, _, rfl⟩)⟩
theorem VRs.keepS {C : Cx} {h h' : Heap} (k : VS h h') : ∀ {xs : List V} {vs : List Value}, VRs C h xs vs -> VRs C h' xs vs
 | [], [], _ => VRs.nil
 | _ :: _, _ :: _, r => VRs.cons (VR.keepS k r.head) (VRs.keepS k r.tail)
 | [], _ :: _, r => (show False from r).elim
 | _ :: _, [], r => (show False from r).elim
end
theorem VR.keep {C : Cx} {h h' : Heap} (k : VK h h') {x : V} {v : Value} (r : VR C h x v) : VR C h' x v := r.keepS k.s
theorem VRs.keep {C : Cx} {h h' : Heap} (k : VK h h') {xs : List V} {vs : List Value} (r : VRs C h xs vs) : VRs C h' xs vs := r.keepS k.s
noncomputable def NsE (C : Cx) (h : Heap) : List (String × V) -> List DictEntry -> Prop
 | [], [] => True
 | (x, v) :: l, e :: es => (∃ t, e.key = .str (Str.ofString x) t) /\ e.hash = hashStr C.w (Str.ofString x) /\ VR C h v e.val /\ NsE C h l es
 | [], _ :: _ => False
 | _ :: _, [] => False
theorem NsE.keepS {C : Cx} {h h' : Heap} (k : VS h h') : ∀ {l : List (String × V)} {es : List DictEntry}, NsE C h l es -> NsE C h' l es
 | [], [], _ => trivial
 | (_, _) :: _, _ :: _, r => ⟨r.1, r.2.1, r.2.2.1.keepS k, NsE.keepS k r.2.2.2⟩
 | [], _ :: _, r => r.elim
 | _ :: _, [], r => r.elim
noncomputable def OR (C : Cx) (h : Heap) (a : Addr) : O -> Prop
 | .lst l => C.h0.get? a = none /\ ∃ items, h.PlainList a items /\ VRs C h l items.toList
 | .fro l => ∃ items, h.IsList a items /\ VRs C h l items.toList
 | .dci l => C.h0.get? a = none /\ a ≠ sysModules /\ ∃ kvs : List (Int × Value), h.DictOf (intKind C.prog C.w) a kvs /\ kvs.map (·.1) = l.map (·.1) /\ VRs C h (l.map (·.2)) (kvs.map (·.2))
 | .dcs l => C.h0.get? a = none /\ a ≠ sysModules /\ ∃ kvs : List (Str × Value), h.DictOf (strKind C.prog C.w) a kvs /\ kvs.map (·.1) = l.map (·.1) /\ VRs C h (l.map (·.2)) (kvs.map (·.2))
 | .ins c dx => C.h0.get? a = none /\ ∃ r, C.G c (.ref r) /\ h.get? a = some { cls := .ref r, dict := some dx, data := .plain }
 | .nsd l => C.h0.get? a = none /\ ∃ es n, h.get? a = some { cls := .type "dict", data := .dict es n } /\ NsE C h l es.toList
 | .prd p => C.h0.get? a = none /\ p.P C.prog C.w h a
theorem OR.keepS {C : Cx} {h h' : Heap} {a : Addr} (k : VS h h') (e : ∀ o, h.get? a = some o -> h'.get? a = some o) : ∀ {o : O}, OR C h a o -> OR C h' a o
 | .lst _, x => ⟨x.1, x.2.imp fun zz y => ⟨y.1.at e, y.2.keepS k⟩⟩
 | .fro _, x => x.imp fun zz y => ⟨y.1.imp fun o q => ⟨e o q.1, q.2⟩, y.2.keepS k⟩
 | .dci _, x => ⟨x.1, x.2.1, x.2.2.imp fun zz y => ⟨y.1.imp fun o z => z.imp fun zz z => z.imp fun zz q => ⟨e o q.1, q.2⟩, y.2.1, y.2.2.keepS k⟩⟩
 | .dcs _, x => ⟨x.1, x.2.1, x.2.2.imp fun zz y => ⟨y.1.imp fun o z => z.imp fun zz z => z.imp fun zz q => ⟨e o q.1, q.2⟩, y.2.1, y.2.2.keepS k⟩⟩
 | .ins _ _, x => ⟨x.1, x.2.imp fun zz y => ⟨y.1, e _ y.2⟩⟩
 | .nsd _, x => ⟨x.1, x.2.imp fun zz y => y.imp fun zz z => ⟨e _ z.1, z.2.keepS k⟩⟩
 | .prd p, x => ⟨x.1, p.keep k e x.2⟩
theorem OR.keep {C : Cx} {h h' : Heap} {a : Addr} (k : VK h h') (e : ∀ o, h.get? a = some o -> h'.get? a = some o) {o : O} (r : OR C h a o) : OR C h' a o := r.keepS k.s e
theorem OR.there {C : Cx} {h : Heap} {a : Addr} : ∀ {o : O}, OR C h a o -> ∃ ob, h.get? a = some ob
 | .lst _, x => x.2.elim fun zz y => y.1.elim fun zz p => ⟨_, p⟩
 | .fro _, x => x.elim fun zz y => y.1.imp fun zz q => q.1
 | .dci _, x => x.2.2.elim fun zz y => y.1.imp fun zz z => z.elim fun zz z => z.elim fun zz q => q.1
 | .dcs _, x => x.2.2.elim fun zz y => y.1.imp fun zz z => z.elim fun zz z => z.elim fun zz q => q.1
 | .ins _ _, x => x.2.elim fun zz y => ⟨_, y.2⟩
 | .nsd _, x => x.2.elim fun zz y => y.elim fun zz z => ⟨_, z.1⟩
 | .prd p, x => (p.there x.2).imp fun zz q => q.1
noncomputable def HR (C : Cx) (H : MH) (h : Heap) : Prop := ∀ a o, H a = some o -> OR C h a o
theorem HR.keep {C : Cx} {H : MH} {h h' : Heap} (r : HR C H h) (k : VK h h') (e : ∀ b o, (H b).isSome = true -> h.get? b = some o -> h'.get? b = some o) : HR C H h' :=
 fun a o q => (r a o q).keep k fun ob => e a ob (by rw [q]; rfl)
theorem HR.there {C : Cx} {H : MH} {h : Heap} (r : HR C H h) {a : Addr} (q : (H a).isSome = true) : ∃ ob, h.get? a = some ob := by
 refine Vc.xa_1_1 (Option.isSome_iff_exists.mp q) fun o e => ?_
 exact (r a o e).there
theorem HR.fresh {C : Cx} {H : MH} {h : Heap} (r : HR C H h) {a : Addr} (q : h.get? a = none) : H a = none := by
 cases e : H a with
 | none => rfl
 | some o => obtain ⟨ob, w⟩ := (r a o e).there; rw [q] at w; cases w
structure Step (C : Cx) (D : Addr -> Prop) (H : MH) (s : Shared) (H' : MH) (s' : Shared) : Prop where
 rel : HR C H' s'.heap
 chg : ∀ b o, s.heap.get? b = some o -> H b = none -> ¬ D b -> ∃ sl, s'.heap.get? b = some { o with slots := sl } /\ ((∀ es ep, o.data ≠ .dict es ep) -> sl = o.slots)
 top : C.h0.StaysIn s'.heap
 dom : ∀ b, (H b).isSome = true -> (H' b).isSome = true
 new : ∀ b, (H' b).isSome = true -> (H b).isSome = true ∨ s.heap.get? b = none
 dn : ∀ b, D b -> H b = none -> H' b = none
 vk : VK s.heap s'.heap
 gens : s'.gens = s.gens
 os : s'.os = s.os
noncomputable abbrev No : Addr -> Prop := fun zz => False
section
variable {C : Cx} {D D' : Addr -> Prop} {H H' H'' : MH} {s s' s'' : Shared}
theorem Step.refl (r : HR C H s.heap) (t : C.h0.StaysIn s.heap) : Step C D H s H s :=
 ⟨r, fun b o e zz zz => ⟨o.slots, e, fun zz => rfl⟩, t, fun zz e => e, fun zz e => .inl e, fun zz zz e => e, .refl _, rfl, rfl⟩
theorem Step.trans (x : Step C D H s H' s') (y : Step C D H' s' H'' s'') : Step C D H s H'' s'' where
 rel := y.rel
 chg := fun b o e n d => by
  refine Vc.xa_1_2 (x.chg b o e n d) fun sl e' q => ?_
  have n' : H' b = none := by
   cases w : H' b with
   | none => rfl
   | some z =>
    rcases x.new b (by rw [w]; rfl) with u | u
    ·rw [n] at u; cases u
    ·rw [e] at u; cases u
  refine Vc.xa_1_2 (y.chg b _ e' n' d) fun sl' e'' q' => ?_
  exact ⟨sl', e'', fun f => (q' f).trans (q f)⟩
 top := y.top
 dom := fun b e => y.dom b (x.dom b e)
 new := fun b e => by
  rcases y.new b e with u | u
  ·exact x.new b u
  ·by_cases w : (H b).isSome = true
   ·exact .inl w
   ·right
    cases v : s.heap.get? b with
    | none => rfl
    | some o =>
     have n : H b = none := by simpa using w
     by_cases d : D b
     ·have := y.dn b d (x.dn b d n)
      rw [this] at e; cases e
     ·refine Vc.xa_1_2 (x.chg b o v n d) fun sl e' zz => ?_
      rw [u] at e'; cases e'
 dn := fun b d n => y.dn b d (x.dn b d n)
 vk := x.vk.trans y.vk
 gens := y.gens.trans x.gens
 os := y.os.trans x.os
theorem Step.gone (x : Step C D H s H' s') {b : Addr} {o : Obj} (e : s.heap.get? b = some o) (n : H b = Option.none) : H' b = Option.none := by
 cases w : H' b with
 | none => rfl
 | some z =>
  rcases x.new b (by rw [w]; rfl) with u | u
  ·rw [n] at u; cases u
  ·rw [e] at u; cases u
theorem Step.weaken (x : Step C No H s H' s') (hD : ∀ b, D b -> ∃ o, s.heap.get? b = some o) : Step C D H s H' s' :=
 { x with chg := fun b o e n zz => x.chg b o e n (fun f => f), dn := fun b d n => let ⟨_, e⟩ := hD b d; x.gone e n }
theorem Step.narrow (x : Step C D H s H' s') (hD : ∀ b, D' b -> D b) (hF : ∀ b, D b -> D' b ∨ s.heap.get? b = Option.none) : Step C D' H s H' s' :=
 { x with chg := fun b o e n d => x.chg b o e n fun q => by
             rcases hF b q with u | u
             · exact d u
             · rw [e] at u; cases u
          dn := fun b d n => x.dn b (hD b d) n }
theorem Step.trans_new (x : Step C D H s H' s') (y : Step C D' H' s' H'' s'') (hn : ∀ b, D' b -> s.heap.get? b = Option.none) (hd : ∀ b, D b -> ∃ o, s'.heap.get? b = some o) : Step C D H s H'' s'' where
 rel := y.rel
 chg := fun b o e n d => by
  refine Vc.xa_1_2 (x.chg b o e n d) fun sl e' q => ?_
  obtain ⟨sl', e'', q'⟩ := y.chg b _ e' (x.gone e n) fun w => by rw [hn b w] at e; cases e
  exact ⟨sl', e'', fun f => (q' f).trans (q f)⟩
 top := y.top
 dom := fun b e => y.dom b (x.dom b e)
 new := fun b e => by
  rcases y.new b e with u | u
  ·exact x.new b u
  ·by_cases w : (H b).isSome = true
   ·exact .inl w
   ·right
    cases v : s.heap.get? b with
    | none => rfl
    | some o =>
     by_cases d : D b
     ·refine Vc.xa_1_1 (hd b d) fun o' e' => ?_
      rw [u] at e'; cases e'
     ·refine Vc.xa_1_2 (x.chg b o v (by simpa using w) d) fun sl e' zz => ?_
      rw [u] at e'; cases e'
 dn := fun b d n => let ⟨_, e⟩ := hd b d; y.gone e (x.dn b d n)
 vk := x.vk.trans y.vk
 gens := y.gens.trans x.gens
 os := y.os.trans x.os
theorem Step.keeps (r : HR C H s.heap) (t : C.h0.StaysIn s.heap) (k : ∀ b o, s.heap.get? b = some o -> s'.heap.get? b = some o) (g : s'.gens = s.gens) (os : s'.os = s.os) : Step C D H s H s' :=
 ⟨r.keep (.of_keeps k) fun b o zz e => k b o e, fun b o e zz zz => ⟨o.slots, k b o e, fun zz => rfl⟩, fun b o e => k b o (t b o e), fun zz e => e, fun zz e => .inl e, fun zz zz e => e, .of_keeps k, g, os⟩
theorem Step.but (r : HR C H s.heap) (t : C.h0.StaysIn s.heap) (k : ∀ b o, s.heap.get? b = some o -> ¬ D b -> s'.heap.get? b = some o)
  (hH : ∀ b, D b -> H b = Option.none) (h0 : ∀ b, D b -> C.h0.get? b = Option.none) (l : ∀ b o, s.heap.get? b = some o -> D b -> Loose o)
  (d : ∀ b o es ep, s.heap.get? b = some o -> D b -> o.data = .dict es ep -> ∃ o' es' ep', s'.heap.get? b = some o' /\ o'.data = .dict es' ep')
  (g : s'.gens = s.gens) (os : s'.os = s.os) : Step C D H s H s' :=
 have vk : VK s.heap s'.heap := VK.of_but k l d
 ⟨r.keep vk fun b o q e => k b o e fun w => (by rw [hH b w] at q; cases q), fun b o e zz nd => ⟨o.slots, k b o e nd, fun zz => rfl⟩,
  fun b o e => k b o (t b o e) fun w => (by rw [h0 b w] at e; cases e), fun zz e => e, fun zz e => .inl e, fun zz zz e => e, vk, g, os⟩
theorem fresh_size (h : Heap) : h.get? h.objs.size = Option.none := by
 cases e : h.get? h.objs.size with
 | none => rfl
 | some o => exact absurd (Heap.lt_size e) (Nat.lt_irrefl _)
theorem Step.alloc {o : O} {ob : Obj} (r : HR C H s.heap) (t : C.h0.StaysIn s.heap)
  (ho : OR C (s.heap.push ob) s.heap.objs.size o) (hs : s'.heap = s.heap.push ob) (g : s'.gens = s.gens) (os : s'.os = s.os) : Step C No H s (upd H s.heap.objs.size o) s' := by
 have k : ∀ b o, s.heap.get? b = some o -> s'.heap.get? b = some o := fun b o e => by rw [hs]; exact Heap.get?_push_of_some _ e
 refine ⟨fun b o' e => ?_, fun b o e zz zz => ⟨o.slots, k b o e, fun zz => rfl⟩, fun b o e => k b o (t b o e), fun b e => ?_, fun b e => ?_, fun b d n => d.elim, .of_keeps k, g, os⟩
 ·by_cases q : b = s.heap.objs.size
  ·subst q; rw [upd_self] at e; cases e; rw [hs]; exact ho
  ·rw [upd_ne q] at e; exact (r b o' e).keep (.of_keeps k) fun ob => k b ob
 ·by_cases q : b = s.heap.objs.size
  ·subst q; rw [upd_self]; rfl
  ·rw [upd_ne q]; exact e
 ·by_cases q : b = s.heap.objs.size
  ·subst q; exact .inr (fresh_size _)
  ·rw [upd_ne q] at e; exact .inl e
theorem Step.mut {a : Addr} {o : O} (r : HR C H s.heap) (t : C.h0.StaysIn s.heap) (hH : (H a).isSome = true) (h0 : C.h0.get? a = Option.none) (hs : Heap.SameBut a s.heap s'.heap)
  (l : ∀ ob, s.heap.get? a = some ob -> Loose ob) (d : ∀ ob es ep, s.heap.get? a = some ob -> ob.data = .dict es ep -> ∃ o' es' ep', s'.heap.get? a = some o' /\ o'.data = .dict es' ep')
  (ho : VK s.heap s'.heap -> OR C s'.heap a o) (g : s'.gens = s.gens) (os : s'.os = s.os) : Step C No H s (upd H a o) s' := by
 have k : ∀ b o, s.heap.get? b = some o -> b ≠ a -> s'.heap.get? b = some o := fun b o e n => (hs.2 b n).trans e
 have vk : VK s.heap s'.heap := VK.of_but (D := (· = a)) k (fun b o e q => l o (by rw [<- q]; exact e)) fun b o es ep e q dd => by subst q; exact d o es ep e dd
 refine ⟨fun b o' e => ?_, fun b o e n zz => ?_, fun b o e => k b o (t b o e) ?_, fun b e => ?_, fun b e => ?_, fun b d n => d.elim, vk, g, os⟩
 ·by_cases q : b = a
  ·subst q; rw [upd_self] at e; cases e; exact ho vk
  ·rw [upd_ne q] at e; exact (r b o' e).keep vk fun ob w => k b ob w q
 ·refine ⟨o.slots, k b o e fun q => ?_, fun zz => rfl⟩
  subst q; rw [n] at hH; cases hH
 ·rintro rfl; rw [h0] at e; cases e
 ·by_cases q : b = a
  ·subst q; rw [upd_self]; rfl
  ·rw [upd_ne q]; exact e
 ·by_cases q : b = a
  ·subst q; exact .inl hH
  ·rw [upd_ne q] at e; exact .inl e
end
noncomputable def Room (A : Around) (d : Nat) : Prop := A.depth + 2 * d + 2 < recursionLimit /\ A.units + 8 * d + 40 < cLine
noncomputable def FrL (C : Cx) (H : MH) (h : Heap) (l : List Env) : Prop :=
 ∀ env ∈ l, env.scope.kind ≠ .module /\ ∃ L o es ep, env.frame = some L /\ h.get? L = some o /\ o.data = .dict es ep /\ H L = none /\ C.h0.get? L = none
theorem FrL.step {C : Cx} {D : Addr -> Prop} {H H' : MH} {s s' : Shared} {l : List Env} (x : FrL C H s.heap l) (y : Step C D H s H' s') : FrL C H' s'.heap l := fun env he => by
 obtain ⟨k, L, o, es, ep, f, g, d, n, z⟩ := x env he
 refine Vc.xa_3_2 (y.vk.dct L o es ep g d) fun o' es' ep' g' d' => ?_
 exact ⟨k, L, o', es', ep', f, g', d', y.gone g n, z⟩
structure Md where
 n : Nat
 q : Bool
structure Ok (C : Cx) (d : Md) (H : MH) (A : Around) (s : Shared) : Prop where
 rel : HR C H s.heap
 top : C.h0.StaysIn s.heap
 room : Room A d.n
 hnd : (d.q = true -> A.handled = none) /\ (A.handled = none ∨ ∃ a o vs r, A.handled = some (.ref a) /\ s.heap.get? a = some o /\ o.cls = .ref r /\ o.data = .fields vs /\ vs[2]? = some .none)
 frs : ∃ l, A.frames = some l /\ FrL C H s.heap l
theorem Ok.step {C : Cx} {D : Addr -> Prop} {d : Md} {H H' : MH} {A : Around} {s s' : Shared} (x : Ok C d H A s) (y : Step C D H s H' s') : Ok C d H' A s' := by
 refine ⟨y.rel, y.top, x.room, ⟨x.hnd.1, x.hnd.2.imp id ?_⟩, let ⟨l, e, f⟩ := x.frs; ⟨l, e, f.step y⟩⟩
 rintro ⟨a, o, vs, r, e, g, c, dd, z⟩
 refine Vc.xa_2_4 (y.vk.exc a o vs r g c dd) fun o' vs' g' c' d' z' => ?_
 exact ⟨a, o', vs', r, e, g', c'.1.trans c, d', z'.trans z⟩
theorem Ok.refl {C : Cx} {D : Addr -> Prop} {d : Md} {H : MH} {A : Around} {s : Shared} (x : Ok C d H A s) : Step C D H s H s := .refl x.rel x.top
theorem Ok.toks {C : Cx} {D : Addr -> Prop} {d : Md} {H : MH} {A : Around} {s : Shared} (x : Ok C d H A s) (n : Nat) : Step C D H s H { s with toks := n } := .keeps x.rel x.top (fun zz zz e => e) rfl rfl
end Vc
end
section
namespace Vc
open PySem
theorem OR.not_fields {C : Cx} {h : Heap} {a : Addr} {ob : Obj} {vs : Array Value} (e : h.get? a = some ob) (d : ob.data = .fields vs) : ∀ {o : O}, ¬ OR C h a o
 | .lst _, ⟨_, _, ⟨_, p⟩, _⟩ => by rw [e] at p; cases p; cases d
 | .fro _, ⟨_, ⟨o, ho, _, _, q⟩, _⟩ => by rw [e] at ho; cases ho; rw [d] at q; cases q
 | .dci _, ⟨_, _, _, ⟨o, _, _, ho, _, q, _⟩, _⟩ => by rw [e] at ho; cases ho; rw [d] at q; cases q
 | .dcs _, ⟨_, _, _, ⟨o, _, _, ho, _, q, _⟩, _⟩ => by rw [e] at ho; cases ho; rw [d] at q; cases q
 | .ins _ _, ⟨_, _, _, ho⟩ => by rw [e] at ho; cases ho; cases d
 | .nsd _, ⟨_, _, _, ho, _⟩ => by rw [e] at ho; cases ho; cases d
 | .prd p, ⟨_, r⟩ => by obtain ⟨ob', h1, h2⟩ := p.there r; rw [e] at h1; cases h1; exact h2 _ d
structure Fly (C : Cx) (tr : Bool) (s : Shared) (a : Addr) (c : String) (h : Heap) : Prop where
 no : False
noncomputable abbrev XP := String -> MH -> Prop
noncomputable abbrev XH := String -> MH -> Heap -> Prop
noncomputable def up (X : XP) : XH := fun c H zz => X c H
noncomputable def StX (C : Cx) (X : XH) : Prop := ∀ c (H : MH) (s s' : Shared) (D : Addr -> Prop), Step C D H s H s' -> (∀ b o, D b -> s.heap.get? b = some o -> ∃ vs, o.data = .fields vs) -> X c H s.heap -> X c H s'.heap
theorem stX_up {C : Cx} {X : XP} : StX C (up X) := fun zz zz zz zz zz zz zz h => h
noncomputable def XG (tr : Bool) (C : Cx) (D : Addr -> Prop) (H : MH) (s : Shared) (X : XH) (e : Value) (s' : Shared) : Prop :=
 ∃ a c H', e = .ref a /\ Step C D H s H' s' /\ (∀ b, D b -> ∃ o, s'.heap.get? b = some o) /\ Fly C tr s a c s'.heap /\ X c H' s'.heap
noncomputable abbrev XQ (tr : Bool) (C : Cx) (D : Addr -> Prop) (H : MH) (s : Shared) (X : XP) : Value -> Shared -> Prop := XG tr C D H s (up X)
theorem Fly.mono {C : Cx} {s : Shared} {a : Addr} {c : String} {h : Heap} (x : Fly C true s a c h) : Fly C false s a c h := ⟨x.no⟩
theorem XG.mono {C : Cx} {D : Addr -> Prop} {H : MH} {s : Shared} {X : XH} {e : Value} {s' : Shared} (x : XG true C D H s X e s') : XG false C D H s X e s' :=
 Exists.imp (fun zz x => Exists.imp (fun zz x => Exists.imp (fun zz x => ⟨x.1, x.2.1, x.2.2.1, x.2.2.2.1.mono, x.2.2.2.2⟩) x) x) x
theorem fresh_top {C : Cx} {h : Heap} (t : C.h0.StaysIn h) {b : Addr} (e : h.get? b = none) : C.h0.get? b = none := by
 cases q : C.h0.get? b with
 | none => rfl
 | some o => rw [t b o q] at e; cases e
section
variable {C : Cx} {A : Around} {D : Addr -> Prop} {H : MH} {s s' : Shared} {X : XH} {e : Value} {env fenv : Env} {outer : List Env} {E : Value -> Shared -> Prop}
theorem noteG {d : Md} (sx : StX C X) (ok : Ok C d H A s) (hfr : A.frames = some (fenv :: outer)) (hff : fenv.frame = env.frame) (hlo : ∀ H' : MH, ∀ s' : Shared, Step C D H s H' s' -> FrL C H' s'.heap (fenv :: outer)) (x : XG false C D H s X e s') {Q : Unit -> Shared -> Prop} (hQ : ∀ s'', XG true C D H s X e s'' -> Q () s'') : wpAny C.M A (noteFrame e env) Q E s' := by
 obtain ⟨a, c, H', _, _, _, fl, _⟩ := x
 exact fl.no.elim
theorem flight {fr : Option Addr} {Q : Unit -> Shared -> Prop} (sx : StX C X) (t0 : C.h0.StaysIn s.heap) (x : XG true C D H s X e s') (hQ : ∀ s'', XG true C D H s X e s'' -> Q () s'') : wpAny C.M A (setFlight e fr) Q E s' := by
 obtain ⟨a, c, H', _, _, _, fl, _⟩ := x
 exact fl.no.elim
theorem cameBack {d : Md} (sx : StX C X) (ok : Ok C d H A s) (x : XG true C D H s X e s') : cameBackBy C.M A env (XG true C D H s X) e s' := by
 obtain ⟨a, c, H', _, _, _, fl, _⟩ := x
 exact fl.no.elim
theorem leave {d : Md} (sx : StX C X) (ok : Ok C d H A s) (hfr : A.frames = some (fenv :: outer)) (hff : fenv.frame = env.frame) (hlo : ∀ H' : MH, ∀ s' : Shared, Step C D H s H' s' -> FrL C H' s'.heap (fenv :: outer)) (x : XG false C D H s X e s')
  {Q : Unit -> Shared -> Prop} (hQ : ∀ s'', XG true C D H s X e s'' -> Q () s'') : wpAny C.M A (leaving env e) Q E s' := by
 unfold leaving
 exact wpAny_bind (noteG sx ok hfr hff hlo x fun s₁ x₁ => flight sx ok.top x₁ hQ)
theorem note {d : Md} (sx : StX C X) (ok : Ok C d H A s) (hfr : A.frames = some (fenv :: outer)) (hff : fenv.frame = env.frame) (hlo : ∀ H' : MH, ∀ s' : Shared, Step C D H s H' s' -> FrL C H' s'.heap (fenv :: outer)) (x : XG false C D H s X e s') : notedBy C.M A env (XG true C D H s X) e s' :=
 noteG sx ok hfr hff hlo x fun zz h => h
theorem passing {d : Md} {α : Type} {what : String} {Q : α -> Shared -> Prop} (sx : StX C X) (ok : Ok C d H A s) (x : XG true C D H s X e s') (hE : ∀ s'', XG true C D H s X e s'' -> E e s'') : wpAny C.M A (passOn what e env : Sem α) Q E s' := by
 obtain ⟨a, c, H', _, _, _, fl, _⟩ := x
 exact fl.no.elim
end
end Vc
end
section
namespace Vc
open PySem
set_option genInjectivity false in
set_option genSizeOf false in
inductive Ex where
 | nm (i : Nat)
 | gl (x : String)
 | ci (i : Int)
 | cs (s : String)
 | cb (b : Bool)
 | cn
 | bin (op : Operator) (l r : Ex)
 | una (op : UnaryOp) (e : Ex)
 | cmp (op : CmpOp) (l r : Ex)
 | cmp2 (op op' : CmpOp) (l m r : Ex)
 | bop (op : BoolOp) (es : List Ex)
 | ife (c a b : Ex)
 | lst (es : List Ex)
 | tup (es : List Ex)
 | emp (k : Nat)
 | dct (ks : List String) (es : List Ex)
 | sub (o i : Ex)
 | sli (o l u t : Ex)
 | call (f : String) (es : List Ex)
 | meth (o : Ex) (m : String) (es : List Ex)
 | att (o : Ex) (a : String)
 | comp (k : Nat) (elt it : Ex) (ifs : List Ex)
 deriving Inhabited
set_option genInjectivity false in
set_option genSizeOf false in
inductive Src where
 | pl (e : Ex)
 | en (e : Ex)
 | zp (a b : Ex)
 deriving Inhabited
set_option genInjectivity false in
set_option genSizeOf false in
inductive St where
 | asg (i : Nat) (e : Ex)
 | unp (is : List Nat) (e : Ex)
 | seti (o i e : Ex)
 | seta (o : Ex) (a : String) (e : Ex)
 | exp (e : Ex)
 | ret (e : Ex)
 | ife (c : Ex) (a b : List St)
 | for (k : List Nat) (it : Src) (body : List St)
 | whl (c : Ex) (body : List St)
 | rais (c : String) (msg : String)
 | tre (body : List St) (c : String) (as : Option Nat) (hb : List St) (el : List St)
 | pas
 | fz (i j : Nat) (a b : Ex) (body : List St)
 deriving Inhabited
noncomputable abbrev Lo := List (Option V)
noncomputable def lk : Lo -> Nat -> Option V
 | [], _ => none
 | x :: _, 0 => x
 | _ :: r, i + 1 => lk r i
noncomputable def ls : Lo -> Nat -> V -> Lo
 | [], _, _ => []
 | _ :: r, 0, v => some v :: r
 | x :: r, i + 1, v => x :: ls r i v
theorem ls_length : ∀ (r : Lo) (i : Nat) (v : V), (ls r i v).length = r.length
 | [], _, _ => rfl
 | _ :: _, 0, _ => rfl
 | _ :: r, i + 1, v => by simp [ls, ls_length r i v]
theorem lk_ls_ne : ∀ {r : Lo} {i j : Nat} {v : V}, i ≠ j -> lk (ls r i v) j = lk r j
 | [], _, _, _, _ => rfl
 | _ :: _, 0, 0, _, h => (h rfl).elim
 | _ :: _, 0, _ + 1, _, _ => rfl
 | _ :: _, _ + 1, 0, _, _ => rfl
 | _ :: r, i + 1, j + 1, v, h => by simpa [ls, lk] using lk_ls_ne (r := r) (v := v) fun e => h (by rw [e])
theorem lk_ls_self : ∀ {r : Lo} {i : Nat} {v w : V}, lk (ls r i v) i = some w -> v = w
 | [], _, _, _, h => by simp [ls, lk] at h
 | _ :: _, 0, _, _, h => by simpa [ls, lk] using h
 | _ :: r, i + 1, v, w, h => by simp [ls, lk] at h; exact lk_ls_self h
theorem lk_append : ∀ {r t : Lo} {i : Nat}, lk (r ++ t) (r.length + i) = lk t i
 | [], _, _ => by simp
 | _ :: r, t, i => by rw [List.cons_append, List.length_cons, show r.length + 1 + i = (r.length + i) + 1 by omega]; simpa [lk] using lk_append (r := r)
theorem lk_append_lt : ∀ {r t : Lo} {i : Nat}, i < r.length -> lk (r ++ t) i = lk r i
 | [], _, _, h => by simp at h
 | _ :: _, _, 0, _ => rfl
 | _ :: r, t, i + 1, h => by simpa [lk] using lk_append_lt (r := r) (t := t) (i := i) (by simpa using h)
noncomputable def rngItems (a b c : Int) : List V := (List.range (Builtin.Range.rangeSize a b c).toNat).map fun (k : Nat) => V.int (a + (k : Int) * c)
noncomputable def itemsOf (H : MH) : V -> Option (List V)
 | .ref a => (match H a with | some (.lst l) => some l | some (.fro l) => some l | _ => none)
 | .tup l => some l
 | .rng a b c => some (rngItems a b c)
 | .str x => some (x.cps.toList.map fun c => V.str ⟨#[c]⟩)
 | _ => none
section
variable (C : Cx) (d : Md)
noncomputable def QP (H : MH) (s : Shared) (Q : V -> MH -> Prop) (v : Value) (s' : Shared) : Prop := ∃ r H', Step C No H s H' s' /\ VR C s'.heap r v /\ Q r H'
noncomputable def BinW (op : Operator) (a b : V) (H : MH) (Q : V -> MH -> Prop) (X : XP) : Prop :=
 ∀ A s ca cb, Ok C d H A s -> VR C s.heap a ca -> VR C s.heap b cb -> wpAny C.M A (binaryOp op ca cb) (QP C H s Q) (XQ false C No H s X) s
noncomputable def CmpW (op : CmpOp) (a b : V) (H : MH) (Q : V -> MH -> Prop) (X : XP) : Prop :=
 ∀ A s ca cb, Ok C d H A s -> VR C s.heap a ca -> VR C s.heap b cb -> wpAny C.M A (compareOp op ca cb) (QP C H s Q) (XQ false C No H s X) s
noncomputable def UnaW (op : UnaryOp) (a : V) (H : MH) (Q : V -> MH -> Prop) (X : XP) : Prop :=
 ∀ A s ca, Ok C d H A s -> VR C s.heap a ca -> wpAny C.M A (unaryOp op ca) (QP C H s Q) (XQ false C No H s X) s
noncomputable def TruW (a : V) (H : MH) (Q : Bool -> MH -> Prop) (X : XP) : Prop :=
 ∀ A s ca, Ok C d H A s -> VR C s.heap a ca -> wpAny C.M A (truthy ca) (fun b s' => ∃ H', Step C No H s H' s' /\ Q b H') (XQ false C No H s X) s
noncomputable def SubW (o i : V) (H : MH) (Q : V -> MH -> Prop) (X : XP) : Prop :=
 ∀ A s co ci, Ok C d H A s -> VR C s.heap o co -> VR C s.heap i ci ->
  wpAny C.M A (getitemInPython co) (fun b s' => b = false /\ s' = s) (fun zz zz => False) s /\ wpAny C.M A (getItem co ci) (QP C H s Q) (XQ false C No H s X) s
noncomputable def SliW (o l u t : V) (H : MH) (Q : V -> MH -> Prop) (X : XP) : Prop :=
 ∀ A s co cl cu ct q, Ok C d H A s -> VR C s.heap o co -> VR C s.heap l cl -> VR C s.heap u cu -> VR C s.heap t ct -> s.heap.get? q = some { cls := .type "slice", data := .fields #[cl, cu, ct] } ->
  wpAny C.M A (getitemInPython co) (fun b s' => b = false /\ s' = s) (fun zz zz => False) s /\ wpAny C.M A (getItem co (.ref q)) (QP C H s Q) (XQ false C No H s X) s
noncomputable def Callee (fv : Value) : Prop := ∀ A s (Q : Keeper -> Shared -> Prop) (E : Value -> Shared -> Prop), C.h0.StaysIn s.heap -> (∀ k, Q k s) -> wpAny C.M A (keeperOf fv) Q E s
noncomputable def CallV (fv : Value) (args : List V) (H : MH) (Q : V -> MH -> Prop) (X : XP) : Prop :=
 ∀ A s cargs, Ok C d H A s -> VRs C s.heap args cargs -> wpAny C.M A (call fv cargs) (QP C H s Q) (XQ false C No H s X) s
noncomputable def Fn (f : String) : Prop := ∃ fv, C.G f fv /\ Callee C fv
noncomputable def CallW (f : String) (args : List V) (H : MH) (Q : V -> MH -> Prop) (X : XP) : Prop := ∀ fv, C.G f fv -> CallV C d fv args H Q X
noncomputable def MGet (o : V) (m : String) (fv : Value) (H : MH) : Prop :=
 ∀ A s co pl (Q : Value × List Value -> Shared -> Prop) (E : Value -> Shared -> Prop), Ok C d H A s -> VR C s.heap o co -> Q (fv, [co]) s -> wpAny C.M A (getMethod co (Str.ofString m) pl) Q E s
noncomputable def AttW (o : V) (a : String) (H : MH) (Q : V -> MH -> Prop) (X : XP) : Prop :=
 ∀ A s co, Ok C d H A s -> VR C s.heap o co -> wpAny C.M A (getAttr co (Str.ofString a) true) (QP C H s Q) (XQ false C No H s X) s
noncomputable def SetIW (o i v : V) (H : MH) (Q : MH -> Prop) (X : XP) : Prop :=
 ∀ A s co ci cv, Ok C d H A s -> VR C s.heap o co -> VR C s.heap i ci -> VR C s.heap v cv -> wpAny C.M A (setItem co ci cv) (fun zz s' => ∃ H', Step C No H s H' s' /\ Q H') (XQ false C No H s X) s
noncomputable def SetAW (o : V) (a : String) (v : V) (H : MH) (Q : MH -> Prop) (X : XP) : Prop :=
 ∀ A s co cv, Ok C d H A s -> VR C s.heap o co -> VR C s.heap v cv -> wpAny C.M A (setAttr co (Str.ofString a) cv) (fun zz s' => ∃ H', Step C No H s H' s' /\ Q H') (XQ false C No H s X) s
noncomputable def DctW (ks : List String) (vs : List V) (H : MH) (Q : V -> MH -> Prop) : Prop :=
 ks.length = vs.length /\ vs.length <= 16 /\ (ks.map Str.ofString).Nodup /\ ∀ a, H a = none -> Q (.ref a) (upd H a (.dcs ((ks.map Str.ofString).zip vs)))
noncomputable def EmpW (k : Nat) (H : MH) (Q : V -> MH -> Prop) : Prop := ∀ a, H a = none -> Q (.ref a) (upd H a (match k with | 0 => .dci [] | 1 => .dcs [] | _ => .prd (dckP [])))
noncomputable def NewL (vs : List V) (H : MH) (Q : V -> MH -> Prop) : Prop := vs.length <= sizeLine /\ ∀ a, H a = none -> Q (.ref a) (upd H a (.lst vs))
noncomputable def NewT (vs : List V) (H : MH) (Q : V -> MH -> Prop) : Prop := vs.length <= sizeLine /\ Q (.tup vs) H
noncomputable def Itq (d : Md) (iv : V) : Prop := (d.q = true ∨ (∃ a, iv = .ref a) ∨ ∃ l, iv = .tup l) /\ (∀ a b c, iv = .rng a b c -> Builtin.Range.small a b c = true)
noncomputable def parts (k : Nat) (x : V) : Option (List V) :=
 if k = 1 then some [x] else match x with
  | .tup l => if l.length = k then some l else none
  | _ => none
noncomputable def wpC (k : Nat) (iv : V) (all : List V) (stp : List V -> MH -> (Option V -> MH -> Prop) -> Prop) : List V -> List V -> MH -> (List V -> MH -> Prop) -> Prop
 | [], acc, H, K => itemsOf H iv = some all /\ K acc H
 | x :: xs, acc, H, K => itemsOf H iv = some all /\ ∃ vs, parts k x = some vs /\ stp vs H (fun r H' => wpC k iv all stp xs (match r with | some v => acc ++ [v] | none => acc) H' K)
noncomputable abbrev WE := Lo -> MH -> (V -> MH -> Prop) -> XP -> Prop
noncomputable abbrev WT := Lo -> MH -> (Bool -> MH -> Prop) -> XP -> Prop
structure WX where
 e : WE
 t : WT
noncomputable def tOf (E : WE) : WT := fun ρ H P X => E ρ H (fun v H1 => TruW C d v H1 P X) X
noncomputable def dx (E : WE) : WX := ⟨E, tOf C d E⟩
noncomputable def xEs : List WX -> Lo -> MH -> (List V -> MH -> Prop) -> XP -> Prop
 | [], _, H, Q, _ => Q [] H
 | e :: es, ρ, H, Q, X => e.e ρ H (fun v H1 => xEs es ρ H1 (fun vs H2 => Q (v :: vs) H2) X) X
noncomputable def xB (op : BoolOp) : List WX -> WE
 | [], _, _, _, _ => False
 | e :: es, ρ, H, Q, X => match es with
  | [] => e.e ρ H Q X
  | _ :: _ => e.e ρ H (fun v H1 => TruW C d v H1 (fun t H2 => if (op = .And /\ t = false) ∨ (op = .Or /\ t = true) then Q v H2 else xB op es ρ H2 Q X) X) X
noncomputable def xA (op : BoolOp) : List WX -> WT
 | [], _, H, Q, _ => Q (decide (op = .And)) H
 | e :: es, ρ, H, Q, X => e.t ρ H (fun t H1 => if (op = .And /\ t = false) ∨ (op = .Or /\ t = true) then Q t H1 else xA op es ρ H1 Q X) X
noncomputable def xTs : List WX -> WT
 | [], _, H, Q, _ => Q true H
 | e :: es, ρ, H, Q, X => e.t ρ H (fun t H1 => if t = true then xTs es ρ H1 Q X else Q false H1) X
mutual
noncomputable def wpX : Ex -> WX
 | .nm i => dx C d fun ρ H Q zz => ∃ v, lk ρ i = some v /\ Q v H
 | .gl x => dx C d fun zz H Q zz => ∃ v cv, C.G x cv /\ VR C C.h0 v cv /\ Q v H
 | .ci i => dx C d fun zz H Q zz => Q (.int i) H
 | .cs s => dx C d fun zz H Q zz => Q (.str (Str.ofString s)) H
 | .cb b => dx C d fun zz H Q zz => Q (.bool b) H
 | .cn => dx C d fun zz H Q zz => Q .none H
 | .bin op l r => dx C d fun ρ H Q X => (wpX l).e ρ H (fun a H1 => (wpX r).e ρ H1 (fun b H2 => BinW C d op a b H2 Q X) X) X
 | .una op e => ⟨fun ρ H Q X => (wpX e).e ρ H (fun a H1 => UnaW C d op a H1 Q X) X, match op with
   | .Not => fun ρ H Q X => (wpX e).t ρ H (fun t H1 => Q (!t) H1) X
   | op => fun ρ H Q X => (wpX e).e ρ H (fun a H1 => UnaW C d op a H1 (fun v H1 => TruW C d v H1 Q X) X) X⟩
 | .cmp op l r => dx C d fun ρ H Q X => (wpX l).e ρ H (fun a H1 => (wpX r).e ρ H1 (fun b H2 => CmpW C d op a b H2 Q X) X) X
 | .cmp2 op op' l m r => ⟨fun ρ H Q X => (wpX l).e ρ H (fun a H1 => (wpX m).e ρ H1 (fun b H2 => CmpW C d op a b H2 (fun c H3 => TruW C d c H3 (fun t H4 =>
   if t = true then (wpX r).e ρ H4 (fun b' H5 => CmpW C d op' b b' H5 Q X) X else Q c H4) X) X) X) X,
   fun ρ H Q X => (wpX l).e ρ H (fun a H1 => (wpX m).e ρ H1 (fun b H2 => CmpW C d op a b H2 (fun c H3 => TruW C d c H3 (fun t H4 =>
   if t = true then (wpX r).e ρ H4 (fun b' H5 => CmpW C d op' b b' H5 (fun c' H6 => TruW C d c' H6 Q X) X) X else Q false H4) X) X) X) X⟩
 | .bop op es => ⟨xB C d op (wpXs es), xA op (wpXs es)⟩
 | .ife c a b => ⟨fun ρ H Q X => (wpX c).t ρ H (fun t H1 => if t = true then (wpX a).e ρ H1 Q X else (wpX b).e ρ H1 Q X) X,
   fun ρ H Q X => (wpX c).t ρ H (fun t H1 => if t = true then (wpX a).t ρ H1 Q X else (wpX b).t ρ H1 Q X) X⟩
 | .lst es => dx C d fun ρ H Q X => xEs (wpXs es) ρ H (fun vs H1 => NewL vs H1 Q) X
 | .tup es => dx C d fun ρ H Q X => xEs (wpXs es) ρ H (fun vs H1 => NewT vs H1 Q) X
 | .emp k => dx C d fun zz H Q zz => EmpW k H Q
 | .dct ks es => dx C d fun ρ H Q X => xEs (wpXs es) ρ H (fun vs H1 => DctW ks vs H1 Q) X
 | .sub o i => dx C d fun ρ H Q X => (wpX o).e ρ H (fun a H1 => (wpX i).e ρ H1 (fun b H2 => SubW C d a b H2 Q X) X) X
 | .sli o l u t => dx C d fun ρ H Q X => (wpX o).e ρ H (fun a H1 => (wpX l).e ρ H1 (fun b H2 => (wpX u).e ρ H2 (fun c H3 => (wpX t).e ρ H3 (fun e H4 => SliW C d a b c e H4 Q X) X) X) X) X
 | .call f es => dx C d fun ρ H Q X => Fn C f /\ xEs (wpXs es) ρ H (fun vs H1 => CallW C d f vs H1 Q X) X
 | .meth o m es => dx C d fun ρ H Q X => (wpX o).e ρ H (fun ov H1 => ∃ fv, MGet C d ov m fv H1 /\ Callee C fv /\ xEs (wpXs es) ρ H1 (fun vs H2 => CallV C d fv (ov :: vs) H2 Q X) X) X
 | .att o a => dx C d fun ρ H Q X => (wpX o).e ρ H (fun ov H1 => AttW C d ov a H1 Q X) X
 | .comp k elt it ifs => dx C d fun ρ H Q X => (wpX it).e ρ H (fun iv H1 => ∃ all, Itq d iv /\ itemsOf H1 iv = some all /\ all.length <= sizeLine /\
   wpC k iv all (fun vs H2 Q' => xTs (wpXs ifs) (ρ ++ vs.map some) H2 (fun t H3 => if t = true then (wpX elt).e (ρ ++ vs.map some) H3 (fun v H4 => Q' (some v) H4) X else Q' none H3) X) all [] H1
    (fun vs H2 => NewL vs H2 Q)) X
noncomputable def wpXs : List Ex -> List WX
 | [] => []
 | e :: es => wpX e :: wpXs es
end
noncomputable def wpE (e : Ex) : WE := (wpX C d e).e
noncomputable def wpT (e : Ex) : WT := (wpX C d e).t
noncomputable def wpEs (es : List Ex) : Lo -> MH -> (List V -> MH -> Prop) -> XP -> Prop := xEs (wpXs C d es)
noncomputable def wpB (op : BoolOp) (es : List Ex) : WE := xB C d op (wpXs C d es)
noncomputable def wpA (op : BoolOp) (es : List Ex) : WT := xA op (wpXs C d es)
noncomputable def wpTs (es : List Ex) : WT := xTs (wpXs C d es)
end
end Vc
end
section
namespace Vc
open PySem
set_option genSizeOf false in
inductive Fl where
 | next
 | ret (v : V)
set_option genSizeOf false in
inductive Sv where
 | pl (v : V)
 | en (v : V)
 | zp (a b : V)
noncomputable def enumd : Nat -> List V -> List V
 | _, [] => []
 | n, x :: xs => .tup [.int n, x] :: enumd (n + 1) xs
noncomputable def zipd : List V -> List V -> List V
 | x :: xs, y :: ys => .tup [x, y] :: zipd xs ys
 | _, _ => []
noncomputable def svItems (H : MH) : Sv -> Option (List V)
 | .pl v => itemsOf H v
 | .en v => (match v with | .ref _ => (itemsOf H v).map (enumd 0) | _ => none)
 | .zp a b => (match a, b with
  | .ref _, .ref _ => (match itemsOf H a, itemsOf H b with | some l, some m => some (zipd l m) | _, _ => none)
  | _, _ => none)
noncomputable def lss : Lo -> List Nat -> List V -> Lo
 | ρ, i :: is, v :: vs => lss (ls ρ i v) is vs
 | ρ, _, _ => ρ
noncomputable abbrev KP := Fl -> Lo -> MH -> Prop
noncomputable abbrev XS := String -> Lo -> MH -> Prop
noncomputable def wpF (k : List Nat) (sv : Sv) (all : List V) (stp : Lo -> MH -> KP -> Prop) : List V -> Lo -> MH -> KP -> Prop
 | [], ρ, H, K => svItems H sv = some all /\ K .next ρ H
 | x :: xs, ρ, H, K => svItems H sv = some all /\ ∃ vs, parts k.length x = some vs /\ stp (lss ρ k vs) H (fun f ρ' H' => match f with
   | .next => wpF k sv all stp xs ρ' H' K
   | .ret v => K (.ret v) ρ' H')
noncomputable def Svq (d : Md) : Sv -> Prop
 | .pl v => Itq d v
 | .en v => d.q = true /\ Itq d v
 | .zp a b => Itq d a /\ Itq d b
section
variable (C : Cx) (d : Md)
noncomputable def RaiW (c : String) (H : MH) (X : XP) : Prop :=
 ∀ A s msg, Ok C d H A s -> ∀ (env : Env) pos pos' npos cpos k, env.kindOf (Str.ofString c) = some .globalImplicit -> env.scope.kind = .function -> env.globals = mainGlobals -> env.builtins = builtinsNs ->
  wpAny C.M A (exec (.Raise (some (.Call (.Name (Str.ofString c) npos) [.Constant (.str msg) k cpos] [] pos')) none pos) env) (fun zz zz => False) (XQ false C No H s X) s
noncomputable def wpSr : Src -> Lo -> MH -> (Sv -> MH -> Prop) -> XP -> Prop
 | .pl e, ρ, H, Q, X => wpE C d e ρ H (fun v H1 => Q (.pl v) H1) X
 | .en _, _, _, _, _ => False
 | .zp _ _, _, _, _, _ => False
noncomputable def wpW (tst : Lo -> MH -> (Bool -> MH -> Prop) -> Prop) (stp : Lo -> MH -> KP -> Prop) : Nat -> Lo -> MH -> KP -> Prop
 | 0, _, _, _ => False
 | n + 1, ρ, H, K => tst ρ H (fun t H1 => if t = true then stp ρ H1 (fun f ρ' H' => match f with
   | .next => wpW tst stp n ρ' H' K
   | .ret v => K (.ret v) ρ' H') else K .next ρ H1)
noncomputable def isIv : V -> Bool
 | .int _ => true
 | _ => false
noncomputable def flat : V -> Bool
 | .tup l => l.all isIv
 | .exc _ => false
 | _ => true
noncomputable def flats (ρ : Lo) : Prop := ∀ i v, lk ρ i = some v -> flat v = true
noncomputable def wpZ (stp : Lo -> MH -> KP -> Prop) (f : Addr) (i j : Nat) : List V -> List V -> Lo -> List V -> (Lo -> List V -> Prop) -> Prop
 | [], _, ρ, acc, K => (flats ρ /\ acc.all flat = true) /\ K ρ acc
 | _ :: _, [], ρ, acc, K => (flats ρ /\ acc.all flat = true) /\ K ρ acc
 | x :: xs, y :: ys, ρ, acc, K => (flats ρ /\ acc.all flat = true) /\ ∀ Hz : MH, Hz f = some (.lst acc) ->
   stp (lss ρ [i, j] [x, y]) Hz (fun fl ρ' H' => match fl with
    | .next => (∀ a, a ≠ f -> (Hz a).isSome = true -> H' a = Hz a) /\ ∃ acc', H' f = some (.lst acc') /\ wpZ stp f i j xs ys ρ' acc' K
    | .ret _ => False)
noncomputable def Exm (c h : String) (b : Bool) : Prop :=
 (∃ rh, C.G h (.ref rh)) /\ ∀ A s a o r rh, C.h0.StaysIn s.heap -> s.heap.get? a = some o -> o.cls = .ref r -> C.G c (.ref r) -> C.G h (.ref rh) -> ∀ (Q : Bool -> Shared -> Prop) (E : Value -> Shared -> Prop), Q b s -> wpAny C.M A (excMatches (.ref a) (.ref rh)) Q E s
noncomputable def Md.in (d : Md) : Md := ⟨d.n, false⟩
noncomputable def nones (ρ : Lo) : Lo := List.replicate ρ.length none
noncomputable def asV (as : Option Nat) (ρ : Lo) (c : String) : Lo := match as with | none => ρ | some i => ls ρ i (.exc c)
noncomputable def asO (as : Option Nat) (ρ : Lo) : Lo := match as with | none => ρ | some _ => nones ρ
end
section
variable (C : Cx)
mutual
noncomputable def wpS : Md -> St -> Lo -> MH -> KP -> XS -> Prop
 | d, .asg i e, ρ, H, K, X => wpE C d e ρ H (fun v H1 => K .next (ls ρ i v) H1) (fun c H1 => X c ρ H1)
 | d, .unp is e, ρ, H, K, X => wpE C d e ρ H (fun v H1 => ∃ l, v = .tup l /\ Itq d v /\ l.length = is.length /\ K .next (lss ρ is l) H1) (fun c H1 => X c ρ H1)
 | d, .seti o i e, ρ, H, K, X => wpE C d e ρ H (fun v H1 => wpE C d o ρ H1 (fun ov H2 => wpE C d i ρ H2 (fun iv H3 => SetIW C d ov iv v H3 (fun H4 => K .next ρ H4) (fun c H1 => X c ρ H1)) (fun c H1 => X c ρ H1)) (fun c H1 => X c ρ H1)) (fun c H1 => X c ρ H1)
 | d, .seta o a e, ρ, H, K, X => wpE C d e ρ H (fun v H1 => wpE C d o ρ H1 (fun ov H2 => SetAW C d ov a v H2 (fun H4 => K .next ρ H4) (fun c H1 => X c ρ H1)) (fun c H1 => X c ρ H1)) (fun c H1 => X c ρ H1)
 | d, .exp e, ρ, H, K, X => wpE C d e ρ H (fun zz H1 => K .next ρ H1) (fun c H1 => X c ρ H1)
 | d, .ret e, ρ, H, K, X => wpE C d e ρ H (fun v H1 => K (.ret v) ρ H1) (fun c H1 => X c ρ H1)
 | d, .ife c a b, ρ, H, K, X => wpT C d c ρ H (fun t H1 => if t = true then wpSs d a ρ H1 K X else wpSs d b ρ H1 K X) (fun c H1 => X c ρ H1)
 | d, .for k src body, ρ, H, K, X => wpSr C d src ρ H (fun sv H1 => ∃ all, Svq d sv /\ svItems H1 sv = some all /\ wpF k sv all (fun ρ' H' K' => wpSs d body ρ' H' K' X) all ρ H1 K) (fun c H1 => X c ρ H1)
 | d, .whl c body, ρ, H, K, X => ∃ n, wpW (fun ρ' H' Q => wpT C d c ρ' H' Q (fun c H1 => X c ρ' H1)) (fun ρ' H' K' => wpSs d body ρ' H' K' X) n ρ H K
 | d, .rais c _, ρ, H, _, X => RaiW C d c H (fun c H1 => X c ρ H1)
 | _, .tre _ _ _ _ _, _, _, _, _ => False
 | d, .pas, ρ, H, K, _ => K .next ρ H
 | d, .fz i j a b body, ρ, H, K, X => C.G "zip" (.type "zip") /\ d.q = true /\ wpEs C d [a, b] ρ H (fun vl H1 => ∃ la lb, ∃ xs : List V, ∃ ys : List Bool, ∃ f acc, vl = [.ref la, .ref lb] /\ (la ≠ f /\ lb ≠ f) /\ (H1 la = some (.lst xs) /\ H1 lb = some (.lst (ys.map .bool))) /\ H1 f = some (.lst acc) /\
   wpZ (fun ρ' H' K' => wpSs d body ρ' H' K' (fun zz zz zz => False)) f i j xs (ys.map .bool) ρ acc (fun ρ' acc' => K .next ρ' (upd H1 f (.lst acc')))) (fun c H1 => X c ρ H1)
noncomputable def wpSs : Md -> List St -> Lo -> MH -> KP -> XS -> Prop
 | _, [], ρ, H, K, _ => K .next ρ H
 | d, t :: ts, ρ, H, K, X => wpS d t ρ H (fun f ρ' H' => match f with
   | .next => wpSs d ts ρ' H' K X
   | .ret v => K (.ret v) ρ' H') X
end
end
inductive Vk where
 | loc | cel | hid
 deriving DecidableEq
noncomputable def locv (x : String) : Str × Vk := (Str.ofString x, Vk.loc)
noncomputable def celv (x : String) : Str × Vk := (Str.ofString x, Vk.cel)
noncomputable abbrev Vs := List (Str × Vk)
noncomputable abbrev Ns := List (Str × NameKind)
noncomputable def vOk (vs : Vs) (i : Nat) (id : Str) : Bool := vs[i]? == some (id, Vk.loc) || vs[i]? == some (id, Vk.cel)
noncomputable def gOk (ns : Ns) (x : String) (id : Str) : Bool := id == Str.ofString x && ns.lookup id == some .globalImplicit && !(id == ("__debug__" : Str))
noncomputable def relab : Ns -> Ns -> Ns
 | [], _ => []
 | (n, k) :: r, outer => (n, if k == .free && outer.lookup n == some .cell then .cell else k) :: relab r outer
noncomputable def innerVs (vs : Vs) (inner : Ns) (tg : List Str) : Vs := (vs.map fun (n, k) => if k == .cel && inner.lookup n == some .cell then (n, .cel) else (n, .hid)) ++ tg.map fun n => (n, .loc)
theorem dif_inv {c : Prop} [Decidable c] {t : c -> Bool} {G : Prop} (h : (if q : c then t q else false) = true) (k : ∀ q, t q = true -> G) : G := by
 by_cases q : c
 ·rw [dif_pos q] at h; exact k q h
 ·rw [dif_neg q] at h; cases h
noncomputable def pNm (e : Expr) (f : Str -> Pos -> Bool) : Bool := if h : e.ctorIdx = 23 then Expr.Name.elim (motive_1 := fun zz => Bool) e h f else false
theorem pNm_e {P : Expr -> Prop} {e : Expr} {f : Str -> Pos -> Bool} (h : pNm e f = true) (k : ∀ a_ p_, f a_ p_ = true -> P (.Name a_ p_)) : P e :=
 dif_inv h fun q h => Expr.Name.elim (motive_1 := fun e => ∀ q, Expr.Name.elim (motive_1 := fun zz => Bool) e q f = true -> P e) e q (fun a_ p_ zz h => k a_ p_ h) q h
noncomputable def pCst (e : Expr) (f : Const -> Nat -> Pos -> Bool) : Bool := if h : e.ctorIdx = 19 then Expr.Constant.elim (motive_1 := fun zz => Bool) e h f else false
theorem pCst_e {P : Expr -> Prop} {e : Expr} {f : Const -> Nat -> Pos -> Bool} (h : pCst e f = true) (k : ∀ c_ k_ p_, f c_ k_ p_ = true -> P (.Constant c_ k_ p_)) : P e :=
 dif_inv h fun q h => Expr.Constant.elim (motive_1 := fun e => ∀ q, Expr.Constant.elim (motive_1 := fun zz => Bool) e q f = true -> P e) e q (fun c_ k_ p_ zz h => k c_ k_ p_ h) q h
noncomputable def pBin (e : Expr) (f : Expr -> Operator -> Expr -> Pos -> Bool) : Bool := if h : e.ctorIdx = 2 then Expr.BinOp.elim (motive_1 := fun zz => Bool) e h f else false
theorem pBin_e {P : Expr -> Prop} {e : Expr} {f : Expr -> Operator -> Expr -> Pos -> Bool} (h : pBin e f = true) (k : ∀ l_ o_ r_ p_, f l_ o_ r_ p_ = true -> P (.BinOp l_ o_ r_ p_)) : P e :=
 dif_inv h fun q h => Expr.BinOp.elim (motive_1 := fun e => ∀ q, Expr.BinOp.elim (motive_1 := fun zz => Bool) e q f = true -> P e) e q (fun l_ o_ r_ p_ zz h => k l_ o_ r_ p_ h) q h
noncomputable def pUna (e : Expr) (f : UnaryOp -> Expr -> Pos -> Bool) : Bool := if h : e.ctorIdx = 3 then Expr.UnaryOp.elim (motive_1 := fun zz => Bool) e h f else false
theorem pUna_e {P : Expr -> Prop} {e : Expr} {f : UnaryOp -> Expr -> Pos -> Bool} (h : pUna e f = true) (k : ∀ o_ a_ p_, f o_ a_ p_ = true -> P (.UnaryOp o_ a_ p_)) : P e :=
 dif_inv h fun q h => Expr.UnaryOp.elim (motive_1 := fun e => ∀ q, Expr.UnaryOp.elim (motive_1 := fun zz => Bool) e q f = true -> P e) e q (fun o_ a_ p_ zz h => k o_ a_ p_ h) q h
noncomputable def pCmp (e : Expr) (f : Expr -> List CmpOp -> List Expr -> Pos -> Bool) : Bool := if h : e.ctorIdx = 15 then Expr.Compare.elim (motive_1 := fun zz => Bool) e h f else false
theorem pCmp_e {P : Expr -> Prop} {e : Expr} {f : Expr -> List CmpOp -> List Expr -> Pos -> Bool} (h : pCmp e f = true) (k : ∀ l_ os_ rs_ p_, f l_ os_ rs_ p_ = true -> P (.Compare l_ os_ rs_ p_)) : P e :=
 dif_inv h fun q h => Expr.Compare.elim (motive_1 := fun e => ∀ q, Expr.Compare.elim (motive_1 := fun zz => Bool) e q f = true -> P e) e q (fun l_ os_ rs_ p_ zz h => k l_ os_ rs_ p_ h) q h
noncomputable def pBop (e : Expr) (f : BoolOp -> List Expr -> Pos -> Bool) : Bool := if h : e.ctorIdx = 0 then Expr.BoolOp.elim (motive_1 := fun zz => Bool) e h f else false
theorem pBop_e {P : Expr -> Prop} {e : Expr} {f : BoolOp -> List Expr -> Pos -> Bool} (h : pBop e f = true) (k : ∀ o_ es_ p_, f o_ es_ p_ = true -> P (.BoolOp o_ es_ p_)) : P e :=
 dif_inv h fun q h => Expr.BoolOp.elim (motive_1 := fun e => ∀ q, Expr.BoolOp.elim (motive_1 := fun zz => Bool) e q f = true -> P e) e q (fun o_ es_ p_ zz h => k o_ es_ p_ h) q h
noncomputable def pIfe (e : Expr) (f : Expr -> Expr -> Expr -> Pos -> Bool) : Bool := if h : e.ctorIdx = 5 then Expr.IfExp.elim (motive_1 := fun zz => Bool) e h f else false
theorem pIfe_e {P : Expr -> Prop} {e : Expr} {f : Expr -> Expr -> Expr -> Pos -> Bool} (h : pIfe e f = true) (k : ∀ c_ a_ b_ p_, f c_ a_ b_ p_ = true -> P (.IfExp c_ a_ b_ p_)) : P e :=
 dif_inv h fun q h => Expr.IfExp.elim (motive_1 := fun e => ∀ q, Expr.IfExp.elim (motive_1 := fun zz => Bool) e q f = true -> P e) e q (fun c_ a_ b_ p_ zz h => k c_ a_ b_ p_ h) q h
noncomputable def pLst (e : Expr) (f : List Expr -> Pos -> Bool) : Bool := if h : e.ctorIdx = 24 then Expr.List.elim (motive_1 := fun zz => Bool) e h f else false
theorem pLst_e {P : Expr -> Prop} {e : Expr} {f : List Expr -> Pos -> Bool} (h : pLst e f = true) (k : ∀ es_ p_, f es_ p_ = true -> P (.List es_ p_)) : P e :=
 dif_inv h fun q h => Expr.List.elim (motive_1 := fun e => ∀ q, Expr.List.elim (motive_1 := fun zz => Bool) e q f = true -> P e) e q (fun es_ p_ zz h => k es_ p_ h) q h
noncomputable def pTup (e : Expr) (f : List Expr -> Nat -> Pos -> Bool) : Bool := if h : e.ctorIdx = 25 then Expr.Tuple.elim (motive_1 := fun zz => Bool) e h f else false
theorem pTup_e {P : Expr -> Prop} {e : Expr} {f : List Expr -> Nat -> Pos -> Bool} (h : pTup e f = true) (k : ∀ es_ k_ p_, f es_ k_ p_ = true -> P (.Tuple es_ k_ p_)) : P e :=
 dif_inv h fun q h => Expr.Tuple.elim (motive_1 := fun e => ∀ q, Expr.Tuple.elim (motive_1 := fun zz => Bool) e q f = true -> P e) e q (fun es_ k_ p_ zz h => k es_ k_ p_ h) q h
noncomputable def pDct (e : Expr) (f : List (Option Expr) -> List Expr -> Pos -> Bool) : Bool := if h : e.ctorIdx = 6 then Expr.Dict.elim (motive_1 := fun zz => Bool) e h f else false
theorem pDct_e {P : Expr -> Prop} {e : Expr} {f : List (Option Expr) -> List Expr -> Pos -> Bool} (h : pDct e f = true) (k : ∀ ks_ es_ p_, f ks_ es_ p_ = true -> P (.Dict ks_ es_ p_)) : P e :=
 dif_inv h fun q h => Expr.Dict.elim (motive_1 := fun e => ∀ q, Expr.Dict.elim (motive_1 := fun zz => Bool) e q f = true -> P e) e q (fun ks_ es_ p_ zz h => k ks_ es_ p_ h) q h
noncomputable def pSub (e : Expr) (f : Expr -> Expr -> Pos -> Bool) : Bool := if h : e.ctorIdx = 21 then Expr.Subscript.elim (motive_1 := fun zz => Bool) e h f else false
theorem pSub_e {P : Expr -> Prop} {e : Expr} {f : Expr -> Expr -> Pos -> Bool} (h : pSub e f = true) (k : ∀ o_ i_ p_, f o_ i_ p_ = true -> P (.Subscript o_ i_ p_)) : P e :=
 dif_inv h fun q h => Expr.Subscript.elim (motive_1 := fun e => ∀ q, Expr.Subscript.elim (motive_1 := fun zz => Bool) e q f = true -> P e) e q (fun o_ i_ p_ zz h => k o_ i_ p_ h) q h
noncomputable def pSli (e : Expr) (f : Option Expr -> Option Expr -> Option Expr -> Pos -> Bool) : Bool := if h : e.ctorIdx = 26 then Expr.Slice.elim (motive_1 := fun zz => Bool) e h f else false
theorem pSli_e {P : Expr -> Prop} {e : Expr} {f : Option Expr -> Option Expr -> Option Expr -> Pos -> Bool} (h : pSli e f = true) (k : ∀ l_ u_ t_ p_, f l_ u_ t_ p_ = true -> P (.Slice l_ u_ t_ p_)) : P e :=
 dif_inv h fun q h => Expr.Slice.elim (motive_1 := fun e => ∀ q, Expr.Slice.elim (motive_1 := fun zz => Bool) e q f = true -> P e) e q (fun l_ u_ t_ p_ zz h => k l_ u_ t_ p_ h) q h
noncomputable def pCal (e : Expr) (f : Expr -> List Expr -> List Keyword -> Pos -> Bool) : Bool := if h : e.ctorIdx = 16 then Expr.Call.elim (motive_1 := fun zz => Bool) e h f else false
theorem pCal_e {P : Expr -> Prop} {e : Expr} {f : Expr -> List Expr -> List Keyword -> Pos -> Bool} (h : pCal e f = true) (k : ∀ g_ es_ ks_ p_, f g_ es_ ks_ p_ = true -> P (.Call g_ es_ ks_ p_)) : P e :=
 dif_inv h fun q h => Expr.Call.elim (motive_1 := fun e => ∀ q, Expr.Call.elim (motive_1 := fun zz => Bool) e q f = true -> P e) e q (fun g_ es_ ks_ p_ zz h => k g_ es_ ks_ p_ h) q h
noncomputable def pAtt (e : Expr) (f : Expr -> Str -> Pos -> Bool) : Bool := if h : e.ctorIdx = 20 then Expr.Attribute.elim (motive_1 := fun zz => Bool) e h f else false
theorem pAtt_e {P : Expr -> Prop} {e : Expr} {f : Expr -> Str -> Pos -> Bool} (h : pAtt e f = true) (k : ∀ o_ a_ p_, f o_ a_ p_ = true -> P (.Attribute o_ a_ p_)) : P e :=
 dif_inv h fun q h => Expr.Attribute.elim (motive_1 := fun e => ∀ q, Expr.Attribute.elim (motive_1 := fun zz => Bool) e q f = true -> P e) e q (fun o_ a_ p_ zz h => k o_ a_ p_ h) q h
noncomputable def pLc (e : Expr) (f : Expr -> List Comprehension -> Scope -> Pos -> Bool) : Bool := if h : e.ctorIdx = 8 then Expr.ListComp.elim (motive_1 := fun zz => Bool) e h f else false
theorem pLc_e {P : Expr -> Prop} {e : Expr} {f : Expr -> List Comprehension -> Scope -> Pos -> Bool} (h : pLc e f = true) (k : ∀ a_ gs_ sc_ p_, f a_ gs_ sc_ p_ = true -> P (.ListComp a_ gs_ sc_ p_)) : P e :=
 dif_inv h fun q h => Expr.ListComp.elim (motive_1 := fun e => ∀ q, Expr.ListComp.elim (motive_1 := fun zz => Bool) e q f = true -> P e) e q (fun a_ gs_ sc_ p_ zz h => k a_ gs_ sc_ p_ h) q h
noncomputable def pSAs (e : Stmt) (f : List Expr -> Expr -> Pos -> Bool) : Bool := if h : e.ctorIdx = 5 then Stmt.Assign.elim (motive_2 := fun zz => Bool) e h f else false
theorem pSAs_e {P : Stmt -> Prop} {e : Stmt} {f : List Expr -> Expr -> Pos -> Bool} (h : pSAs e f = true) (k : ∀ ts_ a_ p_, f ts_ a_ p_ = true -> P (.Assign ts_ a_ p_)) : P e :=
 dif_inv h fun q h => Stmt.Assign.elim (motive_2 := fun e => ∀ q, Stmt.Assign.elim (motive_2 := fun zz => Bool) e q f = true -> P e) e q (fun ts_ a_ p_ zz h => k ts_ a_ p_ h) q h
noncomputable def pSEx (e : Stmt) (f : PySem.Expr -> Pos -> Bool) : Bool := if h : e.ctorIdx = 24 then Stmt.Expr.elim (motive_2 := fun zz => Bool) e h f else false
theorem pSEx_e {P : Stmt -> Prop} {e : Stmt} {f : PySem.Expr -> Pos -> Bool} (h : pSEx e f = true) (k : ∀ a_ p_, f a_ p_ = true -> P (.Expr a_ p_)) : P e :=
 dif_inv h fun q h => Stmt.Expr.elim (motive_2 := fun e => ∀ q, Stmt.Expr.elim (motive_2 := fun zz => Bool) e q f = true -> P e) e q (fun a_ p_ zz h => k a_ p_ h) q h
noncomputable def pSRt (e : Stmt) (f : Option PySem.Expr -> Pos -> Bool) : Bool := if h : e.ctorIdx = 3 then Stmt.Return.elim (motive_2 := fun zz => Bool) e h f else false
theorem pSRt_e {P : Stmt -> Prop} {e : Stmt} {f : Option PySem.Expr -> Pos -> Bool} (h : pSRt e f = true) (k : ∀ a_ p_, f a_ p_ = true -> P (.Return a_ p_)) : P e :=
 dif_inv h fun q h => Stmt.Return.elim (motive_2 := fun e => ∀ q, Stmt.Return.elim (motive_2 := fun zz => Bool) e q f = true -> P e) e q (fun a_ p_ zz h => k a_ p_ h) q h
noncomputable def pSIf (e : Stmt) (f : PySem.Expr -> List Stmt -> List Stmt -> Pos -> Bool) : Bool := if h : e.ctorIdx = 12 then Stmt.If.elim (motive_2 := fun zz => Bool) e h f else false
theorem pSIf_e {P : Stmt -> Prop} {e : Stmt} {f : PySem.Expr -> List Stmt -> List Stmt -> Pos -> Bool} (h : pSIf e f = true) (k : ∀ c_ a_ b_ p_, f c_ a_ b_ p_ = true -> P (.If c_ a_ b_ p_)) : P e :=
 dif_inv h fun q h => Stmt.If.elim (motive_2 := fun e => ∀ q, Stmt.If.elim (motive_2 := fun zz => Bool) e q f = true -> P e) e q (fun c_ a_ b_ p_ zz h => k c_ a_ b_ p_ h) q h
noncomputable def pSFo (e : Stmt) (f : PySem.Expr -> PySem.Expr -> List Stmt -> List Stmt -> Pos -> Bool) : Bool := if h : e.ctorIdx = 9 then Stmt.For.elim (motive_2 := fun zz => Bool) e h f else false
theorem pSFo_e {P : Stmt -> Prop} {e : Stmt} {f : PySem.Expr -> PySem.Expr -> List Stmt -> List Stmt -> Pos -> Bool} (h : pSFo e f = true) (k : ∀ t_ a_ b_ l_ p_, f t_ a_ b_ l_ p_ = true -> P (.For t_ a_ b_ l_ p_)) : P e :=
 dif_inv h fun q h => Stmt.For.elim (motive_2 := fun e => ∀ q, Stmt.For.elim (motive_2 := fun zz => Bool) e q f = true -> P e) e q (fun t_ a_ b_ l_ p_ zz h => k t_ a_ b_ l_ p_ h) q h
noncomputable def pSWh (e : Stmt) (f : PySem.Expr -> List Stmt -> List Stmt -> Pos -> Bool) : Bool := if h : e.ctorIdx = 11 then Stmt.While.elim (motive_2 := fun zz => Bool) e h f else false
theorem pSWh_e {P : Stmt -> Prop} {e : Stmt} {f : PySem.Expr -> List Stmt -> List Stmt -> Pos -> Bool} (h : pSWh e f = true) (k : ∀ c_ b_ l_ p_, f c_ b_ l_ p_ = true -> P (.While c_ b_ l_ p_)) : P e :=
 dif_inv h fun q h => Stmt.While.elim (motive_2 := fun e => ∀ q, Stmt.While.elim (motive_2 := fun zz => Bool) e q f = true -> P e) e q (fun c_ b_ l_ p_ zz h => k c_ b_ l_ p_ h) q h
noncomputable def pSRa (e : Stmt) (f : Option PySem.Expr -> Option PySem.Expr -> Pos -> Bool) : Bool := if h : e.ctorIdx = 16 then Stmt.Raise.elim (motive_2 := fun zz => Bool) e h f else false
theorem pSRa_e {P : Stmt -> Prop} {e : Stmt} {f : Option PySem.Expr -> Option PySem.Expr -> Pos -> Bool} (h : pSRa e f = true) (k : ∀ x_ y_ p_, f x_ y_ p_ = true -> P (.Raise x_ y_ p_)) : P e :=
 dif_inv h fun q h => Stmt.Raise.elim (motive_2 := fun e => ∀ q, Stmt.Raise.elim (motive_2 := fun zz => Bool) e q f = true -> P e) e q (fun x_ y_ p_ zz h => k x_ y_ p_ h) q h
noncomputable def pSTr (e : Stmt) (f : List Stmt -> List ExceptHandler -> List Stmt -> List Stmt -> Pos -> Bool) : Bool := if h : e.ctorIdx = 17 then Stmt.Try.elim (motive_2 := fun zz => Bool) e h f else false
theorem pSTr_e {P : Stmt -> Prop} {e : Stmt} {f : List Stmt -> List ExceptHandler -> List Stmt -> List Stmt -> Pos -> Bool} (h : pSTr e f = true) (k : ∀ b_ hs_ l_ z_ p_, f b_ hs_ l_ z_ p_ = true -> P (.Try b_ hs_ l_ z_ p_)) : P e :=
 dif_inv h fun q h => Stmt.Try.elim (motive_2 := fun e => ∀ q, Stmt.Try.elim (motive_2 := fun zz => Bool) e q f = true -> P e) e q (fun b_ hs_ l_ z_ p_ zz h => k b_ hs_ l_ z_ p_ h) q h
noncomputable def pSPa (e : Stmt) (f : Pos -> Bool) : Bool := if h : e.ctorIdx = 25 then Stmt.Pass.elim (motive_2 := fun zz => Bool) e h f else false
theorem pSPa_e {P : Stmt -> Prop} {e : Stmt} {f : Pos -> Bool} (h : pSPa e f = true) (k : ∀ p_, f p_ = true -> P (.Pass p_)) : P e :=
 dif_inv h fun q h => Stmt.Pass.elim (motive_2 := fun e => ∀ q, Stmt.Pass.elim (motive_2 := fun zz => Bool) e q f = true -> P e) e q (fun p_ zz h => k p_ h) q h
noncomputable def p1 {α : Type} (l : List α) (f : α -> Bool) : Bool := match l with | [x] => f x | _ => false
theorem p1_e {α : Type} {P : List α -> Prop} {l : List α} {f : α -> Bool} (h : p1 l f = true) (k : ∀ x, f x = true -> P [x]) : P l := match l, h with
 | [x], h => k x h
noncomputable def pC {α : Type} (l : List α) (f : α -> List α -> Bool) : Bool := match l with | x :: r => f x r | [] => false
theorem pC_e {α : Type} {P : List α -> Prop} {l : List α} {f : α -> List α -> Bool} (h : pC l f = true) (k : ∀ x r, f x r = true -> P (x :: r)) : P l := match l, h with
 | x :: r, h => k x r h
noncomputable def pO {α : Type} (o : Option α) (f : α -> Bool) : Bool := match o with | some x => f x | none => false
theorem pO_e {α : Type} {P : Option α -> Prop} {o : Option α} {f : α -> Bool} (h : pO o f = true) (k : ∀ x, f x = true -> P (some x)) : P o := match o, h with
 | some x, h => k x h
theorem and_l {a b : Bool} (h : (a && b) = true) : a = true := (Bool.and_eq_true_iff.mp h).1
theorem and_r {a b : Bool} (h : (a && b) = true) : b = true := (Bool.and_eq_true_iff.mp h).2
theorem em_e {α : Type} {P : List α -> Prop} {l : List α} (h : l.isEmpty = true) (k : P []) : P l := match l, h with
 | [], _ => k
theorem dc_e {α : Type} {P : α -> Prop} {a b : α} [Decidable (a = b)] (h : decide (a = b) = true) (k : P a) : P b := of_decide_eq_true h ▸ k
theorem dc_e' {α : Type} {P : α -> Prop} {a b : α} [Decidable (a = b)] (h : decide (a = b) = true) (k : P b) : P a := of_decide_eq_true h ▸ k
noncomputable def pStr (c : Const) (f : Str -> Bool) : Bool := if h : c.ctorIdx = 5 then Const.str.elim (motive := fun zz => Bool) c h f else false
theorem pStr_e {P : Const -> Prop} {c : Const} {f : Str -> Bool} (h : pStr c f = true) (k : ∀ x, f x = true -> P (.str x)) : P c :=
 dif_inv h fun q h => Const.str.elim (motive := fun c => ∀ q, Const.str.elim (motive := fun zz => Bool) c q f = true -> P c) c q (fun x zz h => k x h) q h
noncomputable def nm? (e : Expr) : Option (Str × Pos) := if h : e.ctorIdx = 23 then Expr.Name.elim (motive_1 := fun zz => Option (Str × Pos)) e h (fun a p => some (a, p)) else none
noncomputable def tup? (e : Expr) : Option (List Expr × Nat × Pos) := if h : e.ctorIdx = 25 then Expr.Tuple.elim (motive_1 := fun zz => Option (List Expr × Nat × Pos)) e h (fun a k p => some (a, k, p)) else none
theorem dif_some {α : Type} {c : Prop} [Decidable c] {t : c -> Option α} {x : α} {G : Prop} (h : (if q : c then t q else none) = some x) (k : ∀ q, t q = some x -> G) : G := by
 by_cases q : c
 ·rw [dif_pos q] at h; exact k q h
 ·rw [dif_neg q] at h; cases h
theorem nm_e {P : Expr -> Prop} {e : Expr} {x : Str × Pos} (h : nm? e = some x) (k : P (.Name x.1 x.2)) : P e :=
 dif_some h fun q h => Expr.Name.elim (motive_1 := fun e => ∀ q, Expr.Name.elim (motive_1 := fun zz => Option (Str × Pos)) e q (fun a p => some (a, p)) = some x -> P e) e q (fun a p zz h => (congrArg (fun x : Str × Pos => P (.Name x.1 x.2)) (Option.some.inj h)).mpr k) q h
theorem tup_e {P : Expr -> Prop} {e : Expr} {x : List Expr × Nat × Pos} (h : tup? e = some x) (k : P (.Tuple x.1 x.2.1 x.2.2)) : P e :=
 dif_some h fun q h => Expr.Tuple.elim (motive_1 := fun e => ∀ q, Expr.Tuple.elim (motive_1 := fun zz => Option (List Expr × Nat × Pos)) e q (fun a k p => some (a, k, p)) = some x -> P e) e q (fun a k' p zz h => (congrArg (fun x : List Expr × Nat × Pos => P (.Tuple x.1 x.2.1 x.2.2)) (Option.some.inj h)).mpr k) q h
noncomputable def names? : List Expr -> Option (List Str)
 | [] => some []
 | e :: es => (nm? e).bind fun x => (names? es).map (x.1 :: ·)
theorem names_e {P : Expr -> List Str -> Prop} {e : Expr} {es : List Expr} {tg : List Str} (h : names? (e :: es) = some tg) (k : ∀ id p tg', names? es = some tg' -> P (.Name id p) (id :: tg')) : P e tg := by
 refine Vc.xa_1_2 (Option.bind_eq_some_iff.mp (show (nm? e).bind (fun x => (names? es).map (x.1 :: ·)) = some tg from h)) fun x h1 h2 => ?_
 refine Vc.xa_1_2 (Option.map_eq_some_iff.mp h2) fun r e1 e2 => ?_
 exact nm_e (P := fun e => P e tg) h1 (e2 ▸ k x.1 x.2 r e1)
noncomputable def tgt? (e : Expr) : Option (List Str) := match nm? e with
 | some x => some [x.1]
 | none => (tup? e).bind fun x => if 2 <= x.1.length then names? x.1 else none
theorem tgt_e {P : Expr -> List Str -> Prop} {e : Expr} {tg : List Str} (h : tgt? e = some tg) (k1 : ∀ id p, P (.Name id p) [id]) (k2 : ∀ es k p, 2 <= es.length -> names? es = some tg -> P (.Tuple es k p) tg) : P e tg := by
 unfold tgt? at h
 cases h1 : nm? e with
 | some x => rw [h1] at h; exact nm_e (P := fun e => P e tg) h1 (Option.some.inj h ▸ k1 x.1 x.2)
 | none =>
  rw [h1] at h
  refine Vc.xa_1_2 (Option.bind_eq_some_iff.mp h) fun x h2 h3 => ?_
  by_cases q : 2 <= x.1.length
  ·rw [if_pos q] at h3; exact tup_e (P := fun e => P e tg) h2 (k2 _ _ _ q h3)
  ·rw [if_neg q] at h3; cases h3
noncomputable def notSlice (e : Expr) : Bool := !(e.ctorIdx == 26)
noncomputable def notSet (e : Expr) : Bool := !(e.ctorIdx == 7)
noncomputable def notComp (e : Expr) : Bool := !(e.ctorIdx == 8) && !(e.ctorIdx == 9) && !(e.ctorIdx == 10)
noncomputable def notTuple (e : Expr) : Bool := !(e.ctorIdx == 25)
noncomputable def notSuper (e : Expr) : Bool := !(e.ctorIdx == 16) || !pCal e (fun f as ks zz => f.ctorIdx == 23 && as.isEmpty && ks.isEmpty)
noncomputable def simpE : Ex -> Bool
 | .nm _ | .ci _ | .cs _ | .cb _ | .cn | .lst [] => true
 | _ => false
noncomputable def isCn (e : Ex) : Bool := decide (e.ctorIdx = 5)
noncomputable def pQ (e : Ex) (o : Option Expr) (f : Expr -> Bool) : Bool := match o with | some e' => f e' | none => isCn e
noncomputable def chkK : List String -> List (Option Expr) -> Bool
 | [], l => l.isEmpty
 | k :: ks, l => pC l fun o r => pO o fun e => pCst e fun c zz zz => decide (c = .str (Str.ofString k)) && chkK ks r
mutual
noncomputable def chkE (vs : Vs) (ns : Ns) : Ex -> Expr -> Bool
 | .nm i, e' => pNm e' fun id zz => vOk vs i id && !(id == ("__debug__" : Str))
 | .gl x, e' => pNm e' fun id zz => gOk ns x id
 | .ci i, e' => pCst e' fun c zz zz => decide (c = .int i)
 | .cs x, e' => pCst e' fun c zz zz => decide (c = .str (Str.ofString x))
 | .cb b, e' => pCst e' fun c zz zz => decide (c = .bool b)
 | .cn, e' => pCst e' fun c zz zz => decide (c = .none)
 | .bin op l r, e' => pBin e' fun l' op' r' zz => decide (op = op') && (chkE vs ns l l' && chkE vs ns r r')
 | .una op e, e' => pUna e' fun op' x zz => decide (op = op') && chkE vs ns e x
 | .cmp op l r, e' => pCmp e' fun l' os rs zz => p1 os fun op' => p1 rs fun r' => decide (op = op') && (notSet r' && (chkE vs ns l l' && chkE vs ns r r'))
 | .cmp2 o1 o2 l m r, e' => pCmp e' fun l' os rs zz => decide (os = [o1, o2]) && pC rs fun m' rs => p1 rs fun r' => notSet m' && (notSet r' && (chkE vs ns l l' && (chkE vs ns m m' && chkE vs ns r r')))
 | .bop op es, e' => pBop e' fun op' es' zz => decide (op = op') && chkEs vs ns es es'
 | .ife c a b, e' => pIfe e' fun c' a' b' zz => chkE vs ns c c' && (chkE vs ns a a' && chkE vs ns b b')
 | .lst es, e' => pLst e' fun es' zz => chkEs vs ns es es'
 | .tup es, e' => pTup e' fun es' zz zz => chkEs vs ns es es'
 | .emp _, e' => pDct e' fun ks es zz => ks.isEmpty && es.isEmpty
 | .dct ks es, e' => pDct e' fun ks' es' zz => (!ks.isEmpty) && (decide (ks.length <= 15) && (decide (ks.length = es.length) && (es.all simpE && (chkK ks ks' && chkEs vs ns es es'))))
 | .sub o i, e' => pSub e' fun o' i' zz => notSlice i' && (chkE vs ns o o' && chkE vs ns i i')
 | .sli o l u t, e' => pSub e' fun o' i' zz => pSli i' fun l' u' t' zz => chkE vs ns o o' && (pQ l l' (chkE vs ns l) && (pQ u u' (chkE vs ns u) && pQ t t' (chkE vs ns t)))
 | .call f es, e' => pCal e' fun fn es' ks zz => pNm fn fun id zz => ks.isEmpty && (gOk ns f id && chkEs vs ns es es')
 | .meth o m es, e' => pCal e' fun fn es' ks p => pAtt fn fun o' m' ap => ks.isEmpty && (decide (m' = Str.ofString m) && (ap.endLine == p.line && (decide (es.length < 29) && (notSuper o' && (chkE vs ns o o' && chkEs vs ns es es')))))
 | .att o a, e' => pAtt e' fun o' a' zz => decide (a' = Str.ofString a) && (notSuper o' && chkE vs ns o o')
 | .comp k elt it ifs, e' => pLc e' fun elt' gs sc zz => p1 gs fun g => decide (g.is_async = 0) && pO (tgt? g.target) fun tg =>
   decide (tg.length = k) && (tg.all (fun x => sc.names.lookup x == some .local) && (decide (tg.Nodup) && (decide (sc.kind = .function) && (sc.names.all (fun x => !(x.2 == .cell)) &&
    (sc.names.all (fun x => !(x.2 == .local) || sc.names.lookup x.1 == some .local) && (sc.names.all (fun x => !(x.2 == .free) || vs.contains (x.1, Vk.cel)) &&
    (notSet g.iter && (chkE vs ns it g.iter && (chkE (innerVs vs (relab sc.names ns) tg) (relab sc.names ns) elt elt' && chkEs (innerVs vs (relab sc.names ns) tg) (relab sc.names ns) ifs g.ifs)))))))))
noncomputable def chkEs (vs : Vs) (ns : Ns) : List Ex -> List Expr -> Bool
 | [], l => l.isEmpty
 | e :: es, l => pC l fun e' es' => chkE vs ns e e' && chkEs vs ns es es'
end
noncomputable def chkO (vs : Vs) (ns : Ns) (e : Ex) (o : Option Expr) : Bool := pQ e o (chkE vs ns e)
noncomputable def chkTg (vs : Vs) : List Nat -> List Str -> Bool
 | [], l => l.isEmpty
 | i :: is, l => pC l fun x xs => vOk vs i x && chkTg vs is xs
noncomputable def chkSrc (vs : Vs) (ns : Ns) : Src -> Expr -> Bool
 | .pl e, e' => notSet e' && chkE vs ns e e'
 | .en e, x => pCal x fun f as ks zz => pNm f fun id zz => p1 as fun e' => ks.isEmpty && (gOk ns "enumerate" id && chkE vs ns e e')
 | .zp _ _, _ => false
noncomputable def chkTup : Src -> Expr -> Bool
 | .pl _, _ => true
 | _, e => pTup e fun zz zz zz => true
noncomputable def chkAs (vs : Vs) : Option Nat -> Option Str -> Bool
 | none, none => true
 | some i, some x => vs[i]? == some (x, Vk.loc)
 | _, _ => false
noncomputable def ncE (e : Ex) : Bool := !(e.ctorIdx == 21)
noncomputable def pHd (h : ExceptHandler) (f : Option Expr -> Option Str -> List Stmt -> Pos -> Bool) : Bool := match h with | .ExceptHandler x n b p => f x n b p
theorem pHd_e {P : ExceptHandler -> Prop} {h : ExceptHandler} {f : Option Expr -> Option Str -> List Stmt -> Pos -> Bool} (hh : pHd h f = true) (k : ∀ x n b p, f x n b p = true -> P (.ExceptHandler x n b p)) : P h := match h, hh with
 | .ExceptHandler x n b p, hh => k x n b p hh
mutual
noncomputable def chkS (vs : Vs) (ns : Ns) : St -> Stmt -> Bool
 | .asg i e, t' => pSAs t' fun ts e' zz => p1 ts fun t => pNm t fun x zz => vOk vs i x && ((!ncE e || notComp e') && chkE vs ns e e')
 | .unp is e, t' => pSAs t' fun ts e' zz => p1 ts fun t => pTup t fun us zz zz => pO (names? us) fun xs => chkTg vs is xs && decide (2 <= us.length) && notTuple e' && notComp e' && chkE vs ns e e'
 | .seti o i e, t' => pSAs t' fun ts e' zz => p1 ts fun t => pSub t fun o' i' zz => notSlice i' && notComp e' && chkE vs ns e e' && chkE vs ns o o' && chkE vs ns i i'
 | .seta o a e, t' => pSAs t' fun ts e' zz => p1 ts fun t => pAtt t fun o' a' zz => a' == Str.ofString a && notComp e' && chkE vs ns e e' && chkE vs ns o o'
 | .exp e, t' => pSEx t' fun e' zz => notComp e' && chkE vs ns e e'
 | .ret e, t' => pSRt t' fun o zz => pO o fun e' => chkE vs ns e e'
 | .ife c a b, t' => pSIf t' fun c' a' b' zz => chkE vs ns c c' && chkSs vs ns a a' && chkSs vs ns b b'
 | .for k src body, t' => pSFo t' fun t e' body' l zz => l.isEmpty && pO (tgt? t) fun xs => chkTg vs k xs && chkTup src t && chkSrc vs ns src e' && chkSs vs ns body body'
 | .whl c body, t' => pSWh t' fun c' body' l zz => l.isEmpty && (chkE vs ns c c' && chkSs vs ns body body')
 | .rais c _, t' => pSRa t' fun x y zz => y.isNone && pO x fun x => pCal x fun f as ks zz => ks.isEmpty && pNm f fun id zz => p1 as fun a => pCst a fun v zz zz => pStr v fun zz => gOk ns c id
 | .tre body c as hb el, t' => pSTr t' fun body' hs el' z zz => z.isEmpty && p1 hs fun h => pHd h fun x nm hb' zz => pO x fun x => pNm x fun id zz => pC hb' fun t0 hb'' => gOk ns c id && chkSs vs ns body body' && chkAs vs as nm && chkSs vs ns hb (t0 :: hb'') && chkSs vs ns el el'
 | .pas, t' => pSPa t' fun zz => true
 | .fz i j a b body, t' => pSFo t' fun t e' body' l zz => l.isEmpty && (pTup t fun us zz zz => pO (names? us) fun xs => chkTg vs [i, j] xs && decide (2 <= us.length)) && (pCal e' fun f as ks zz => pNm f fun id zz => ks.isEmpty && (gOk ns "zip" id && chkEs vs ns [a, b] as)) && chkSs vs ns body body'
noncomputable def chkSs (vs : Vs) (ns : Ns) : List St -> List Stmt -> Bool
 | [], l => l.isEmpty
 | t :: ts, l => pC l fun t' ts' => chkS vs ns t t' && chkSs vs ns ts ts'
end
end Vc
end
section
namespace Vc
open PySem
structure EnvS (env : Env) (vs : Vs) (ns : Ns) : Prop where
 kind : env.scope.kind = .function
 names : env.scope.names = ns
 glb : env.globals = mainGlobals
 blt : env.builtins = builtinsNs
 loc : ∀ (i : Nat) (x : Str), vs[i]? = some (x, Vk.loc) -> ns.lookup x = some .local
 cel : ∀ (i : Nat) (x : Str), vs[i]? = some (x, Vk.cel) -> ns.lookup x = some .cell
 uni : ∀ (i j : Nat) (x : Str) (k k' : Vk), vs[i]? = some (x, k) -> vs[j]? = some (x, k') -> k ≠ Vk.hid -> k' ≠ Vk.hid -> i = j
 apt : ∀ x y c, env.cells.lookup x = some c -> env.cells.lookup y = some c -> x = y
noncomputable def EA (A : Around) (env : Env) : Prop := ∃ fenv outer, A.frames = some (fenv :: outer) /\ fenv.frame = env.frame
structure FI (C : Cx) (env : Env) (vs : Vs) (ρ : Lo) (H : MH) (h : Heap) : Prop where
 len : ρ.length = vs.length
 locH : H env.locals = none
 loc0 : C.h0.get? env.locals = none
 ns : ∃ m, h.Ns env.locals m /\ ∀ (i : Nat) (x : Str) (v : V), vs[i]? = some (x, Vk.loc) -> lk ρ i = some v -> ∃ cv, m x = some cv /\ VR C h v cv
 cel : ∀ (i : Nat) (x : Str), vs[i]? = some (x, Vk.cel) -> ∃ c oc, env.cells.lookup x = some c /\ H c = none /\ C.h0.get? c = none /\ h.IsCell c oc /\ ∀ v, lk ρ i = some v -> ∃ cv, oc = some cv /\ VR C h v cv
 cex : ∀ (x : Str) (c : Addr), env.cells.lookup x = some c -> H c = none /\ C.h0.get? c = none /\ ∃ oc, h.IsCell c oc
section
variable {C : Cx} {d : Md} {env : Env} {vs : Vs} {ns : Ns} {ρ : Lo} {H H' H'' : MH} {s s' s'' : Shared} {A : Around} {D D' : Addr -> Prop}
theorem Ns.slots {h h' : Heap} {a : Addr} {m : Str -> Option Value} (x : h.Ns a m) (k : ∀ o, h.get? a = some o -> ∃ sl, h'.get? a = some { o with slots := sl }) : h'.Ns a m := by
 refine Vc.xa_3_3 x fun o es ep ho hd r => ?_
 try clear x
 refine Vc.xa_1_1 (k o ho) fun sl e => ?_
 exact ⟨_, es, ep, e, hd, r⟩
theorem FI.step (x : FI C env vs ρ H s.heap) (y : Step C D H s H' s') (hD : ¬ D env.locals) (hc : ∀ (z : Str) (c : Addr), env.cells.lookup z = some c -> ¬ D c) : FI C env vs ρ H' s'.heap where
 len := x.len
 locH := by
  refine Vc.xa_1_2 x.ns fun m ho40_1 zz => ?_
  obtain ⟨o, _, _, ho, _⟩ := ho40_1
  exact y.gone ho x.locH
 loc0 := x.loc0
 ns := by
  refine Vc.xa_1_2 x.ns fun m hm r => ?_
  refine ⟨m, Ns.slots hm fun o ho => ?_, fun i z v e l => ?_⟩
  ·refine Vc.xa_1_2 (y.chg _ o ho x.locH hD) fun sl w zz => ?_
   exact ⟨sl, w⟩
  ·refine Vc.xa_1_2 (r i z v e l) fun cv e1 e2 => ?_
   exact ⟨cv, e1, e2.keep y.vk⟩
 cel := fun i z e => by
  refine Vc.xa_2_5 (x.cel i z e) fun c oc h1 h2 h3 ho51_5 h5 => ?_
  obtain ⟨o, ho, hd⟩ := ho51_5
  refine Vc.xa_1_2 (y.chg _ o ho h2 (hc z c h1)) fun sl w zz => ?_
  refine ⟨c, oc, h1, y.gone ho h2, h3, ⟨_, w, hd⟩, fun v l => ?_⟩
  refine Vc.xa_1_2 (h5 v l) fun cv e1 e2 => ?_
  exact ⟨cv, e1, e2.keep y.vk⟩
 cex := fun z c e => by
  obtain ⟨h1, h2, oc, o, ho, hd⟩ := x.cex z c e
  refine Vc.xa_1_2 (y.chg _ o ho h1 (hc z c e)) fun sl w zz => ?_
  exact ⟨y.gone ho h1, h2, oc, _, w, hd⟩
theorem FI.stepN (x : FI C env vs ρ H s.heap) (y : Step C No H s H' s') : FI C env vs ρ H' s'.heap := x.step y (fun f => f) fun zz zz zz f => f
theorem old_of (x : Step C No H s H' s') {b : Addr} (e : s'.heap.get? b = none) : s.heap.get? b = none := by
 cases q : s.heap.get? b with
 | none => rfl
 | some o =>
  by_cases u : (H b).isSome = true
  ·refine Vc.xa_1_1 (x.rel.there (x.dom b u)) fun ob w => ?_
   rw [e] at w
   cases w
  ·refine Vc.xa_1_2 (x.chg b o q (by simpa using u) (fun f => f)) fun sl w zz => ?_
   rw [e] at w
   cases w
theorem Fly.back {tr : Bool} {a : Addr} {c : String} {h : Heap} (st : Step C No H s H' s') (x : Fly C tr s' a c h) : Fly C tr s a c h := ⟨x.no⟩
theorem XG.back {tr : Bool} {X : XH} {e : Value} (st : Step C No H s H' s') (x : XG tr C No H' s' X e s'') : XG tr C No H s X e s'' := by
 refine Vc.xa_3_5 x fun a c H2 h1 h2 h3 h4 h5 => ?_
 try clear x
 exact ⟨a, c, H2, h1, st.trans h2, h3, h4.back st, h5⟩
theorem QP.back {Q : V -> MH -> Prop} {v : Value} (st : Step C No H s H' s') (x : QP C H' s' Q v s'') : QP C H s Q v s'' := by
 refine Vc.xa_2_3 x fun r H2 h1 h2 h3 => ?_
 try clear x
 exact ⟨r, H2, st.trans h1, h2, h3⟩
theorem wp_back {t : Sem Value} {Q : V -> MH -> Prop} {X : XP} (st : Step C No H s H' s') (h : wpAny C.M A t (QP C H' s' Q) (XQ false C No H' s' X) s') : wpAny C.M A t (QP C H s Q) (XQ false C No H s X) s' :=
 wpAny_mono h (fun zz zz q => q.back st) fun zz zz q => q.back st
theorem load_nm {i : Nat} {x : Str} {v : V} {Q : Value -> Shared -> Prop} {E : Value -> Shared -> Prop} (ES : EnvS env vs ns) (fi : FI C env vs ρ H s.heap) (ho : vOk vs i x = true) (hl : lk ρ i = some v)
  (hQ : ∀ cv, VR C s.heap v cv -> Q cv s) : wpAny C.M A (loadName env x) Q E s := by
 unfold vOk at ho
 rcases Bool.or_eq_true_iff.mp ho with q | q
 ·have q' : vs[i]? = some (x, Vk.loc) := by simpa using q
  refine Vc.xa_1_2 fi.ns fun m hm r => ?_
  refine Vc.xa_1_2 (r i x v q' hl) fun cv e1 e2 => ?_
  exact wpAny_loadName_local ES.kind (by unfold Env.kindOf; rw [ES.names]; exact ES.loc i x q') hm e1 (hQ cv e2)
 ·have q' : vs[i]? = some (x, Vk.cel) := by simpa using q
  refine Vc.xa_2_5 (fi.cel i x q') fun c oc h1 zz zz h4 h5 => ?_
  refine Vc.xa_1_2 (h5 v hl) fun cv hr104_1 e2 => ?_
  subst hr104_1
  exact wpAny_loadName_cell ES.kind (by unfold Env.kindOf; rw [ES.names]; exact ES.cel i x q') h1 h4 (hQ cv e2)
theorem load_gl {x : String} {id : Str} {cv : Value} {pos : Pos} {Q : Value -> Shared -> Prop} {E : Value -> Shared -> Prop} (G : C.Good) (ES : EnvS env vs ns) (ho : gOk ns x id = true) (t : C.h0.StaysIn s.heap) (hg : C.G x cv)
  (hQ : Q cv s) : wpAny C.M A (eval (.Name id pos) env) Q E s := by
 unfold gOk at ho
 simp only [Bool.and_eq_true, beq_iff_eq, Bool.not_eq_true'] at ho
 refine Vc.xa_0_2 ho fun ho111_0 hd => ?_
 try clear ho
 obtain ⟨rfl, hk⟩ := ho111_0
 refine Calls.Name_function_global ES.kind (by unfold Env.kindOf; rw [ES.names]; exact hk) ?_ hd
 rcases hg with h | ⟨h1, h2⟩
 ·exact Calls.loadGlobal_global (by rw [ES.glb]; exact G.g.keeps t) h hQ
 ·exact Calls.loadGlobal_builtin (by rw [ES.glb]; exact G.g.keeps t) h1 (by rw [ES.blt]; exact G.b.keeps t) h2 hQ
theorem top_vr {v : V} {cv : Value} (t : C.h0.StaysIn s.heap) (h : VR C C.h0 v cv) : VR C s.heap v cv := h.keep (.of_keeps t)
end
end Vc
end
section
namespace Vc
open PySem
section
variable {C : Cx} {d : Md} {env : Env} {vs : Vs} {ns : Ns} {ρ : Lo} {H H' H'' : MH} {s s' s'' : Shared} {A : Around} {E : Value -> Shared -> Prop}
theorem evalArgs_plain {f : Value} {args : List (Bool × Sem Value)} {Q : Args -> Shared -> Prop} (hall : ∀ x ∈ args, x.1 = false)
  (h : wpAny C.M A (spliced args) (fun cvs s1 => Q ⟨cvs, []⟩ s1) E s) : wpAny C.M A (evalArgs f true args []) Q E s := by
 cases args with
 | nil =>
  unfold evalArgs
  show wpAny C.M A (spliced [] >>= _) Q E s
  refine wpAny_bind (wpAny_mono h (fun vs s₁ h₁ => ?_) fun zz zz x => x)
  refine wpAny_bind (wpAny_pure (wpAny_holding ?_))
  exact wpAny_bind (wpAny_evalAll_nil (wpAny_bind (wpAny_pure (wpAny_pure h₁))))
 | cons x rest =>
  obtain ⟨b, t⟩ := x
  obtain rfl : b = false := hall _ (.head _)
  exact evalArgs_kw rfl (wpAny_mono h (fun vs s1 h1 => wpAny_evalAll_nil h1) fun zz zz x => x)
theorem callWith_any {pos : Pos} {f : Value} {first : List Value} {args : List (Bool × Sem Value)} {Q : Value -> Shared -> Prop} (hall : ∀ x ∈ args, x.1 = false) (hc : Callee C f)
  (h : wpAny C.M A (spliced args) (fun cvs s1 => C.h0.StaysIn s1.heap /\ wpAny C.M A (call f (first ++ cvs)) Q E s1) E s) : wpAny C.M A (callWith pos f first args []) Q E s := by
 unfold callWith
 refine wpAny_bind (wpAny_holding (evalArgs_plain hall (wpAny_mono h (fun cvs s1 h1 => wpAny_bind (wpAny_standAt ?_)) fun zz zz x => x)))
 refine Vc.xa_0_2 h1 fun ht h1 => ?_
 have tail : ∀ {t : Sem Value}, wpAny C.M A t Q E s1 -> wpAny C.M A (t >>= fun r => holding [r] point >>= fun zz => pure r) Q E s1 :=
  fun ht => wpAny_bind (wpAny_mono ht (fun r s2 hr => wpAny_bind (wpAny_holding (wpAny_point (wpAny_pure hr)))) fun zz zz x => x)
 have hany : (args.any (·.1) || ([] : List (Option Str × Sem Value)).any (·.1.isNone)) = false := by
  simp only [List.any_nil, Bool.or_false]
  rw [List.any_eq_false]; intro x hx; simp [hall x hx]
 simp only [hany]
 refine wpAny_bind (hc A s1 _ _ ht fun k => ?_)
 cases k
 ·dsimp only
  split
  ·exact tail h1
  ·exact tail (by unfold callMarked; exact Calls.wpAny_keep h1)
 ·dsimp only
  split
  ·exact tail h1
  ·exact tail (by unfold callMarked; exact Calls.wpAny_keep h1)
 ·exact tail h1
 ·exact tail (wpAny_operateT h1)
end
end Vc
end
section
namespace Vc
open PySem
section
variable {vs : Vs} {ns : Ns} {e' : Expr} {P : Expr -> Prop}
theorem iv_nm {i : Nat} (h : chkE vs ns (.nm i) e' = true) (k : ∀ id p, vOk vs i id = true -> (id == ("__debug__" : Str)) = false -> P (.Name id p)) : P e' :=
 pNm_e h fun id p h => k id p (and_l h) ((Bool.not_eq_true' _).mp (and_r h))
theorem iv_gl {x : String} (h : chkE vs ns (.gl x) e' = true) (k : ∀ id p, gOk ns x id = true -> P (.Name id p)) : P e' := pNm_e h k
theorem cst_e {c : Const} (h : pCst e' (fun d zz zz => decide (d = c)) = true) (k : ∀ j p, P (.Constant c j p)) : P e' :=
 pCst_e h fun d j p h => dc_e' (P := fun d => P (.Constant d j p)) h (k j p)
theorem iv_bin {op : Operator} {l r : Ex} (h : chkE vs ns (.bin op l r) e' = true) (k : ∀ l' r' p, chkE vs ns l l' = true -> chkE vs ns r r' = true -> P (.BinOp l' op r' p)) : P e' :=
 pBin_e h fun l' o r' p h => dc_e (P := fun o => P (.BinOp l' o r' p)) (and_l h) (k l' r' p (and_l (and_r h)) (and_r (and_r h)))
theorem iv_una {op : UnaryOp} {e : Ex} (h : chkE vs ns (.una op e) e' = true) (k : ∀ x p, chkE vs ns e x = true -> P (.UnaryOp op x p)) : P e' :=
 pUna_e h fun o x p h => dc_e (P := fun o => P (.UnaryOp o x p)) (and_l h) (k x p (and_r h))
theorem iv_cmp {op : CmpOp} {l r : Ex} (h : chkE vs ns (.cmp op l r) e' = true) (k : ∀ l' r' p, notSet r' = true -> chkE vs ns l l' = true -> chkE vs ns r r' = true -> P (.Compare l' [op] [r'] p)) : P e' :=
 pCmp_e h fun l' os rs p h => p1_e (P := fun os => P (.Compare l' os rs p)) h fun o h => p1_e (P := fun rs => P (.Compare l' [o] rs p)) h fun r' h => dc_e (P := fun o => P (.Compare l' [o] [r'] p)) (and_l h) (k l' r' p (and_l (and_r h)) (and_l (and_r (and_r h))) (and_r (and_r (and_r h))))
theorem iv_cmp2 {o1 o2 : CmpOp} {l m r : Ex} (h : chkE vs ns (.cmp2 o1 o2 l m r) e' = true) (k : ∀ l' m' r' p, notSet r' = true -> chkE vs ns l l' = true -> chkE vs ns m m' = true -> chkE vs ns r r' = true -> P (.Compare l' [o1, o2] [m', r'] p)) : P e' :=
 pCmp_e h fun l' os rs p h => dc_e' (P := fun os => P (.Compare l' os rs p)) (and_l h) (pC_e (P := fun rs => P (.Compare l' [o1, o2] rs p)) (and_r h) fun m' ms h => p1_e (P := fun ms => P (.Compare l' [o1, o2] (m' :: ms) p)) h fun r' h =>
  k l' m' r' p (and_l (and_r h)) (and_l (and_r (and_r h))) (and_l (and_r (and_r (and_r h)))) (and_r (and_r (and_r (and_r h)))))
theorem iv_bop {op : BoolOp} {es : List Ex} (h : chkE vs ns (.bop op es) e' = true) (k : ∀ es' p, chkEs vs ns es es' = true -> P (.BoolOp op es' p)) : P e' :=
 pBop_e h fun o es' p h => dc_e (P := fun o => P (.BoolOp o es' p)) (and_l h) (k es' p (and_r h))
theorem iv_ife {c a b : Ex} (h : chkE vs ns (.ife c a b) e' = true) (k : ∀ c' a' b' p, chkE vs ns c c' = true -> chkE vs ns a a' = true -> chkE vs ns b b' = true -> P (.IfExp c' a' b' p)) : P e' :=
 pIfe_e h fun c' a' b' p h => k c' a' b' p (and_l h) (and_l (and_r h)) (and_r (and_r h))
theorem iv_emp {j : Nat} (h : chkE vs ns (.emp j) e' = true) (k : ∀ p, P (.Dict [] [] p)) : P e' :=
 pDct_e h fun ks es p h => em_e (P := fun ks => P (.Dict ks es p)) (and_l h) (em_e (P := fun es => P (.Dict [] es p)) (and_r h) (k p))
theorem iv_dct {ks : List String} {es : List Ex} (h : chkE vs ns (.dct ks es) e' = true) (k : ∀ ks' es' p, ks ≠ [] -> ks.length <= 15 -> ks.length = es.length -> (∀ e ∈ es, simpE e = true) -> chkK ks ks' = true -> chkEs vs ns es es' = true -> P (.Dict ks' es' p)) : P e' :=
 pDct_e h fun ks' es' p h => k ks' es' p (fun q => by rw [q] at h; exact Bool.false_ne_true (and_l h)) (of_decide_eq_true (and_l (and_r h))) (of_decide_eq_true (and_l (and_r (and_r h)))) (List.all_eq_true.mp (and_l (and_r (and_r (and_r h))))) (and_l (and_r (and_r (and_r (and_r h))))) (and_r (and_r (and_r (and_r (and_r h)))))
theorem iv_sub {o i : Ex} (h : chkE vs ns (.sub o i) e' = true) (k : ∀ o' i' p, notSlice i' = true -> chkE vs ns o o' = true -> chkE vs ns i i' = true -> P (.Subscript o' i' p)) : P e' :=
 pSub_e h fun o' i' p h => k o' i' p (and_l h) (and_l (and_r h)) (and_r (and_r h))
theorem iv_sli {o l u t : Ex} (h : chkE vs ns (.sli o l u t) e' = true) (k : ∀ o' l' u' t' q p, chkE vs ns o o' = true -> chkO vs ns l l' = true -> chkO vs ns u u' = true -> chkO vs ns t t' = true -> P (.Subscript o' (.Slice l' u' t' q) p)) : P e' :=
 pSub_e h fun o' i' p h => pSli_e (P := fun i' => P (.Subscript o' i' p)) h fun l' u' t' q h => k o' l' u' t' q p (and_l h) (and_l (and_r h)) (and_l (and_r (and_r h))) (and_r (and_r (and_r h)))
theorem iv_call {f : String} {es : List Ex} (h : chkE vs ns (.call f es) e' = true) (k : ∀ id q es' p, gOk ns f id = true -> chkEs vs ns es es' = true -> P (.Call (.Name id q) es' [] p)) : P e' :=
 pCal_e h fun g es' ks p h => pNm_e (P := fun g => P (.Call g es' ks p)) h fun id q h => em_e (P := fun ks => P (.Call (.Name id q) es' ks p)) (and_l h) (k id q es' p (and_l (and_r h)) (and_r (and_r h)))
theorem iv_meth {o : Ex} {m : String} {es : List Ex} (h : chkE vs ns (.meth o m es) e' = true) (k : ∀ o' ap es' p, (ap.endLine == p.line) = true -> es.length < 29 -> notSuper o' = true -> chkE vs ns o o' = true -> chkEs vs ns es es' = true -> P (.Call (.Attribute o' (Str.ofString m) ap) es' [] p)) : P e' :=
 pCal_e h fun g es' ks p h => pAtt_e (P := fun g => P (.Call g es' ks p)) h fun o' m' ap h => em_e (P := fun ks => P (.Call (.Attribute o' m' ap) es' ks p)) (and_l h)
  (dc_e' (P := fun m' => P (.Call (.Attribute o' m' ap) es' [] p)) (and_l (and_r h)) (k o' ap es' p (and_l (and_r (and_r h))) (of_decide_eq_true (and_l (and_r (and_r (and_r h))))) (and_l (and_r (and_r (and_r (and_r h))))) (and_l (and_r (and_r (and_r (and_r (and_r h)))))) (and_r (and_r (and_r (and_r (and_r (and_r h))))))))
theorem iv_att {o : Ex} {a : String} (h : chkE vs ns (.att o a) e' = true) (k : ∀ o' p, notSuper o' = true -> chkE vs ns o o' = true -> P (.Attribute o' (Str.ofString a) p)) : P e' :=
 pAtt_e h fun o' a' p h => dc_e' (P := fun a' => P (.Attribute o' a' p)) (and_l h) (k o' p (and_l (and_r h)) (and_r (and_r h)))
theorem lo_of {α : Type} {l : List α} {p : α -> Bool} (h : l.all p = true) {x : α} (hx : x ∈ l) : p x = true := List.all_eq_true.mp h x hx
theorem no_kind {k j : NameKind} (h : (!(k == j)) = true) : k ≠ j := fun q => by rw [q] at h; cases j <;> cases h
theorem or_kind {k j : NameKind} {b : Bool} (h : (!(k == j) || b) = true) (q : k = j) : b = true := by rw [q] at h; cases j <;> exact h
structure TgOk (vs : Vs) (sc : Scope) (tg : List Str) : Prop where
 loc : ∀ x ∈ tg, sc.names.lookup x = some .local
 nd : tg.Nodup
 kind : sc.kind = .function
 nc : ∀ x ∈ sc.names, x.2 ≠ .cell
 nl : ∀ x ∈ sc.names, x.2 = .local -> sc.names.lookup x.1 = some .local
 fr : ∀ x ∈ sc.names, x.2 = .free -> (x.1, Vk.cel) ∈ vs
theorem iv_comp {n : Nat} {elt it : Ex} {ifs : List Ex} (h : chkE vs ns (.comp n elt it ifs) e' = true) (k : ∀ elt' t' it' ifs' sc p tg, tgt? t' = some tg -> tg.length = n -> TgOk vs sc tg -> notSet it' = true -> chkE vs ns it it' = true ->
  chkE (innerVs vs (relab sc.names ns) tg) (relab sc.names ns) elt elt' = true -> chkEs (innerVs vs (relab sc.names ns) tg) (relab sc.names ns) ifs ifs' = true -> P (.ListComp elt' [⟨t', it', ifs', 0⟩] sc p)) : P e' :=
 pLc_e h fun elt' gs sc p h => p1_e (P := fun gs => P (.ListComp elt' gs sc p)) h fun ⟨t', it', ifs', a⟩ h => dc_e' (P := fun a => P (.ListComp elt' [⟨t', it', ifs', a⟩] sc p)) (and_l h)
  (pO_e (P := fun o => tgt? t' = o -> P (.ListComp elt' [⟨t', it', ifs', 0⟩] sc p)) (and_r h) (fun tg h ht =>
   have h3 := and_r (and_r (and_r (and_r h)))
   have h4 := and_r (and_r (and_r h3))
   k elt' t' it' ifs' sc p tg ht (of_decide_eq_true (and_l h)) ⟨fun x hx => eq_of_beq (lo_of (and_l (and_r h)) hx), of_decide_eq_true (and_l (and_r (and_r h))), of_decide_eq_true (and_l (and_r (and_r (and_r h)))),
    fun x hx => no_kind (lo_of (and_l h3) hx), fun x hx q => eq_of_beq (or_kind (lo_of (and_l (and_r h3)) hx) q), fun x hx q => List.contains_iff_mem.mp (or_kind (lo_of (and_l (and_r (and_r h3))) hx) q)⟩
    (and_l h4) (and_l (and_r h4)) (and_l (and_r (and_r h4))) (and_r (and_r (and_r h4)))) rfl)
theorem iv_cons {P : List Expr -> Prop} {e : Ex} {es : List Ex} {l : List Expr} (h : chkEs vs ns (e :: es) l = true) (k : ∀ e' es', chkE vs ns e e' = true -> chkEs vs ns es es' = true -> P (e' :: es')) : P l :=
 pC_e h fun x r h => k x r (and_l h) (and_r h)
theorem iv_nil {P : List Expr -> Prop} {l : List Expr} (h : chkEs vs ns [] l = true) (k : P []) : P l := em_e h k
theorem chk_len : ∀ {es : List Ex} {es' : List Expr}, chkEs vs ns es es' = true -> es.length = es'.length
 | [], _, h => iv_nil (P := fun l => 0 = l.length) h rfl
 | _ :: _, _, h => iv_cons (P := fun l => _ + 1 = l.length) h fun zz zz zz h => congrArg (· + 1) (chk_len h)
theorem chk_notStar {e : Ex} (h : chkE vs ns e e' = true) : ∀ x p, e' ≠ .Starred x p := by
 rintro x p rfl
 cases e <;> exact Bool.false_ne_true h
end
end Vc
end
section
namespace Vc
open PySem
noncomputable def ItAt (C : Cx) (h : Heap) (iv : V) (I : Addr) (i : Nat) : Prop := match iv with
 | .ref a => h.IsListIter I a i
 | .tup l => ∃ t items, h.IsTuple t items /\ VRs C h l items.toList /\ h.IsTupleIter I t i
 | .rng a b c => IsRangeIter h I (a + (i : Int) * c) (Builtin.Range.rangeSize a b c - i) c
 | .str x => ∃ t, h.IsStrIter I (strIterType x) x t i
 | _ => False
theorem ItAt.there {C : Cx} {h : Heap} {iv : V} {I : Addr} {i : Nat} (x : ItAt C h iv I i) : ∃ o T vs, h.get? I = some o /\ o.cls = .type T /\ T ≠ "tuple" /\ T ≠ "range" /\ o.data = .fields vs := by
 cases iv with
 | ref a => obtain ⟨o, h1, h2, h3⟩ := x; exact ⟨o, _, _, h1, h2, by decide, by decide, h3⟩
 | tup l => obtain ⟨t, items, _, _, o, h1, h2, h3⟩ := x; exact ⟨o, _, _, h1, h2, by decide, by decide, h3⟩
 | rng a b c => exact ⟨_, "range_iterator", _, x, rfl, by decide, by decide, rfl⟩
 | str y =>
  refine Vc.xa_2_3 x fun t o h1 h2 h3 => ?_
  try clear x
  refine ⟨o, _, _, h1, h2, ?_, ?_, h3⟩ <;> (unfold strIterType; split <;> decide)
 | _ => exact x.elim
theorem ItAt.keep {C : Cx} {h h' : Heap} {iv : V} {I : Addr} {i : Nat} (x : ItAt C h iv I i) (k : VK h h') (e : ∀ o, h.get? I = some o -> h'.get? I = some o) : ItAt C h' iv I i := by
 cases iv with
 | ref a => obtain ⟨o, h1, h2⟩ := x; exact ⟨o, e o h1, h2⟩
 | tup l =>
  obtain ⟨t, items, ⟨o', g1, g2, n, g3⟩, r, o, h1, h2⟩ := x
  exact ⟨t, items, ⟨o', k.solid t o' g1 (.inl ⟨g2, items, n, g3⟩), g2, n, g3⟩, r.keep k, o, e o h1, h2⟩
 | rng a b c => exact e _ x
 | str y => obtain ⟨t, o, h1, h2⟩ := x; exact ⟨t, o, e o h1, h2⟩
 | _ => exact x.elim
section
variable {C : Cx} {d : Md} {H : MH} {s : Shared} {A : Around} {E : Value -> Shared -> Prop} {iv : V} {I : Addr} {i : Nat} {all : List V}
theorem ItAt.step {D : Addr -> Prop} {H' : MH} {s' : Shared} (x : ItAt C s.heap iv I i) (y : Step C D H s H' s') (hI : H I = none) (hD : ¬ D I) : ItAt C s'.heap iv I i := by
 refine Vc.xa_3_5 x.there fun o T vs h1 h2 zz zz h3 => ?_
 refine x.keep y.vk fun o' e => ?_
 refine Vc.xa_1_2 (y.chg I o' e hI hD) fun sl w q => ?_
 rw [h1] at e; cases e
 rw [q fun es ep z => by rw [h3] at z; cases z] at w
 exact w
theorem list_of {a : Addr} (r : HR C H s.heap) (h : itemsOf H (.ref a) = some all) : ∃ items, s.heap.IsList a items /\ VRs C s.heap all items.toList := by
 simp only [itemsOf] at h
 split at h
 ·rename_i l e; cases h; obtain ⟨_, items, p, q⟩ := r a _ e; exact ⟨items, p.isList, q⟩
 ·rename_i l e; cases h; obtain ⟨items, p, q⟩ := r a _ e; exact ⟨items, p, q⟩
 ·cases h
theorem rangeSize_nonneg (a b c : Int) : 0 <= Builtin.Range.rangeSize a b c := by
 unfold Builtin.Range.rangeSize
 split <;> split <;> first | omega | (have := Int.ediv_nonneg (a := b - a - 1) (b := c) (by omega) (by omega); omega) | (have := Int.ediv_nonneg (a := a - b - 1) (b := -c) (by omega) (by omega); omega)
theorem it_step {s' : Shared} (ok : Ok C d H A s) (x : ItAt C s.heap iv I i) (hI : H I = none) (h0 : C.h0.get? I = none) (k : ∀ b o, s.heap.get? b = some o -> b ≠ I -> s'.heap.get? b = some o) (g : s'.gens = s.gens) (os : s'.os = s.os) :
  Step C (· = I) H s H s' := by
 refine Vc.xa_3_5 x.there fun o T vs h1 h2 n1 n2 h3 => ?_
 refine Step.but ok.rel ok.top (fun b o e n => k b o e n) (fun b e => e ▸ hI) (fun b e => e ▸ h0) (fun b o' e q => ?_) (fun b o' es ep e q z => ?_) g os
 ·subst q; rw [h1] at e; cases e; exact .inr (.inr ⟨T, h2, n1, n2⟩)
 ·subst q; rw [h1] at e; cases e; rw [h3] at z; cases z
theorem next_item {x : V} {Q : Option Value -> Shared -> Prop} (ok : Ok C d H A s) (it : ItAt C s.heap iv I i) (hI : H I = none) (h0 : C.h0.get? I = none) (hi : itemsOf H iv = some all) (hx : all[i]? = some x)
  (hQ : ∀ s' cv, Step C (· = I) H s H s' -> ItAt C s'.heap iv I (i + 1) -> VR C s'.heap x cv -> Q (some cv) s') : wpAny C.M A (pyNext (.ref I)) Q E s := by
 cases iv with
 | ref a =>
  refine Vc.xa_1_2 (list_of ok.rel hi) fun items hl rs => ?_
  refine Vc.xa_1_2 (rs.get hx) fun cv e1 e2 => ?_
  refine wpAny_pyNext_list_item it hl (x := cv) (by simpa using e1) fun h' it' sb => ?_
  have st : Step C (· = I) H s H { s with heap := h' } := it_step ok it hI h0 (fun b o e n => (sb.2 b n).trans e) rfl rfl
  exact hQ _ cv st it' (e2.keep st.vk)
 | tup l =>
  refine Vc.xa_2_3 it fun t items ht rs hit => ?_
  try clear it
  have it' : ItAt C s.heap (.tup l) I i := ⟨t, items, ht, rs, hit⟩
  cases hi
  refine Vc.xa_1_2 (rs.get hx) fun cv e1 e2 => ?_
  refine wpAny_pyNext_tuple_item hit ht (x := cv) (by simpa using e1) fun h' it'' sb => ?_
  have st : Step C (· = I) H s H { s with heap := h' } := it_step ok it' hI h0 (fun b o e n => (sb.2 b n).trans e) rfl rfl
  obtain ⟨o', g1, g2, n, g3⟩ := ht
  exact hQ _ cv st ⟨t, items, ⟨o', st.vk.solid t o' g1 (.inl ⟨g2, items, n, g3⟩), g2, n, g3⟩, rs.keep st.vk, it''⟩ (e2.keep st.vk)
 | rng a b c =>
  cases hi
  have hlt : i < (Builtin.Range.rangeSize a b c).toNat := by
   have := (List.getElem?_eq_some_iff.mp hx).1; simpa [rngItems] using this
  unfold rngItems at hx
  rw [List.getElem?_map] at hx
  refine Vc.xa_1_2 (Option.map_eq_some_iff.mp hx) fun k e1 e2 => ?_
  rw [List.getElem?_range (by
   have := (List.getElem?_eq_some_iff.mp e1).1; simpa using this)] at e1
  cases e1
  refine wpAny_pyNext_range_item (x := a + (i : Int) * c) it (by have := rangeSize_nonneg a b c; (clear this; omega)) fun h' it' sb => ?_
  have st : Step C (· = I) H s H { s with heap := h', toks := s.toks + 1 } := it_step ok it hI h0 (fun b o e n => (sb.2 b n).trans e) rfl rfl
  refine hQ _ _ st ?_ (by subst e2; dsimp only [VR]; exact ⟨_, rfl⟩)
  show IsRangeIter h' I (a + ((i + 1 : Nat) : Int) * c) (Builtin.Range.rangeSize a b c - ((i + 1 : Nat) : Int)) c
  have e3 : a + (i : Int) * c + c = a + ((i + 1 : Nat) : Int) * c := by rw [Int.natCast_add]; rw [Int.add_mul]; simp; (clear hlt; omega)
  have e4 : Builtin.Range.rangeSize a b c - (i : Int) - 1 = Builtin.Range.rangeSize a b c - ((i + 1 : Nat) : Int) := by (clear hlt e3; omega)
  rw [<- e3, <- e4]; exact it'
 | str y =>
  cases hi
  rw [List.getElem?_map] at hx
  refine Vc.xa_1_2 (Option.map_eq_some_iff.mp hx) fun k e1 e2 => ?_
  refine Vc.xa_1_1 it fun t hit => ?_
  try clear it
  have it' : ItAt C s.heap (.str y) I i := ⟨t, hit⟩
  have e1' : y.cps[i]? = some k := by simpa using e1
  unfold strIterType at hit
  by_cases q : (y.cps.all (· < 128)) = true
  ·rw [if_pos q] at hit
   refine wpAny_pyNext_ascii_item hit e1' fun h' it'' sb => ?_
   have st : Step C (· = I) H s H { s with heap := h', toks := s.toks + 1 } := it_step ok it' hI h0 (fun b o e n => (sb.2 b n).trans e) rfl rfl
   exact hQ _ _ st ⟨t, by unfold strIterType; rw [if_pos q]; exact it''⟩ (by subst e2; dsimp only [VR]; exact ⟨_, rfl⟩)
  ·rw [if_neg q] at hit
   refine wpAny_pyNext_wide_item hit e1' fun h' it'' sb => ?_
   have st : Step C (· = I) H s H { s with heap := h', toks := s.toks + 1 } := it_step ok it' hI h0 (fun b o e n => (sb.2 b n).trans e) rfl rfl
   exact hQ _ _ st ⟨t, by unfold strIterType; rw [if_neg q]; exact it''⟩ (by subst e2; dsimp only [VR]; exact ⟨_, rfl⟩)
 | _ => exact it.elim
theorem next_end {Q : Option Value -> Shared -> Prop} (ok : Ok C d H A s) (hq : Itq d iv) (it : ItAt C s.heap iv I i) (hI : H I = none) (h0 : C.h0.get? I = none) (hi : itemsOf H iv = some all) (hx : all.length <= i)
  (hQ : ∀ s', Step C (· = I) H s H s' -> Q none s') : wpAny C.M A (pyNext (.ref I)) Q E s := by
 have hq1 : (∀ a, iv ≠ .ref a) -> (∀ l, iv ≠ .tup l) -> A.handled = none := fun n1 n2 => ok.hnd.1 (hq.1.elim id fun x => x.elim (fun hq1 => Vc.xa_1_1 hq1 fun a e => (n1 a e).elim) fun hq2 => Vc.xa_1_1 hq2 fun l e => (n2 l e).elim)
 cases iv with
 | ref a =>
  refine Vc.xa_1_2 (list_of ok.rel hi) fun items hl rs => ?_
  have hl' := rs.length
  refine next_list_endH ok.hnd.2 it hl (by rw [Array.getElem?_eq_none_iff]; simp at hl'; omega) fun h' eb => ?_
  exact hQ _ (it_step ok it hI h0 (fun b o e n => eb b o n e) rfl rfl)
 | tup l =>
  refine Vc.xa_2_3 it fun t items ht rs hit => ?_
  try clear it
  have it' : ItAt C s.heap (.tup l) I i := ⟨t, items, ht, rs, hit⟩
  cases hi
  have hl' := rs.length
  refine next_tuple_endH ok.hnd.2 hit ht (by rw [Array.getElem?_eq_none_iff]; simp at hl'; omega) fun h' eb => ?_
  exact hQ _ (it_step ok it' hI h0 (fun b o e n => eb b o n e) rfl rfl)
 | rng a b c =>
  cases hi
  have hl : (Builtin.Range.rangeSize a b c).toNat <= i := by simpa [rngItems] using hx
  refine wpAny_pyNext_range_end (hq1 (fun zz e => by cases e) (fun zz e => by cases e)) it (by have := rangeSize_nonneg a b c; (clear hx this; omega)) fun h' eb => ?_
  exact hQ _ (it_step ok it hI h0 (fun b o e n => eb b o n e) rfl rfl)
 | str y =>
  cases hi
  have hl : y.cps.size <= i := by simpa using hx
  refine Vc.xa_1_1 it fun t hit => ?_
  try clear it
  have it' : ItAt C s.heap (.str y) I i := ⟨t, hit⟩
  have e1' : y.cps[i]? = none := by simpa using hl
  unfold strIterType at hit
  by_cases q : (y.cps.all (· < 128)) = true
  ·rw [if_pos q] at hit
   exact wpAny_pyNext_ascii_end (hq1 (fun zz e => by cases e) (fun zz e => by cases e)) hit e1' fun h' eb => hQ _ (it_step ok it' hI h0 (fun b o e n => eb b o n e) rfl rfl)
  ·rw [if_neg q] at hit
   exact wpAny_pyNext_wide_end (hq1 (fun zz e => by cases e) (fun zz e => by cases e)) hit e1' fun h' eb => hQ _ (it_step ok it' hI h0 (fun b o e n => eb b o n e) rfl rfl)
 | _ => exact it.elim
theorem iter_of {cv : Value} {Q : Value -> Shared -> Prop} (ok : Ok C d H A s) (hq : Itq d iv) (r : VR C s.heap iv cv) (hi : itemsOf H iv = some all)
  (hQ : ∀ I s', Step C No H s H s' -> s.heap.get? I = none -> ItAt C s'.heap iv I 0 -> Q (.ref I) s') : wpAny C.M A (pyIter cv) Q E s := by
 have push : ∀ ob : Obj, Step C No H s H { s with heap := s.heap.push ob } := fun ob => Step.keeps ok.rel ok.top (fun b o e => Heap.get?_push_of_some _ e) rfl rfl
 cases iv with
 | ref a =>
  dsimp only [VR] at r; subst r
  refine Vc.xa_1_2 (list_of ok.rel hi) fun items hl rs => ?_
  exact wpAny_pyIter_list hl (hQ _ _ (push _) (fresh_size _) ⟨_, Heap.get?_push_size _ rfl, rfl, rfl⟩)
 | tup l =>
  dsimp only [VR] at r
  refine Vc.xa_2_3 r fun t items ho168_2 ht rs => ?_
  try clear r
  obtain ⟨rfl, nd⟩ := ho168_2
  refine wpAny_pyIter_tuple ht (hQ _ _ (push _) (fresh_size _) ⟨t, items, ht.push _, rs.keep (push _).vk, _, Heap.get?_push_size _ rfl, rfl, rfl⟩)
 | rng a b c =>
  dsimp only [VR] at r
  refine Vc.xa_4_2 r fun q t u w hr172_4 hr => ?_
  try clear r
  subst hr172_4
  refine wpAny_pyIter_range hr (hq.2 a b c rfl) (hQ _ _ (push _) (fresh_size _) ?_)
  show IsRangeIter _ _ _ _ _
  have e1 : a + ((0 : Nat) : Int) * c = a := by simp
  have e2 : Builtin.Range.rangeSize a b c - ((0 : Nat) : Int) = Builtin.Range.rangeSize a b c := by simp
  rw [e1, e2]; exact Heap.get?_push_size _ rfl
 | str y =>
  dsimp only [VR] at r
  refine Vc.xa_1_1 r fun t hr180_1 => ?_
  try clear r
  subst hr180_1
  exact wpAny_pyIter_strU (hQ _ _ (push _) (fresh_size _) ⟨t, _, Heap.get?_push_size _ rfl, rfl, rfl⟩)
 | _ => cases hi
theorem iter_self {Q : Value -> Shared -> Prop} (it : ItAt C s.heap iv I i) (hQ : Q (.ref I) s) : wpAny C.M A (pyIter (.ref I)) Q E s := by
 cases iv with
 | ref a => exact wpAny_pyIter_listiter it hQ
 | tup l => obtain ⟨t, items, ht, rs, hit⟩ := it; exact wpAny_pyIter_tupleiter hit hQ
 | rng a b c => exact wpAny_pyIter_rangeiter it hQ
 | str y =>
  refine Vc.xa_1_1 it fun t hit => ?_
  try clear it
  unfold strIterType at hit
  by_cases q : (y.cps.all (· < 128)) = true
  ·rw [if_pos q] at hit; exact wpAny_pyIter_striter_ascii hit hQ
  ·rw [if_neg q] at hit; exact wpAny_pyIter_striter_wide hit hQ
 | _ => exact it.elim
theorem it_go {t : Expr} {v : Value} {Q : Unit -> Shared -> Prop} (it : ItAt C s.heap iv I i) (hQ : Q () s) : wpAny C.M A (letOwnedTupleGo t (.ref I) v) Q E s := by
 refine Vc.xa_3_5 it.there fun o T vs h1 h2 n1 n2 h3 => ?_
 have hT : (["enumerate", "zip", "dict_itemiterator", "dict_reverseitemiterator", "odict_iterator", "itertools.zip_longest", "itertools.pairwise"].contains T) = false := by
  cases iv with
  | ref a => obtain ⟨o', g1, g2, _⟩ := it; rw [h1] at g1; cases g1; rw [h2] at g2; cases g2; decide
  | tup l => obtain ⟨_, _, _, _, o', g1, g2, _⟩ := it; rw [h1] at g1; cases g1; rw [h2] at g2; cases g2; decide
  | rng a b c => have g : s.heap.get? I = _ := it; rw [h1] at g; cases g; cases h2; decide
  | str y => obtain ⟨_, o', g1, g2, _⟩ := it; rw [h1] at g1; cases g1; rw [h2] at g2; cases g2; unfold strIterType; split <;> decide
  | _ => exact it.elim
 have main : ∀ a : Addr, wpAny C.M A (do
   let o <- load I
   match o.cls, o.data with
   | .type n, .fields vs =>
    if ["enumerate", "zip", "dict_itemiterator", "dict_reverseitemiterator", "odict_iterator", "itertools.zip_longest", "itertools.pairwise"].contains n && vs[0]? == some (rawInt a) then
     rule "for.unpacks-the-owned-tuple"
     updateField I 0 .none
   | _, _ => pure ()) Q E s := fun a => by
  refine wpAny_bind (wpAny_load h1 ?_)
  rw [h2, h3]
  dsimp only
  rw [hT, Bool.false_and, if_neg (by decide)]
  exact wpAny_pure hQ
 cases t <;> first
  | exact wpAny_pure hQ
  | (cases v <;> first | exact wpAny_pure hQ | exact main _)
end
end Vc
end
section
namespace Vc
open PySem
noncomputable def Dm (env : Env) : Addr -> Prop := fun b => b = env.locals ∨ ∃ x, env.cells.lookup x = some b
noncomputable def Dx (env : Env) (vs : Vs) (i : Nat) : Addr -> Prop := fun b => ((∃ x, vs[i]? = some (x, Vk.loc)) /\ b = env.locals) ∨ ∃ x, vs[i]? = some (x, Vk.cel) /\ env.cells.lookup x = some b
noncomputable def Dxs (env : Env) (vs : Vs) (idx : List Nat) : Addr -> Prop := fun b => ∃ i ∈ idx, Dx env vs i b
theorem dx_dm {env : Env} {vs : Vs} {i : Nat} {b : Addr} (h : Dx env vs i b) : Dm env b := by
 rcases h with ⟨_, e⟩ | ⟨x, _, e⟩
 ·exact .inl e
 ·exact .inr ⟨x, e⟩
theorem dxs_dm {env : Env} {vs : Vs} {idx : List Nat} {b : Addr} (h : Dxs env vs idx b) : Dm env b := let ⟨_, _, h⟩ := h; dx_dm h
section
variable {C : Cx} {d : Md} {env : Env} {vs : Vs} {ns : Ns} {ρ : Lo} {H H' : MH} {s s' : Shared} {A : Around} {E : Value -> Shared -> Prop} {D D' : Addr -> Prop}
theorem Step.widen (x : Step C D H s H s') (hD : ∀ b, D b -> D' b) : Step C D' H s H s' :=
 { x with chg := fun b o e n nd => x.chg b o e n fun q => nd (hD b q), dn := fun zz zz e => e }
theorem ns_cell_ne {h : Heap} {a c : Addr} {m : Str -> Option Value} {v : Option Value} (x : h.Ns a m) (y : h.IsCell c v) : c ≠ a := by
 rintro rfl
 refine Vc.xa_3_3 x fun o es ep ho hd zz => ?_
 try clear x
 refine Vc.xa_1_2 y fun o' ho' hd' => ?_
 try clear y
 rw [ho] at ho'; cases ho'; rw [hd] at hd'; cases hd'
theorem store_one {i : Nat} {id : Str} {v : V} {cv : Value} {Q : Unit -> Shared -> Prop} (ES : EnvS env vs ns) (ok : Ok C d H A s) (fi : FI C env vs ρ H s.heap) (hv : vOk vs i id = true) (r : VR C s.heap v cv)
  (hQ : ∀ s', Step C (Dx env vs i) H s H s' -> FI C env vs (ls ρ i v) H s'.heap -> Q () s') : wpAny C.M A (storeName env id cv) Q E s := by
 unfold vOk at hv
 rcases Bool.or_eq_true_iff.mp hv with q | q
 ·have q' : vs[i]? = some (id, Vk.loc) := by simpa using q
  refine Vc.xa_1_2 fi.ns fun m hm rm => ?_
  refine wpAny_storeName_local (by unfold Env.kindOf; rw [ES.names]; exact ES.loc i id q') hm (fun h' hn hs => ?_) (by rw [ES.kind]; rfl)
  have st : Step C (· = env.locals) H s H { s with heap := h', toks := s.toks + 1 } := by
   refine Step.but ok.rel ok.top (fun b o e n => (hs.2 b n).trans e) (fun b e => e ▸ fi.locH) (fun b e => e ▸ fi.loc0) (fun b o e w => ?_) (fun b o es ep e w z => ?_) rfl rfl
   ·subst w; obtain ⟨o', es, ep, ho, hd, _⟩ := hm; rw [ho] at e; cases e; exact .inl ⟨es, ep, hd⟩
   ·subst w; obtain ⟨o', es', ep', ho, hd, _⟩ := hn; exact ⟨o', es', ep', ho, hd⟩
  refine hQ _ (st.widen fun b e => .inl ⟨⟨id, q'⟩, e⟩) ⟨by rw [ls_length]; exact fi.len, fi.locH, fi.loc0, ⟨_, hn, fun j x w e l => ?_⟩, fun j x e => ?_, fun x c e => ?_⟩
  ·by_cases hji : j = i
   ·subst hji
    rw [q'] at e; cases e
    obtain rfl := lk_ls_self l
    exact ⟨cv, if_pos rfl, r.keep st.vk⟩
   ·rw [lk_ls_ne (Ne.symm hji)] at l
    refine Vc.xa_1_2 (rm j x w e l) fun cw e1 e2 => ?_
    refine ⟨cw, ?_, e2.keep st.vk⟩
    rw [if_neg]; exact e1
    rintro rfl
    exact hji (ES.uni j i _ _ _ e q' (by decide) (by decide))
  ·refine Vc.xa_2_5 (fi.cel j x e) fun c oc h1 h2 h3 h4 h5 => ?_
   refine ⟨c, oc, h1, h2, h3, h4.sameBut hs (ns_cell_ne hm h4), fun w l => ?_⟩
   by_cases hji : j = i
   ·subst hji; rw [q'] at e; cases e
   ·rw [lk_ls_ne (Ne.symm hji)] at l
    refine Vc.xa_1_2 (h5 w l) fun cw e1 e2 => ?_
    exact ⟨cw, e1, e2.keep st.vk⟩
  ·obtain ⟨g1, g2, oc, g3⟩ := fi.cex x c e
   exact ⟨g1, g2, oc, g3.sameBut hs (ns_cell_ne hm g3)⟩
 ·have q' : vs[i]? = some (id, Vk.cel) := by simpa using q
  refine Vc.xa_2_5 (fi.cel i id q') fun c oc h1 h2 h3 h4 h5 => ?_
  refine Vc.xa_1_2 fi.ns fun m hm rm => ?_
  refine wpAny_storeName_cell ES.kind (by unfold Env.kindOf; rw [ES.names]; exact ES.cel i id q') h1 h4 (fun h' hn hs => ?_)
  have st : Step C (· = c) H s H { s with heap := h' } := by
   refine Step.but ok.rel ok.top (fun b o e n => (hs.2 b n).trans e) (fun b e => e ▸ h2) (fun b e => e ▸ h3) (fun b o e w => ?_) (fun b o es ep e w z => ?_) rfl rfl
   ·subst w; obtain ⟨o', ho, hd⟩ := h4; rw [ho] at e; cases e; exact .inr (.inl ⟨_, hd⟩)
   ·subst w; obtain ⟨o', ho, hd⟩ := h4; rw [ho] at e; cases e; rw [hd] at z; cases z
  refine hQ _ (st.widen fun b e => .inr ⟨id, q', e ▸ h1⟩) ⟨by rw [ls_length]; exact fi.len, fi.locH, fi.loc0, ⟨m, hm.sameBut hs (Ne.symm (ns_cell_ne hm h4)), fun j x w e l => ?_⟩, fun j x e => ?_, fun x c' e => ?_⟩
  ·have hji : j ≠ i := by rintro rfl; rw [q'] at e; cases e
   rw [lk_ls_ne (Ne.symm hji)] at l
   refine Vc.xa_1_2 (rm j x w e l) fun cw e1 e2 => ?_
   exact ⟨cw, e1, e2.keep st.vk⟩
  ·by_cases hji : j = i
   ·subst hji
    rw [q'] at e; cases e
    refine ⟨c, some cv, h1, h2, h3, hn, fun w l => ?_⟩
    obtain rfl := lk_ls_self l
    exact ⟨cv, rfl, r.keep st.vk⟩
   ·refine Vc.xa_2_5 (fi.cel j x e) fun c' oc' g1 g2 g3 g4 g5 => ?_
    have hcc : c' ≠ c := by
     rintro rfl
     have hx := ES.apt x id c' g1 h1
     subst hx
     exact hji (ES.uni j i _ _ _ e q' (by decide) (by decide))
    refine ⟨c', oc', g1, g2, g3, g4.sameBut hs hcc, fun w l => ?_⟩
    rw [lk_ls_ne (Ne.symm hji)] at l
    refine Vc.xa_1_2 (g5 w l) fun cw e1 e2 => ?_
    exact ⟨cw, e1, e2.keep st.vk⟩
  ·obtain ⟨g1, g2, oc, g3⟩ := fi.cex x c' e
   by_cases hcc : c' = c
   ·subst hcc; exact ⟨g1, g2, _, hn⟩
   ·exact ⟨g1, g2, oc, g3.sameBut hs hcc⟩
theorem FI.dm (fi : FI C env vs ρ H s.heap) : ∀ b, Dm env b -> ∃ o, s.heap.get? b = some o := fun b hb => by
 rcases hb with rfl | ⟨x, e⟩
 ·refine Vc.xa_1_2 fi.ns fun m ho98_1 zz => ?_
  obtain ⟨o, _, _, ho, _⟩ := ho98_1
  exact ⟨o, ho⟩
 ·obtain ⟨_, _, _, o, ho, _⟩ := fi.cex x b e
  exact ⟨o, ho⟩
theorem tg_e {P : List Str -> Prop} {i : Nat} {is : List Nat} {l : List Str} (h : chkTg vs (i :: is) l = true) (k : ∀ x xs, vOk vs i x = true -> chkTg vs is xs = true -> P (x :: xs)) : P l := pC_e h fun x r h => k x r (and_l h) (and_r h)
theorem tg_len : ∀ {is : List Nat} {xs : List Str}, chkTg vs is xs = true -> is.length = xs.length
 | [], _, h => em_e (P := fun l : List Str => 0 = l.length) h rfl
 | _ :: _, _, h => tg_e (P := fun l => _ + 1 = l.length) h fun zz zz zz h => congrArg (· + 1) (tg_len h)
theorem names_len : ∀ {ts : List Expr} {xs : List Str}, names? ts = some xs -> ts.length = xs.length
 | [], _, h => by cases h; rfl
 | _ :: _, _, h => names_e (P := fun zz xs => _ + 1 = xs.length) h fun zz zz zz h => congrArg (· + 1) (names_len h)
theorem names_noStar : ∀ {es : List Expr} {tg : List Str}, names? es = some tg -> (assignEach es env).findIdx? (·.1) = none /\ (assignEach es env).length = es.length
 | [], _, h => ⟨rfl, rfl⟩
 | e :: es, tg, h => names_e (P := fun e zz => (assignEach (e :: es) env).findIdx? (·.1) = none /\ (assignEach (e :: es) env).length = es.length + 1) h fun id p tg' h => by
  have := names_noStar h
  refine ⟨?_, congrArg (· + 1) this.2⟩
  show List.findIdx? (·.1) ((false, assign (.Name id p) env) :: assignEach es env) = none
  rw [List.findIdx?_cons, this.1]; rfl
theorem parts_tup {k : Nat} {x : V} {xs : List V} (hk : k ≠ 1) (hp : parts k x = some xs) : x = .tup xs /\ xs.length = k := by
 unfold parts at hp
 rw [if_neg hk] at hp
 cases x with
 | tup l =>
  have hp : (if l.length = k then some l else none) = some xs := hp
  by_cases q : l.length = k
  ·rw [if_pos q] at hp; cases hp; exact ⟨rfl, q⟩
  ·rw [if_neg q] at hp; cases hp
 | _ => cases hp
theorem assign_each {Q : Unit -> Shared -> Prop} (ES : EnvS env vs ns) : ∀ {es : List Expr} {tg : List Str} {idx : List Nat} {xs : List V} {cvs : List Value} {ρ : Lo} {s : Shared}, names? es = some tg -> chkTg vs idx tg = true ->
  Ok C d H A s -> FI C env vs ρ H s.heap -> VRs C s.heap xs cvs -> xs.length = idx.length ->
  (∀ s', Step C (Dxs env vs idx) H s H s' -> FI C env vs (lss ρ idx xs) H s'.heap -> Q () s') -> wpAny C.M A (assignInOrder ((assignEach es env).map (·.2)) cvs) Q E s := by
 intro es
 induction es with
 | nil =>
  intro tg idx xs cvs ρ s h hc ok fi r hl hQ
  cases h
  obtain rfl : idx = [] := List.length_eq_zero_iff.mp (tg_len hc)
  obtain rfl : xs = [] := List.length_eq_zero_iff.mp hl
  obtain rfl := r.inv_nil
  exact (show wpAny C.M A (pure ()) Q E s from wpAny_pure (hQ s (.refl ok.rel ok.top) fi))
 | cons e es ih =>
  intro tg idx xs cvs ρ s h hc ok fi r hl hQ
  refine names_e (P := fun e tg => chkTg vs idx tg = true -> wpAny C.M A (assignInOrder ((assignEach (e :: es) env).map (·.2)) cvs) Q E s) h (fun id p tg' e1 hc => ?_) hc
  cases idx with
  | nil => exact (Bool.false_ne_true hc).elim
  | cons i is =>
   cases xs with
   | nil => cases hl
   | cons x xs =>
    refine Vc.xa_2_3 r.inv_cons fun cv cvs' hr150_2 r1 r2 => ?_
    subst hr150_2
    show wpAny C.M A (holding cvs' (assign (.Name id p) env cv) >>= fun zz => assignInOrder ((assignEach es env).map (·.2)) cvs') Q E s
    refine wpAny_bind (wpAny_holding (wpAny_assign_Name (store_one ES ok fi (and_l hc) r1 fun s1 st fi1 => ?_)))
    exact ih e1 (and_r hc) (ok.step st) fi1 (r2.keep st.vk) (Nat.succ.inj hl) fun s2 st2 fi2 => hQ s2 ((st.widen fun b hb => ⟨i, .head _, hb⟩).trans (st2.widen fun b hq1 => Vc.xa_1_2 hq1 fun j hj hb => ⟨j, .tail _ hj, hb⟩)) fi2
theorem assign_tup {es : List Expr} {k : Nat} {p : Pos} {tg : List Str} {idx : List Nat} {x : V} {xs : List V} {cv : Value} {Q : Unit -> Shared -> Prop} (ES : EnvS env vs ns) (h2 : 2 <= es.length) (ht : names? es = some tg) (hc : chkTg vs idx tg = true)
  (ok : Ok C d H A s) (fi : FI C env vs ρ H s.heap) (r : VR C s.heap x cv) (hp : parts idx.length x = some xs)
  (hQ : ∀ s', Step C (Dxs env vs idx) H s H s' -> FI C env vs (lss ρ idx xs) H s'.heap -> Q () s') : wpAny C.M A (assign (.Tuple es k p) env cv) Q E s := by
 have hi : idx.length = es.length := (tg_len hc).trans (names_len ht).symm
 obtain ⟨rfl, hl⟩ := parts_tup (by rw [hi]; exact fun q => absurd (q ▸ h2) (by decide)) hp
 dsimp only [VR] at r
 refine Vc.xa_2_3 r fun a items ho162_2 htu rs => ?_
 try clear r
 obtain ⟨rfl, nd⟩ := ho162_2
 have hs := names_noStar (env := env) ht
 refine assign_tupleH ok.hnd.2 htu (by rw [hs.2, <- hi, <- hl, rs.length, Array.length_toList]) hs.1 fun h' eb => ?_
 have st : Step C No H s H { s with heap := h' } := Step.keeps ok.rel ok.top (fun b o e => eb b o (Nat.ne_of_lt (Heap.lt_size e)) e) rfl rfl
 exact assign_each ES ht hc (ok.step st) (fi.stepN st) (rs.keep st.vk) hl fun s2 st2 fi2 => hQ s2 ((st.weaken fun b hb => fi.dm b (dxs_dm hb)).trans st2) fi2
theorem assign_tgt {t' : Expr} {tg : List Str} {idx : List Nat} {x : V} {xs : List V} {cv : Value} {Q : Unit -> Shared -> Prop} (ES : EnvS env vs ns) (ht : tgt? t' = some tg) (hc : chkTg vs idx tg = true)
  (ok : Ok C d H A s) (fi : FI C env vs ρ H s.heap) (r : VR C s.heap x cv) (hp : parts idx.length x = some xs)
  (hQ : ∀ s', Step C (Dxs env vs idx) H s H s' -> FI C env vs (lss ρ idx xs) H s'.heap -> Q () s') : wpAny C.M A (assign t' env cv) Q E s := by
 refine tgt_e (P := fun t' tg => chkTg vs idx tg = true -> wpAny C.M A (assign t' env cv) Q E s) ht (fun id p hc => ?_) (fun es k p h2 hx hc => assign_tup ES h2 hx hc ok fi r hp hQ) hc
 match idx with
 | [] => exact (Bool.false_ne_true hc).elim
 | _ :: _ :: _ => exact (Bool.false_ne_true (and_r hc)).elim
 | [i] =>
  obtain rfl : [x] = xs := Option.some.inj hp
  exact wpAny_assign_Name (store_one ES ok fi (and_l hc) r fun s' st fi' => hQ s' (st.widen fun b hb => ⟨i, .head _, hb⟩) fi')
end
end Vc
end
section
namespace Vc
open PySem
noncomputable def closA (env : Env) : Ns -> List (Str × Addr) -> List (Str × Addr)
 | [], acc => acc
 | (n, k) :: r, acc => if k == .free then closA env r ((n, (env.cells.lookup n).getD 0) :: acc) else closA env r acc
theorem closA_sub {env : Env} : ∀ {l : Ns} {acc : List (Str × Addr)}, (∀ x ∈ l, x.2 = .free -> (env.cells.lookup x.1).isSome = true) -> (∀ x c, acc.lookup x = some c -> env.cells.lookup x = some c) ->
  ∀ x c, (closA env l acc).lookup x = some c -> env.cells.lookup x = some c
 | [], _, _, h => h
 | (n, k) :: r, acc, hf, h => by
  unfold closA
  have hf' : ∀ x ∈ r, x.2 = .free -> (env.cells.lookup x.1).isSome = true := fun x hx => hf x (.tail _ hx)
  split
  ·rename_i hk
   refine closA_sub hf' fun x c e => ?_
   rw [List.lookup_cons] at e
   split at e
   ·rename_i hx
    cases e
    have hx' : x = n := beq_iff_eq.mp hx
    subst hx'
    refine Vc.xa_1_1 (Option.isSome_iff_exists.mp (hf (x, k) (.head _) (beq_iff_eq.mp hk))) fun c hc => ?_
    rw [hc]; rfl
   ·exact h x c e
  ·exact closA_sub hf' h
theorem closA_has {env : Env} : ∀ {l : Ns} {acc : List (Str × Addr)} {x : Str}, ((x, NameKind.free) ∈ l ∨ (acc.lookup x).isSome = true) -> ((closA env l acc).lookup x).isSome = true
 | [], _, _, h => h.elim (fun e => nomatch e) id
 | (n, k) :: r, acc, x, h => by
  unfold closA
  split
  ·refine closA_has ?_
   by_cases hx : x = n
   ·subst hx; exact .inr (by simp)
   ·refine h.imp (fun e => ?_) fun e => ?_
    ·cases e with
     | head => exact (hx rfl).elim
     | tail _ e => exact e
    ·rw [List.lookup_cons]
     have : (x == n) = false := by simpa using hx
     rw [this]; exact e
  ·rename_i hk
   refine closA_has (h.imp (fun e => ?_) id)
   cases e with
   | head => exact absurd (beq_self_eq_true NameKind.free) hk
   | tail _ e => exact e
theorem closure_of {scope : Scope} {env : Env} (hf : ∀ x ∈ scope.names, x.2 = .free -> (env.cells.lookup x.1).isSome = true) : closureFor scope env = pure (closA env scope.names []) := by
 simp only [closureFor]
 have key : ∀ (l : Ns) (acc : List (Str × Addr)), (∀ x ∈ l, x.2 = .free -> (env.cells.lookup x.1).isSome = true) ->
   (forIn l acc fun x r => (if (x.2 == NameKind.free) = true then (do let a <- cellOf env x.1; pure (ForInStep.yield ((x.1, a) :: r))) else pure (ForInStep.yield r) : Sem _)) = pure (closA env l acc) := by
  intro l
  induction l with
  | nil => intro acc _; rfl
  | cons x l ih =>
   intro acc h
   obtain ⟨n, k⟩ := x
   rw [List.forIn_cons]
   have ih' := fun acc => ih acc fun x hx => h x (.tail _ hx)
   by_cases hk : (k == NameKind.free) = true
   ·refine Vc.xa_1_1 (Option.isSome_iff_exists.mp (h (n, k) (.head _) (beq_iff_eq.mp hk))) fun c hc => ?_
    have hc' : env.cells.lookup n = some c := hc
    simp only [hk, if_true, closA]
    rw [show cellOf env n = pure c from by unfold cellOf; rw [hc']]
    show (forIn l ((n, c) :: acc) _ : Sem _) = _
    rw [ih', hc']; rfl
   ·simp only [hk, closA, Bool.false_eq_true, if_false]
    show (forIn l acc _ : Sem _) = _
    rw [ih']
 have := key scope.names [] hf
 rw [this]; rfl
theorem relab_map : ∀ (inner outer : Ns), inner.map (fun (n, k) => if (k == NameKind.free && true && outer.lookup n == some NameKind.cell) = true then (n, NameKind.cell) else (n, k)) = relab inner outer
 | [], _ => rfl
 | (n, k) :: r, outer => by
  rw [List.map_cons, relab_map r outer, relab]
  dsimp only
  rw [Bool.and_true]
  by_cases hc : (k == NameKind.free && outer.lookup n == some NameKind.cell) = true
  ·rw [hc]; rfl
  ·rw [if_neg hc, if_neg hc]
theorem relab_eq {sc : Scope} {env : Env} {ns : Ns} (hk : env.scope.kind = .function) (hn : env.scope.names = ns) : (relabel sc env).names = relab sc.names ns := by
 rw [<- relab_map]
 unfold relabel
 simp only [hk, Env.kindOf, hn]
 rfl
theorem relab_local {outer : Ns} {x : Str} : ∀ {inner : Ns}, inner.lookup x = some .local -> (relab inner outer).lookup x = some .local
 | [], h => by simp at h
 | (n, k) :: l, h => by
  rw [relab, List.lookup_cons]
  rw [List.lookup_cons] at h
  cases hx : x == n with
  | true => rw [hx] at h; cases h; rfl
  | false => rw [hx] at h; exact relab_local h
theorem relab_cell {outer : Ns} {x : Str} : ∀ {inner : Ns}, (∀ y ∈ inner, y.2 ≠ .cell) -> (relab inner outer).lookup x = some .cell -> (x, NameKind.free) ∈ inner
 | [], _, h => by simp [relab] at h
 | (n, k) :: l, hn, h => by
  rw [relab, List.lookup_cons] at h
  cases hx : x == n with
  | true =>
   rw [hx] at h
   by_cases hc : (k == NameKind.free && outer.lookup n == some NameKind.cell) = true
   ·have hk : k = .free := by simp at hc; exact hc.1
    rw [beq_iff_eq.mp hx, hk]; exact .head _
   ·simp only [hc] at h
    exact absurd (by simpa using h) (hn (n, k) (.head _))
  | false => rw [hx] at h; exact .tail _ (relab_cell (fun y hy => hn y (.tail _ hy)) h)
section
variable {vs : Vs} {inner : Ns} {tg : List Str}
theorem inner_lt {i : Nat} {x : Str} {k : Vk} (h : (innerVs vs inner tg)[i]? = some (x, k)) (hi : i < vs.length) : (k = .cel /\ vs[i]? = some (x, .cel) /\ inner.lookup x = some .cell) ∨ k = .hid := by
 unfold innerVs at h
 rw [List.getElem?_append_left (by simpa using hi), List.getElem?_map] at h
 refine Vc.xa_1_2 (Option.map_eq_some_iff.mp h) fun y e1 e2 => ?_
 obtain ⟨n, k'⟩ := y
 dsimp only at e2
 split at e2
 ·rename_i hc
  cases e2
  simp only [Bool.and_eq_true, beq_iff_eq] at hc
  refine Vc.xa_0_2 hc fun h1 h2 => ?_
  try clear hc
  subst h1
  exact .inl ⟨rfl, e1, h2⟩
 ·cases e2; exact .inr rfl
theorem inner_ge {i : Nat} {x : Str} {k : Vk} (h : (innerVs vs inner tg)[i]? = some (x, k)) (hi : ¬ i < vs.length) : k = .loc /\ tg[i - vs.length]? = some x := by
 unfold innerVs at h
 rw [List.getElem?_append_right (by simpa using hi), List.getElem?_map, List.length_map] at h
 refine Vc.xa_1_2 (Option.map_eq_some_iff.mp h) fun y e1 e2 => ?_
 cases e2
 exact ⟨rfl, e1⟩
theorem inner_tg {j : Nat} {x : Str} (h : tg[j]? = some x) : (innerVs vs inner tg)[vs.length + j]? = some (x, .loc) := by
 unfold innerVs
 rw [List.getElem?_append_right (by simp), List.getElem?_map, List.length_map]
 simp [h]
theorem inner_length : (innerVs vs inner tg).length = vs.length + tg.length := by simp [innerVs]
end
section
variable {C : Cx} {d : Md} {env : Env} {vs : Vs} {ns : Ns} {ρ : Lo} {H H' : MH} {s s' : Shared} {A : Around} {E : Value -> Shared -> Prop} {sc : Scope} {tg : List Str} {Cn : Addr}
theorem comp_envS (ES : EnvS env vs ns) (hk : sc.kind = .function) (hl : ∀ x ∈ tg, sc.names.lookup x = some .local) (nd : tg.Nodup) (hf : ∀ x ∈ sc.names, x.2 = .free -> (env.cells.lookup x.1).isSome = true) :
  EnvS (compEnvC sc (closA env sc.names []) Cn env) (innerVs vs (relab sc.names ns) tg) (relab sc.names ns) where
 kind := hk
 names := relab_eq ES.kind ES.names
 glb := ES.glb
 blt := ES.blt
 loc := fun i x h => by
  by_cases hi : i < vs.length
  ·rcases inner_lt h hi with ⟨q, _⟩ | q <;> cases q
  ·exact relab_local (hl x (List.mem_of_getElem? (inner_ge h hi).2))
 cel := fun i x h => by
  by_cases hi : i < vs.length
  ·rcases inner_lt h hi with ⟨_, _, q⟩ | q
   ·exact q
   ·cases q
  ·have := (inner_ge h hi).1; cases this
 uni := fun i j x k k' h h' n n' => by
  by_cases hi : i < vs.length <;> by_cases hj : j < vs.length
  ·rcases inner_lt h hi with ⟨_, q, _⟩ | q
   ·rcases inner_lt h' hj with ⟨_, q', _⟩ | q'
    ·exact ES.uni i j x _ _ q q' (by decide) (by decide)
    ·exact (n' q').elim
   ·exact (n q).elim
  ·rcases inner_lt h hi with ⟨_, _, q⟩ | q
   ·have := relab_local (outer := ns) (hl x (List.mem_of_getElem? (inner_ge h' hj).2)); rw [q] at this; cases this
   ·exact (n q).elim
  ·rcases inner_lt h' hj with ⟨_, _, q⟩ | q
   ·have := relab_local (outer := ns) (hl x (List.mem_of_getElem? (inner_ge h hi).2)); rw [q] at this; cases this
   ·exact (n' q).elim
  ·have h1 := (inner_ge h hi).2
   have h2 := (inner_ge h' hj).2
   have := (List.getElem?_inj (List.getElem?_eq_some_iff.mp h1).1 nd).mp (h1.trans h2.symm)
   omega
 apt := fun x y c h h' => ES.apt x y c (closA_sub hf (by simp) x c h) (closA_sub hf (by simp) y c h')
theorem lk_none {k : Nat} : ∀ {i : Nat}, lk (List.replicate k (none : Option V)) i = none := by
 induction k with
 | zero => intro i; rfl
 | succ k ih => intro i; cases i with
  | zero => rfl
  | succ i => simpa [List.replicate_succ, lk] using ih
theorem comp_fi {m : Str -> Option Value} (ES : EnvS env vs ns) (fi : FI C env vs ρ H s.heap) (hnc : ∀ x ∈ sc.names, x.2 ≠ .cell) (hf : ∀ x ∈ sc.names, x.2 = .free -> (env.cells.lookup x.1).isSome = true)
  (hCH : H Cn = none) (hC0 : C.h0.get? Cn = none) (hns : s.heap.Ns Cn m) :
  FI C (compEnvC sc (closA env sc.names []) Cn env) (innerVs vs (relab sc.names ns) tg) (ρ ++ List.replicate tg.length none) H s.heap where
 len := by rw [inner_length, List.length_append, List.length_replicate, fi.len]
 locH := hCH
 loc0 := hC0
 ns := ⟨m, hns, fun i x v h l => by
  by_cases hi : i < vs.length
  ·rcases inner_lt h hi with ⟨q, _⟩ | q <;> cases q
  ·exfalso
   have e : i = ρ.length + (i - vs.length) := by have := fi.len; omega
   rw [e, lk_append, lk_none] at l; cases l⟩
 cel := fun i x h => by
  by_cases hi : i < vs.length
  ·rcases inner_lt h hi with ⟨_, q, q2⟩ | q
   ·refine Vc.xa_2_5 (fi.cel i x q) fun c oc h1 h2 h3 h4 h5 => ?_
    refine ⟨c, oc, ?_, h2, h3, h4, fun v l => h5 v ?_⟩
    ·refine Vc.xa_1_1 (Option.isSome_iff_exists.mp (closA_has (env := env) (acc := []) (.inl (relab_cell hnc q2)))) fun c' hc' => ?_
     have := closA_sub hf (by simp) x c' hc'
     rw [h1] at this; cases this
     exact hc'
    ·rwa [lk_append_lt (by rw [fi.len]; exact hi)] at l
   ·cases q
  ·have := (inner_ge h hi).1; cases this
 cex := fun x c h => fi.cex x c (closA_sub hf (by simp) x c h)
end
end Vc
end
section
namespace Vc
open PySem
section
variable {C : Cx} {A : Around} {R : Result -> Shared -> Prop} {s : Shared}
theorem compLoop_any {elt target iter : Expr} {ifs : List Expr} {scope : Scope} {pos : Pos} {it acc : Value} {env : Env} (I : Nat -> Shared -> Prop)
  (turn : ∀ n s, I n s -> wpAny C.M A (pyNext it) (fun r s₁ => match r with
   | none => R (.ok .next) s₁
   | some v => wpAny C.M A (letOwnedTupleGo target it v) (fun zz s₁' => wpAny C.M A (assign target env v) (fun zz s₂ =>
     wpAny C.M A (forIn ifs true fun c r => if r = true then do let ok <- isTrue c env (eval c env); pure (ForInStep.yield ok) else pure (ForInStep.yield r)) (fun ok s₃ =>
      if ok = true then wpAny C.M A (eval elt env) (fun x s₄ =>
       wpAny C.M A (call (.builtin "list.append") [acc, x]) (fun zz s₅ => ∃ m, m < n /\ I m s₅) (notedBy C.M A env fun e s' => R (.error e) s') s₄) (notedBy C.M A env fun e s' => R (.error e) s') s₃
      else ∃ m, m < n /\ I m s₃) (notedBy C.M A env fun e s' => R (.error e) s') s₂) (notedBy C.M A env fun e s' => R (.error e) s') s₁') (notedBy C.M A env fun e s' => R (.error e) s') s₁) (notedBy C.M A env fun e s' => R (.error e) s') s)
  (n : Nat) (h : I n s) :
  codeAny C.M A (.compLoop (.ListComp elt [⟨target, iter, ifs, 0⟩] scope pos) 0 it acc env) R s := by
 refine codeAny_loop rfl I (fun n s hI => ?_) n h
 show wpAny _ A ((compTurn (.ListComp elt [⟨target, iter, ifs, 0⟩] scope pos) 0 it acc env).onRaise (fun x => do noteFrame x env; theTreesLotGoes x)) _ _ s
 refine wpAny_noted ?_
 rw [compTurn_list]
 refine wpAny_bind (wpAny_standAt (wpAny_bind (wpAny_mono (turn n s hI) (fun r s₁ h₁ => ?_) fun zz zz h' => h')))
 cases r with
 | none => exact wpAny_pure h₁
 | some v =>
  refine wpAny_bind (wpAny_mono h₁ (fun zz s₁' h₁' => ?_) fun zz zz h' => h')
  refine wpAny_bind (wpAny_mono h₁' (fun zz s₂ h₂ => wpAny_bind (wpAny_mono h₂ (fun ok s₃ h₃ => ?_) fun zz zz h' => h')) fun zz zz h' => h')
  cases ok with
  | false => exact wpAny_pure ⟨rfl, h₃⟩
  | true =>
   exact wpAny_bind (wpAny_bind (wpAny_mono h₃ (fun x s₄ h₄ => wpAny_bind (wpAny_mono h₄ (fun zz s₅ h₅ => wpAny_pure (wpAny_pure ⟨rfl, h₅⟩)) fun zz zz h' => h')) fun zz zz h' => h'))
end
theorem ls_mid : ∀ (ρ : Lo) (y : Option V) (t : Lo) (x : V), ls (ρ ++ y :: t) ρ.length x = ρ ++ some x :: t
 | [], _, _, _ => rfl
 | z :: ρ, y, t, x => by simp [ls, ls_mid ρ y t x]
theorem lss_new : ∀ (xs : List V) (ρ : Lo), lss (ρ ++ List.replicate xs.length none) (List.range' ρ.length xs.length) xs = ρ ++ xs.map some
 | [], ρ => by simp [lss]
 | x :: xs, ρ => by
  rw [List.length_cons, List.replicate_succ, List.range'_succ, lss, ls_mid]
  have := lss_new xs (ρ ++ [some x])
  simp only [List.length_append, List.length_singleton, List.append_assoc, List.singleton_append] at this
  rw [this]; simp
theorem parts_length {k : Nat} {x : V} {xs : List V} (h : parts k x = some xs) : xs.length = k := by
 unfold parts at h
 split at h
 ·rename_i e; cases h; exact e.symm
 ·split at h
  ·split at h
   ·rename_i e; cases h; exact e
   ·cases h
  ·cases h
theorem chkTg_inner {vs : Vs} {inner : Ns} {tg : List Str} : ∀ {l : List Str} {n : Nat}, (∀ j, l[j]? = tg[n + j]?) -> chkTg (innerVs vs inner tg) (List.range' (vs.length + n) l.length) l = true
 | [], _, _ => rfl
 | x :: l, n, h => by
  rw [List.length_cons, List.range'_succ]
  have h0 : tg[n]? = some x := (h 0).symm
  have h1 : vOk (innerVs vs inner tg) (vs.length + n) x = true := by unfold vOk; rw [inner_tg (vs := vs) (inner := inner) h0, beq_self_eq_true]; rfl
  have ih := chkTg_inner (vs := vs) (inner := inner) (tg := tg) (l := l) (n := n + 1) fun j => (h (j + 1)).trans (by congr 1; omega)
  exact Bool.and_eq_true_iff.mpr ⟨h1, ih⟩
section
variable {C : Cx} {d : Md} {env : Env} {vs : Vs} {ns : Ns} {ρ : Lo} {H H' : MH} {s s' s'' : Shared} {A : Around} {E : Value -> Shared -> Prop} {sc : Scope} {tg : List Str} {Cn : Addr} {D : Addr -> Prop}
theorem FI.forget {ts : Lo} {k : Nat} {h : Heap} (fi : FI C env vs (ρ ++ ts) H h) (hk : ts.length = k) : FI C env vs (ρ ++ List.replicate k none) H h := by
 have key : ∀ (i : Nat) (v : V), lk (ρ ++ List.replicate k none) i = some v -> lk (ρ ++ ts) i = some v := fun i v l => by
  by_cases hi : i < ρ.length
  ·rw [lk_append_lt hi] at l ⊢; exact l
  ·rw [show i = ρ.length + (i - ρ.length) by (clear hk; omega), lk_append, lk_none] at l; cases l
 refine Vc.xa_1_2 fi.ns fun m hm r => ?_
 refine ⟨by have := fi.len; simp only [List.length_append, List.length_replicate, hk] at this ⊢; exact this, fi.locH, fi.loc0, ⟨m, hm, fun i x v e l => r i x v e (key i v l)⟩, fun i x e => ?_, fi.cex⟩
 refine Vc.xa_2_5 (fi.cel i x e) fun c oc h1 h2 h3 h4 h5 => ?_
 exact ⟨c, oc, h1, h2, h3, h4, fun v l => h5 v (key i v l)⟩
theorem old_of' (x : Step C D H s H' s') (hD : ∀ b, D b -> s.heap.get? b = none) {b : Addr} (e : s'.heap.get? b = none) : s.heap.get? b = none := by
 cases q : s.heap.get? b with
 | none => rfl
 | some o =>
  by_cases u : (H b).isSome = true
  ·refine Vc.xa_1_1 (x.rel.there (x.dom b u)) fun ob w => ?_
   rw [e] at w
   cases w
  ·by_cases dd : D b
   ·rw [hD b dd] at q; cases q
   ·refine Vc.xa_1_2 (x.chg b o q (by simpa using u) dd) fun sl w zz => ?_
    rw [e] at w
    cases w
theorem Fly.back' {tr : Bool} {a : Addr} {c : String} {h : Heap} (st : Step C D H s H' s') (hD : ∀ b, D b -> s.heap.get? b = none) (x : Fly C tr s' a c h) : Fly C tr s a c h := ⟨x.no⟩
theorem XG.lift {tr : Bool} {X : XP} {X' : XH} {e : Value} (st : Step C D H s H' s') (hD : ∀ b, D b -> s.heap.get? b = none) (hx : ∀ b, D b -> ∃ o, s'.heap.get? b = some o)
  (hX : ∀ c H2 s2, Step C No H' s' H2 s2 -> X c H2 -> X' c H2 s2.heap) (hN : ∀ b, D b -> H' b = none) (x : XQ tr C No H' s' X e s'') : XG tr C D H s X' e s'' := by
 refine Vc.xa_3_5 x fun a c H2 h1 h2 h3 h4 h5 => ?_
 try clear x
 refine ⟨a, c, H2, h1, st.trans (h2.weaken hx), fun b hb => ?_, h4.back' st hD, hX c H2 s'' h2 h5⟩
 refine Vc.xa_1_1 (hx b hb) fun o w => ?_
 refine Vc.xa_1_2 (h2.chg b o w (hN b hb) (fun f => f)) fun sl w' zz => ?_
 exact ⟨_, w'⟩
end
end Vc
end
section
namespace Vc
open PySem
noncomputable def DI (I Dl Cn : Addr) : Addr -> Prop := fun b => b = I ∨ b = Dl ∨ b = Cn
noncomputable def testsOf (ifs : List Expr) (env : Env) : Sem Bool := forIn ifs true fun c r => if r = true then do let ok <- isTrue c env (eval c env); pure (ForInStep.yield ok) else pure (ForInStep.yield r)
section
variable {C : Cx} {d : Md} {env : Env} {vs : Vs} {ns : Ns} {ρ : Lo} {H1 : MH} {s1 s2 : Shared} {A : Around} {E : Value -> Shared -> Prop} {sc : Scope} {tg : List Str} {X : XP}
 {elt it : Ex} {ifs : List Ex} {elt' it' t' : Expr} {ifs' : List Expr} {p : Pos} {iv : V} {all : List V} {I : Addr}
theorem ItAt.neD {h : Heap} {i : Nat} {b : Addr} {o : Obj} (x : ItAt C h iv I i) (ho : h.get? b = some o) (hd : ∀ ws, o.data ≠ .fields ws) : b ≠ I := fun q =>
 x.there.elim fun o2 y => y.elim fun T y => y.elim fun ws y => hd ws (Option.some.inj ((q ▸ ho).symm.trans y.1) ▸ y.2.2.2.2)
theorem pl_neD {h : Heap} {i : Nat} {Dl : Addr} {items : Array Value} (x : ItAt C h iv I i) (y : h.PlainList Dl items) : Dl ≠ I :=
 y.elim fun n e => x.neD e fun ws q => Data.noConfusion q
theorem pl_step {Hx Hy : MH} {sa sb : Shared} {D : Addr -> Prop} {Dl : Addr} {its : Array Value} (x : sa.heap.PlainList Dl its) (y : Step C D Hx sa Hy sb) (hx : Hx Dl = none) (nd : ¬ D Dl) : sb.heap.PlainList Dl its :=
 x.at fun o e => by
  refine Vc.xa_1_2 (y.chg Dl o e hx nd) fun sl w q => ?_
  refine Vc.xa_1_1 x fun n h1 => ?_
  try clear x
  rw [h1] at e
  cases e
  rw [q (by intro es ep z; cases z)] at w; exact w
section
variable {ce : Env} {vs' : Vs} {ns' : Ns} {Dl : Addr}
theorem FI.neL {h : Heap} {i : Nat} {ρ' : Lo} {H : MH} (x : ItAt C h iv I i) (y : FI C ce vs' ρ' H h) : ce.locals ≠ I :=
 y.ns.elim fun m z => z.1.elim fun o z => z.elim fun es z => z.elim fun ep z => x.neD z.1 fun ws q => Data.noConfusion (z.2.1.symm.trans q)
theorem FI.neC {h : Heap} {i : Nat} {ρ' : Lo} {H : MH} {z : Str} {c : Addr} (x : ItAt C h iv I i) (y : FI C ce vs' ρ' H h) (e : ce.cells.lookup z = some c) : c ≠ I :=
 (y.cex z c e).2.2.elim fun oc q => q.elim fun o q => x.neD q.1 fun ws r => Data.noConfusion (q.2.symm.trans r)
theorem FI.neP {h : Heap} {items : Array Value} {ρ' : Lo} {H : MH} {z : Str} {c : Addr} (x : h.PlainList Dl items) (y : FI C ce vs' ρ' H h) (e : ce.cells.lookup z = some c) : c ≠ Dl := fun q => by
 obtain ⟨_, _, oc, o, ho, hd⟩ := y.cex z c e
 refine Vc.xa_1_1 x fun n h1 => ?_
 try clear x
 rw [q, h1] at ho; cases ho; cases hd
structure CI (C : Cx) (ce : Env) (vs' : Vs) (iv : V) (I Dl : Addr) (H1 : MH) (s1 : Shared) (ρ' : Lo) (i : Nat) (av : List V) (items : Array Value) (H : MH) (s : Shared) : Prop where
 st : Step C (DI I Dl ce.locals) H1 s1 H s
 it : ItAt C s.heap iv I i
 go : ∀ b, DI I Dl ce.locals b -> H b = none
 pl : s.heap.PlainList Dl items
 rs : VRs C s.heap av items.toList
 fi : FI C ce vs' ρ' H s.heap
section
variable {ρ' : Lo} {i : Nat} {av : List V} {items : Array Value} {H H' : MH} {s s' : Shared}
theorem CI.exs (x : CI C ce vs' iv I Dl H1 s1 ρ' i av items H s) : ∀ b, DI I Dl ce.locals b -> ∃ o, s.heap.get? b = some o := fun b hb => by
 rcases hb with rfl | rfl | rfl
 ·refine Vc.xa_3_2 x.it.there fun o zz zz h1 zz => ?_
  exact ⟨o, h1⟩
 ·refine Vc.xa_1_1 x.pl fun n h1 => ?_
  exact ⟨_, h1⟩
 ·refine Vc.xa_1_2 x.fi.ns fun m ho55_1 zz => ?_
  obtain ⟨o, _, _, ho, _⟩ := ho55_1
  exact ⟨o, ho⟩
theorem CI.no (x : CI C ce vs' iv I Dl H1 s1 ρ' i av items H s) (y : Step C No H s H' s') : CI C ce vs' iv I Dl H1 s1 ρ' i av items H' s' where
 st := x.st.trans (y.weaken x.exs)
 it := x.it.step y (x.go I (.inl rfl)) (fun f => f)
 go := fun b hb => (x.exs b hb).elim fun o w => y.gone w (x.go b hb)
 pl := pl_step x.pl y (x.go Dl (.inr (.inl rfl))) (fun f => f)
 rs := x.rs.keep y.vk
 fi := x.fi.stepN y
theorem CI.nx (x : CI C ce vs' iv I Dl H1 s1 ρ' i av items H s) (y : Step C (· = I) H s H s') (z : ItAt C s'.heap iv I (i + 1)) : CI C ce vs' iv I Dl H1 s1 ρ' (i + 1) av items H s' where
 st := x.st.trans (y.widen fun b e => .inl e)
 it := z
 go := x.go
 pl := pl_step x.pl y (x.go Dl (.inr (.inl rfl))) (pl_neD x.it x.pl)
 rs := x.rs.keep y.vk
 fi := x.fi.step y (x.fi.neL x.it) fun zz zz e => x.fi.neC x.it e
theorem CI.as {D : Addr -> Prop} {ρ2 : Lo} (x : CI C ce vs' iv I Dl H1 s1 ρ' i av items H s) (y : Step C D H s H s') (hD : ∀ b, D b -> b = ce.locals) (hDC : Dl ≠ ce.locals) (f : FI C ce vs' ρ2 H s'.heap) : CI C ce vs' iv I Dl H1 s1 ρ2 i av items H s' where
 st := x.st.trans (y.widen fun b e => .inr (.inr (hD b e)))
 it := x.it.step y (x.go I (.inl rfl)) fun e => x.fi.neL x.it (hD _ e).symm
 go := x.go
 pl := pl_step x.pl y (x.go Dl (.inr (.inl rfl))) fun e => hDC (hD _ e)
 rs := x.rs.keep y.vk
 fi := f
theorem CI.ap {cv : Value} {v : V} {h5 : Heap} (x : CI C ce vs' iv I Dl H1 s1 ρ' i av items H s) (vr : VR C s.heap v cv) (ok : Ok C d H A s) (hz : C.h0.get? Dl = none) (hDC : Dl ≠ ce.locals)
  (pl5 : h5.PlainList Dl (items.push cv)) (sb5 : ∀ b, b ≠ Dl -> h5.get? b = s.heap.get? b) : CI C ce vs' iv I Dl H1 s1 ρ' i (av ++ [v]) (items.push cv) H { s with heap := h5 } := by
 have st5 : Step C (· = Dl) H s H { s with heap := h5 } := by
  refine Vc.xa_1_1 x.pl fun n h1 => ?_
  refine Step.but ok.rel ok.top (fun b o e nb => (sb5 b nb).trans e) (fun b e => e ▸ x.go Dl (.inr (.inl rfl))) (fun b e => e ▸ hz) (fun b o e q => ?_) (fun b o es ep e q z => ?_) rfl rfl
  ·subst q; rw [h1] at e; cases e; exact .inr (.inr ⟨"list", rfl, by decide, by decide⟩)
  ·subst q; rw [h1] at e; cases e; cases z
 exact ⟨x.st.trans (st5.widen fun b e => .inr (.inl e)), x.it.step st5 (x.go I (.inl rfl)) (pl_neD x.it x.pl).symm, x.go, pl5,
  by rw [Array.toList_push]; exact (x.rs.keep st5.vk).append (VRs.cons (vr.keep st5.vk) VRs.nil),
  x.fi.step st5 (fun q => hDC q.symm) fun zz zz e => x.fi.neP x.pl e⟩
theorem CI.er {fenv : Env} {outer : List Env} {R : Value -> Shared -> Prop} {e : Value} (x : CI C ce vs' iv I Dl H1 s1 ρ' i av items H s) (hfr : A.frames = some (fenv :: outer)) (hff : fenv.frame = ce.frame) (ok : Ok C d H1 A s1)
  (hnew : ∀ b, DI I Dl ce.locals b -> s1.heap.get? b = none)
  (herr : ∀ s' e, XG true C (DI I Dl ce.locals) H1 s1 (fun c H h => X c H /\ H ce.locals = none /\ ∃ m, h.Ns ce.locals m) e s' -> R e s') (hx : XQ false C No H s X e s') : notedBy C.M A ce R e s' := by
 have lifted : XG false C (DI I Dl ce.locals) H1 s1 (fun c H h => X c H /\ H ce.locals = none /\ ∃ m, h.Ns ce.locals m) e s' :=
  XG.lift x.st hnew x.exs (fun c H2 s2 st' hX => ⟨hX, (x.fi.stepN st').locH, (x.fi.stepN st').ns.imp fun zz q => q.1⟩) x.go hx
 have stable : StX C (fun c H h => X c H /\ H ce.locals = none /\ ∃ m, h.Ns ce.locals m) := fun c H sa sb D stD hrec hX => ⟨hX.1, hX.2.1, by
  refine Vc.xa_4_3 hX.2.2 fun m o es ep ho hd r => ?_
  have hnD : ¬ D ce.locals := fun q => by obtain ⟨vs, w⟩ := hrec ce.locals o q ho; rw [hd] at w; cases w
  refine Vc.xa_1_2 (stD.chg ce.locals o ho hX.2.1 hnD) fun sl w zz => ?_
  exact ⟨m, _, es, ep, w, hd, r⟩⟩
 refine wpAny_mono (note (fenv := fenv) (outer := outer) (env := ce) stable ok hfr hff (fun H' s' stl => ?_) lifted) (fun zz s'' h => herr s'' e h) fun e' s'' h => herr s'' e' h
 refine Vc.xa_1_2 ok.frs fun l hl' hfl => ?_
 rw [hfr] at hl'; cases hl'
 exact hfl.step stl
end
end
theorem comp_loop {ce : Env} {vs' : Vs} {ns' : Ns} {fenv : Env} {outer : List Env} {Dl : Addr} {stp : List V -> MH -> (Option V -> MH -> Prop) -> Prop} {K : List V -> MH -> Prop} {R : Value -> Addr -> Result -> Shared -> Prop} {s0 : Shared} {n0 : Nat}
  (hst : ∀ vs H2 Q', stp vs H2 Q' -> wpTs C d ifs (ρ ++ vs.map some) H2 (fun t H3 => if t = true then wpE C d elt (ρ ++ vs.map some) H3 (fun v H4 => Q' (some v) H4) X else Q' none H3) X)
  (ES' : EnvS ce vs' ns') (hfr : A.frames = some (fenv :: outer)) (hff : fenv.frame = ce.frame) (ok : Ok C d H1 A s1) (ht : tgt? t' = some tg) (hidx : chkTg vs' (List.range' ρ.length tg.length) tg = true)
  (hcl : ∀ j x, ρ.length <= j -> vs'[j]? ≠ some (x, Vk.cel))
  (hT : ∀ s H ρ' (Q : Bool -> MH -> Prop), Ok C d H A s -> FI C ce vs' ρ' H s.heap -> wpTs C d ifs ρ' H Q X -> wpAny C.M A (testsOf ifs' ce) (fun b s' => ∃ H', Step C No H s H' s' /\ Q b H') (XQ false C No H s X) s)
  (hE : ∀ s H ρ' (Q : V -> MH -> Prop), Ok C d H A s -> FI C ce vs' ρ' H s.heap -> wpE C d elt ρ' H Q X -> wpAny C.M A (eval elt' ce) (QP C H s Q) (XQ false C No H s X) s)
  (hq : Itq d iv) (hsz : all.length <= sizeLine) (hDl1 : s1.heap.get? Dl = none) (hCn1 : s1.heap.get? ce.locals = none) (hDC : Dl ≠ ce.locals) (hnew : ∀ b, DI I Dl ce.locals b -> s1.heap.get? b = none) (hz : ∀ b, DI I Dl ce.locals b -> C.h0.get? b = none)
  (hok : ∀ s' av Hc items, Step C (DI I Dl ce.locals) H1 s1 Hc s' -> Hc Dl = none -> Hc ce.locals = none -> s'.heap.PlainList Dl items -> VRs C s'.heap av items.toList ->
   (∃ m, s'.heap.Ns ce.locals m) -> K av Hc -> R (.ref Dl) ce.locals (.ok .next) s')
  (herr : ∀ s' e, XG true C (DI I Dl ce.locals) H1 s1 (fun c H h => X c H /\ H ce.locals = none /\ ∃ m, h.Ns ce.locals m) e s' -> R (.ref Dl) ce.locals (.error e) s')
  (h0' : ∃ i Hc av items, (n0 = all.length - i /\ i <= all.length /\ av.length <= i) /\ CI C ce vs' iv I Dl H1 s1 (ρ ++ List.replicate tg.length none) i av items Hc s0 /\
   wpC tg.length iv all stp (all.drop i) av Hc K) :
  codeAny C.M A (.compLoop (.ListComp elt' [⟨t', it', ifs', 0⟩] sc p) 0 (.ref I) (.ref Dl) ce) (R (.ref Dl) ce.locals) s0 := by
 refine compLoop_any (fun n s => ∃ i Hc av items, (n = all.length - i /\ i <= all.length /\ av.length <= i) /\ CI C ce vs' iv I Dl H1 s1 (ρ ++ List.replicate tg.length none) i av items Hc s /\
   wpC tg.length iv all stp (all.drop i) av Hc K)
  (fun n s hI => ?_) n0 h0'
 refine Vc.xa_4_3 hI fun i Hc av items ho122_4 ci Wc => ?_
 try clear hI
 obtain ⟨hn, hi, hsza⟩ := ho122_4
 have err : ∀ {Hx : MH} {sx : Shared} {i : Nat} {ρ' : Lo}, CI C ce vs' iv I Dl H1 s1 ρ' i av items Hx sx -> ∀ e s', XQ false C No Hx sx X e s' -> notedBy C.M A ce (fun e s' => R (.ref Dl) ce.locals (.error e) s') e s' :=
  fun c e s' hx => c.er hfr hff ok hnew herr hx
 have okc := ok.step ci.st
 have hI0 : C.h0.get? I = none := hz I (.inl rfl)
 rcases Nat.lt_or_ge i all.length with hlt | hge
 ·-- one more item
  (rw [List.drop_eq_getElem_cons hlt] at Wc; dsimp only [wpC] at Wc)
  obtain ⟨hitems, xs, hparts, Wx⟩ := Wc
  have hxl := parts_length hparts
  refine next_item okc ci.it (ci.go I (.inl rfl)) hI0 hitems (x := all[i]) (List.getElem?_eq_getElem hlt) fun sb cv stb itb vrb => ?_
  have cb := ci.nx stb itb
  refine it_go itb (assign_tgt (idx := List.range' ρ.length tg.length) ES' ht hidx (okc.step stb) cb.fi vrb (by rw [List.length_range']; exact hparts) fun sc' stc fic' => ?_)
  rw [<- hxl, lss_new] at fic'
  have cc := cb.as stc (fun b hb => by
   refine Vc.xa_1_2 hb fun j hj hb => ?_
   rcases hb with ⟨_, e⟩ | ⟨x, e, _⟩
   ·exact e
   ·exfalso
    refine Vc.xa_1_2 (List.mem_range'.mp hj) fun q hq1 hq2 => ?_
    exact hcl j x (hq2 ▸ Nat.le_add_right _ _) e) hDC fic'
  have okcc := ok.step cc.st
  refine wpAny_mono (hT sc' Hc _ _ okcc fic' (hst _ _ _ Wx)) (fun b s3 hb => ?_) (err cc)
  refine Vc.xa_1_2 hb fun H3 st3 Q3 => ?_
  try clear hb
  have c3 := cc.no st3
  cases b with
  | false => exact ⟨all.length - (i + 1), hn ▸ Nat.sub_lt_sub_left hlt (Nat.lt_succ_self i), i + 1, H3, av, items, ⟨rfl, hlt, Nat.le_succ_of_le hsza⟩, { c3 with fi := c3.fi.forget (by simpa using hxl) }, Q3⟩
  | true =>
   refine wpAny_mono (hE s3 H3 _ _ (okcc.step st3) c3.fi Q3) (fun cv s4 hb => ?_) (err c3)
   refine Vc.xa_2_3 hb fun v H4 st4 vr4 Q4 => ?_
   try clear hb
   have c4 := c3.no st4
   refine wpAny_list_append_plain c4.pl (fun h5 pl5 sb5 => ?_) (show items.toList.length <= sizeLine from c4.rs.length ▸ Nat.le_trans hsza (Nat.le_trans hi hsz))
   have c5 := c4.ap vr4 (ok.step c4.st) (hz Dl (.inr (.inl rfl))) hDC pl5 sb5.2
   exact ⟨all.length - (i + 1), hn ▸ Nat.sub_lt_sub_left hlt (Nat.lt_succ_self i), i + 1, H4, av ++ [v], items.push cv, ⟨rfl, hlt, by rw [List.length_append]; exact Nat.succ_le_succ hsza⟩, { c5 with fi := c5.fi.forget (by simpa using hxl) }, Q4⟩
 ·-- the end
  (rw [List.drop_eq_nil_of_le hge] at Wc; dsimp only [wpC] at Wc)
  refine next_end okc hq ci.it (ci.go I (.inl rfl)) hI0 Wc.1 hge fun sb stb => ?_
  refine hok sb av Hc items (ci.st.trans (stb.widen fun b e => .inl e)) (ci.go _ (.inr (.inl rfl))) (ci.go _ (.inr (.inr rfl))) (pl_step ci.pl stb (ci.go Dl (.inr (.inl rfl))) (pl_neD ci.it ci.pl)) (ci.rs.keep stb.vk) ?_ Wc.2
  exact (ci.fi.step stb (ci.fi.neL ci.it) fun zz zz e => ci.fi.neC ci.it e).ns.imp fun zz q => q.1
theorem comp_core (ES : EnvS env vs ns) (ea : EA A env) (ok : Ok C d H1 A s1) (fi : FI C env vs ρ H1 s1.heap)
  (ht : tgt? t' = some tg) (hl : ∀ x ∈ tg, sc.names.lookup x = some .local) (nd : tg.Nodup) (hk : sc.kind = .function) (hnc : ∀ x ∈ sc.names, x.2 ≠ .cell)
  (hf : ∀ x ∈ sc.names, x.2 = .free -> (env.cells.lookup x.1).isSome = true)
  (hT : ∀ env' s H ρ' (Q : Bool -> MH -> Prop), EnvS env' (innerVs vs (relab sc.names ns) tg) (relab sc.names ns) -> EA A env' -> Ok C d H A s -> FI C env' (innerVs vs (relab sc.names ns) tg) ρ' H s.heap -> wpTs C d ifs ρ' H Q X ->
   wpAny C.M A (testsOf ifs' env') (fun b s' => ∃ H', Step C No H s H' s' /\ Q b H') (XQ false C No H s X) s)
  (hE : ∀ env' s H ρ' (Q : V -> MH -> Prop), EnvS env' (innerVs vs (relab sc.names ns) tg) (relab sc.names ns) -> EA A env' -> Ok C d H A s -> FI C env' (innerVs vs (relab sc.names ns) tg) ρ' H s.heap -> wpE C d elt ρ' H Q X ->
   wpAny C.M A (eval elt' env') (QP C H s Q) (XQ false C No H s X) s)
  {K : List V -> MH -> Prop} (hq : Itq d iv) (hsz : all.length <= sizeLine)
  (W : wpC tg.length iv all (fun vs H2 Q' => wpTs C d ifs (ρ ++ vs.map some) H2 (fun t H3 => if t = true then wpE C d elt (ρ ++ vs.map some) H3 (fun v H4 => Q' (some v) H4) X else Q' none H3) X) all [] H1 K)
  (st2 : Step C No H1 s1 H1 s2) (hI1 : s1.heap.get? I = none) (hit : ItAt C s2.heap iv I 0)
  {R : Value -> Addr -> Result -> Shared -> Prop}
  (hok : ∀ Dl Cn s' av Hc items, Step C (DI I Dl Cn) H1 s1 Hc s' -> s1.heap.get? Dl = none -> s1.heap.get? Cn = none -> Dl ≠ Cn -> Hc Dl = none -> Hc Cn = none -> s'.heap.PlainList Dl items -> VRs C s'.heap av items.toList ->
   (∃ m, s'.heap.Ns Cn m) -> K av Hc -> R (.ref Dl) Cn (.ok .next) s')
  (herr : ∀ Dl Cn s' e, s1.heap.get? Dl = none -> s1.heap.get? Cn = none -> XG true C (DI I Dl Cn) H1 s1 (fun c H h => X c H /\ H Cn = none /\ ∃ m, h.Ns Cn m) e s' -> R (.ref Dl) Cn (.error e) s') :
  wpAny C.M A (newList []) (fun acc s3 => wpAny C.M A (newFunctionEnv sc env.globals (closA env sc.names []) [] env.qual none .none (some env)) (fun cenv s4 =>
   codeAny C.M A (.compStart (.ListComp elt' [⟨t', it', ifs', 0⟩] sc p) 0 (.ref I) acc { cenv with scope := relabel sc env }) (R acc cenv.locals) s4) E s3) E s2 := by
 have ok2 := ok.step st2
 refine wpAny_newObj_type (wpAny_newFunctionEnv hnc (by intro y hy; simp at hy) (fun h₁ hns₁ hsb₁ => ?_) hk)
 dsimp only at hns₁ hsb₁ ⊢
 generalize hDl : s2.heap.objs.size = Dl at *
 generalize hP : s2.heap.push { cls := .type "list", dict := none, data := .seq ([] : List Value).toArray } = P at *
 generalize hCn : P.objs.size = Cn at *
 have hCn' : Cn = Dl + 1 := by rw [<- hCn, <- hP, Heap.size_push, hDl]
 have hDC : Dl ≠ Cn := by (clear hsz hDl hCn; omega)
 have k2 : ∀ b o, s2.heap.get? b = some o -> h₁.get? b = some o := fun b o e => by
  have hb : b < Dl := hDl ▸ Heap.lt_size e
  rw [hsb₁.2 b (hCn' ▸ Nat.ne_of_lt (Nat.lt_succ_of_lt hb))]
  exact Heap.get?_push_of_some _ (hP ▸ Heap.get?_push_of_some _ e)
 have hDl2 : s2.heap.get? Dl = none := hDl ▸ fresh_size _
 have hCn2 : s2.heap.get? Cn = none := by
  cases q : s2.heap.get? Cn with
  | none => rfl
  | some o => have := Heap.lt_size q; rw [hDl, hCn'] at this; exact absurd this (Nat.not_lt.mpr (Nat.le_succ _))
 have hDl1 := old_of st2 hDl2
 have hCn1 := old_of st2 hCn2
 have hpl : h₁.PlainList Dl #[] := ⟨0, by
  rw [hsb₁.2 Dl hDC]
  exact Heap.get?_push_of_some _ (hP ▸ hDl ▸ Heap.get?_push_size _ rfl)⟩
 refine Vc.xa_2_2 ea fun fenv outer hfr hff => ?_
 try clear ea
 have stA : Step C No H1 s2 H1 { s2 with heap := h₁, toks := s2.toks + ([] : List (Str × Value)).length } := Step.keeps ok2.rel ok2.top k2 rfl rfl
 have st0 := st2.trans stA
 generalize hs0 : ({ s2 with heap := h₁, toks := s2.toks + ([] : List (Str × Value)).length } : Shared) = s0 at *
 have hh0 : s0.heap = h₁ := by rw [<- hs0]
 have hnew : ∀ b, DI I Dl Cn b -> s1.heap.get? b = none := fun b hb => by
  rcases hb with rfl | rfl | rfl
  ·exact hI1
  ·exact hDl1
  ·exact hCn1
 have hH : ∀ b, DI I Dl Cn b -> H1 b = none := fun b hb => ok.rel.fresh (hnew b hb)
 have hz : ∀ b, DI I Dl Cn b -> C.h0.get? b = none := fun b hb => fresh_top ok.top (hnew b hb)
 have hit0 : ItAt C s0.heap iv I 0 := hit.step stA (ok.rel.fresh hI1) (fun f => f)
 have ES' : EnvS (compEnvC sc (closA env sc.names []) Cn env) (innerVs vs (relab sc.names ns) tg) (relab sc.names ns) := comp_envS ES hk hl nd hf
 have fi0 : FI C (compEnvC sc (closA env sc.names []) Cn env) (innerVs vs (relab sc.names ns) tg) (ρ ++ List.replicate tg.length none) H1 s0.heap :=
  comp_fi ES (fi.stepN st0) hnc hf (hH _ (.inr (.inr rfl))) (hz _ (.inr (.inr rfl))) (by rw [hh0]; exact hns₁)
 have e0 : Step C (DI I Dl Cn) H1 s1 H1 s0 := { st0 with chg := fun b o e n zz => st0.chg b o e n (fun f => f), dn := fun b hb zz => hH b hb }
 have loop := comp_loop (ce := compEnvC sc (closA env sc.names []) Cn env) (vs' := innerVs vs (relab sc.names ns) tg) (ns' := relab sc.names ns) (fenv := fenv) (outer := outer) (Dl := Dl) (R := R) (s0 := s0) (n0 := all.length) (sc := sc) (p := p) (it' := it') (elt' := elt') (ifs' := ifs') (t' := t') (I := I)
  (fun zz zz zz h => h) ES' hfr hff ok ht (by
   rw [fi.len]
   have := chkTg_inner (vs := vs) (inner := relab sc.names ns) (tg := tg) (l := tg) (n := 0) (fun j => by simp)
   simpa using this) (fun j x hj e => by
   have := (inner_ge e (by rw [<- fi.len]; (clear hsz hDl hCn hCn' hDC; omega))).1; cases this) (fun s H ρ' Q o f w => hT _ s H ρ' Q ES' ⟨fenv, outer, hfr, hff⟩ o f w) (fun s H ρ' Q o f w => hE _ s H ρ' Q ES' ⟨fenv, outer, hfr, hff⟩ o f w) hq hsz hDl1 hCn1 hDC hnew hz
   (fun s' av Hc items a1 a2 a3 a4 a5 a6 a7 => hok Dl Cn s' av Hc items a1 hDl1 hCn1 hDC a2 a3 a4 a5 a6 a7) (fun s' e x => herr Dl Cn s' e hDl1 hCn1 x)
   ⟨0, H1, [], #[], ⟨rfl, Nat.zero_le _, Nat.le_refl _⟩, ⟨e0, hit0, hH, by rw [hh0]; exact hpl, VRs.nil, fi0⟩, W⟩
 exact codeAny_compStart_list loop (iter_self hit0 loop)
end
end Vc
end
section
namespace Vc
open PySem
theorem starEach_cons {e : Expr} {es : List Expr} {env : Env} (h : ∀ x p, e ≠ .Starred x p) : starEach (e :: es) env = (false, eval e env) :: starEach es env := by
 cases e <;> first | rfl | exact absurd rfl (h _ _)
theorem backTo_cons {pos : Pos} {t : Sem Value} {l : List (Bool × Sem Value)} : backTo pos ((false, t) :: l) = (false, t) :: backTo pos l := rfl
section
variable {C : Cx} {d : Md} {env : Env} {vs : Vs} {ns : Ns} {ρ : Lo} {H H1 H' : MH} {s s1 s' : Shared} {A : Around} {X : XP} {Q : V -> MH -> Prop}
noncomputable def SndE (C : Cx) (d : Md) (e : Ex) (e' : Expr) (vs : Vs) (ns : Ns) : Prop :=
 ∀ env A s ρ H Q X, EnvS env vs ns -> EA A env -> Ok C d H A s -> FI C env vs ρ H s.heap -> wpE C d e ρ H Q X -> wpAny C.M A (eval e' env) (QP C H s Q) (XQ false C No H s X) s
noncomputable def SndT (C : Cx) (d : Md) (e : Ex) (e' : Expr) (vs : Vs) (ns : Ns) : Prop :=
 ∀ env A s ρ H (Q : Bool -> MH -> Prop) X, EnvS env vs ns -> EA A env -> Ok C d H A s -> FI C env vs ρ H s.heap -> wpT C d e ρ H Q X -> wpAny C.M A (isTrue e' env (eval e' env)) (fun b s' => ∃ H', Step C No H s H' s' /\ Q b H') (XQ false C No H s X) s
noncomputable def SndEs (C : Cx) (d : Md) (es : List Ex) (es' : List Expr) (vs : Vs) (ns : Ns) : Prop :=
 ∀ env A s ρ H (Q : List V -> MH -> Prop) X pos, EnvS env vs ns -> EA A env -> Ok C d H A s -> FI C env vs ρ H s.heap -> wpEs C d es ρ H Q X ->
  wpAny C.M A (spliced (backTo pos (starEach es' env))) (fun cvs s' => ∃ xs H', Step C No H s H' s' /\ VRs C s'.heap xs cvs /\ Q xs H') (XQ false C No H s X) s
theorem snd_bin {op : Operator} {l r : Ex} {l' r' : Expr} {p : Pos} (hl : SndE C d l l' vs ns) (hr : SndE C d r r' vs ns) : SndE C d (.bin op l r) (.BinOp l' op r' p) vs ns := by
 intro env A s ρ H Q X ES ea ok fi W
 dsimp only [wpE] at W
 refine wpAny_BinOp (wpAny_mono (hl env A s ρ H _ X ES ea ok fi W) (fun a s1 hq1 => Vc.xa_2_3 hq1 fun va H1 st1 r1 W1 => ?_) fun zz zz h => h)
 refine wpAny_mono (hr env A s1 ρ H1 _ X ES ea (ok.step st1) (fi.stepN st1) W1) (fun b s2 hq2 => Vc.xa_2_3 hq2 fun vb H2 st2 r2 W2 => ?_) fun zz zz h => h.back st1
 have st := st1.trans st2
 exact wpAny_mono (W2 A s2 a b (ok.step st) (r1.keep st2.vk) r2) (fun zz zz h => h.back st) fun zz zz h => h.back st
theorem snd_una {op : UnaryOp} {e : Ex} {e' : Expr} {p : Pos} (he : SndE C d e e' vs ns) : SndE C d (.una op e) (.UnaryOp op e' p) vs ns := by
 intro env A s ρ H Q X ES ea ok fi W
 dsimp only [wpE] at W
 rw [arm_eval_UnaryOp]
 refine wpAny_bind (wpAny_mono (he env A s ρ H _ X ES ea ok fi W) (fun a s1 hq3 => Vc.xa_2_3 hq3 fun va H1 st1 r1 W1 => ?_) fun zz zz h => h)
 exact wpAny_bind (wpAny_standAt (wpAny_holding (wpAny_mono (W1 A s1 a (ok.step st1) r1) (fun zz zz h => h.back st1) fun zz zz h => h.back st1)))
theorem marks_false {op : CmpOp} {e : Expr} (h : notSet e = true) : behindInMarks op e = false := by
 cases e <;> first | rfl | (exact (Bool.false_ne_true h).elim)
theorem snd_cmp {op : CmpOp} {l r : Ex} {l' r' : Expr} {p : Pos} (hs : notSet r' = true) (hl : SndE C d l l' vs ns) (hr : SndE C d r r' vs ns) : SndE C d (.cmp op l r) (.Compare l' [op] [r'] p) vs ns := by
 intro env A s ρ H Q X ES ea ok fi W
 dsimp only [wpE] at W
 refine wpAny_Compare1 (wpAny_mono (hl env A s ρ H _ X ES ea ok fi W) (fun a s1 hq4 => Vc.xa_2_3 hq4 fun va H1 st1 r1 W1 => ?_) fun zz zz h => h) (marks_false hs)
 refine wpAny_mono (hr env A s1 ρ H1 _ X ES ea (ok.step st1) (fi.stepN st1) W1) (fun b s2 hq5 => Vc.xa_2_3 hq5 fun vb H2 st2 r2 W2 => ?_) fun zz zz h => h.back st1
 have st := st1.trans st2
 exact wpAny_mono (W2 A s2 a b (ok.step st) (r1.keep st2.vk) r2) (fun zz zz h => h.back st) fun zz zz h => h.back st
theorem sndT_cmp {op : CmpOp} {l r : Ex} {l' r' : Expr} {p : Pos} (hs : notSet r' = true) (hl : SndE C d l l' vs ns) (hr : SndE C d r r' vs ns) : SndT C d (.cmp op l r) (.Compare l' [op] [r'] p) vs ns := by
 intro env A s ρ H Q X ES ea ok fi W
 dsimp only [wpT] at W
 ·refine wpAny_isTrue_Compare1 (wpAny_mono (hl env A s ρ H _ X ES ea ok fi W) (fun a s1 hq6 => Vc.xa_2_3 hq6 fun va H1 st1 r1 W1 => ?_) fun zz zz h => h) (marks_false hs)
  refine wpAny_mono (hr env A s1 ρ H1 _ X ES ea (ok.step st1) (fi.stepN st1) W1) (fun b s2 hq7 => Vc.xa_2_3 hq7 fun vb H2 st2 r2 W2 => ?_) fun zz zz h => h.back st1
  have st := st1.trans st2
  refine wpAny_mono (W2 A s2 a b (ok.step st) (r1.keep st2.vk) r2) (fun c s3 hq8 => Vc.xa_2_3 hq8 fun vc H3 st3 r3 W3 => ?_) fun zz zz h => h.back st
  have st' := st.trans st3
  exact wpAny_mono (W3 A s3 c (ok.step st') r3) (fun b s4 hq9 => Vc.xa_1_2 hq9 fun H4 st4 W4 => ⟨H4, st'.trans st4, W4⟩) fun zz zz h => h.back st'
 all_goals (intros; rename_i h; cases h)
theorem chain2 {env : Env} {l m r : Expr} {o1 o2 : CmpOp} {p : Pos} (hs : notSet r = true) : eval (.Compare l [o1, o2] [m, r] p) env = (do
  let a <- eval l env
  let b <- holding [a] (eval m env)
  standAt p
  let c <- holding [a, b] (compareOp o1 a b)
  release [a, b] [c]
  if <- holding [c, b] (truthy c) then do
   let b' <- holding [b] (eval r env)
   standAt p
   operate [b, b'] (compareOp o2 b b')
  else pure c) := by
 rw [arm_eval_Compare]
 have : markedEach [o1, o2] [m, r] (evalEach [m, r] env) = [eval m env, eval r env] := by
  show [eval m env, markedBehindIn o2 r (eval r env)] = _
  rw [markedBehindIn_of_false (marks_false hs)]
 rw [this]
 rfl
theorem testChain2 {env : Env} {l m r : Expr} {o1 o2 : CmpOp} {p : Pos} {t : Sem Value} (hs : notSet r = true) : isTrue (.Compare l [o1, o2] [m, r] p) env t = (do
  let a <- eval l env
  let b <- holding [a] (eval m env)
  standAt p
  let c <- holding [a, b] (compareOp o1 a b)
  release [a, b] [c]
  if <- holding [c, b] (truthy c) then do
   let b' <- holding [b] (eval r env)
   standAt p
   let c' <- operate [b, b'] (compareOp o2 b b')
   holding [c'] (truthy c')
  else pure false) := by
 show (do testChain p (<- eval l env) [o1, o2] (markedEach [o1, o2] [m, r] (evalEach [m, r] env))) = _
 have : markedEach [o1, o2] [m, r] (evalEach [m, r] env) = [eval m env, eval r env] := by
  show [eval m env, markedBehindIn o2 r (eval r env)] = _
  rw [markedBehindIn_of_false (marks_false hs)]
 rw [this]
 rfl
theorem snd_cmp2 {o1 o2 : CmpOp} {l m r : Ex} {l' m' r' : Expr} {p : Pos} (hs : notSet r' = true) (hl : SndE C d l l' vs ns) (hm : SndE C d m m' vs ns) (hr : SndE C d r r' vs ns) :
  SndE C d (.cmp2 o1 o2 l m r) (.Compare l' [o1, o2] [m', r'] p) vs ns := by
 intro env A s ρ H Q X ES ea ok fi W
 dsimp only [wpE] at W
 rw [chain2 hs]
 refine wpAny_bind (wpAny_mono (hl env A s ρ H _ X ES ea ok fi W) (fun a s1 hq10 => Vc.xa_2_3 hq10 fun va H1 st1 r1 W1 => ?_) fun zz zz h => h)
 refine wpAny_bind (wpAny_holding (wpAny_mono (hm env A s1 ρ H1 _ X ES ea (ok.step st1) (fi.stepN st1) W1) (fun b s2 hq11 => Vc.xa_2_3 hq11 fun vb H2 st2 r2 W2 => ?_) fun zz zz h => h.back st1))
 have st := st1.trans st2
 refine wpAny_bind (wpAny_standAt (wpAny_bind (wpAny_holding (wpAny_mono (W2 A s2 a b (ok.step st) (r1.keep st2.vk) r2) (fun c s3 hq12 => Vc.xa_2_3 hq12 fun vc H3 st3 r3 W3 => ?_) fun zz zz h => h.back st))))
 have st' := st.trans st3
 refine wpAny_bind (wpAny_release (wpAny_bind (wpAny_holding (wpAny_mono (W3 A s3 c (ok.step st') r3) (fun t s4 hq13 => Vc.xa_1_2 hq13 fun H4 st4 W4 => ?_) fun zz zz h => h.back st'))))
 have st'' := st'.trans st4
 cases t with
 | false => rw [if_neg (by decide)] at W4 ⊢; exact wpAny_pure ⟨vc, H4, st'', r3.keep st4.vk, W4⟩
 | true =>
  rw [if_pos rfl] at W4 ⊢
  refine wpAny_bind (wpAny_holding (wpAny_mono (hr env A s4 ρ H4 _ X ES ea (ok.step st'') (fi.stepN st'') W4) (fun b' s5 hq14 => Vc.xa_2_3 hq14 fun vb' H5 st5 r5 W5 => ?_) fun zz zz h => h.back st''))
  have st5' := st''.trans st5
  exact wpAny_bind (wpAny_standAt (wpAny_operateT (wpAny_mono (W5 A s5 b b' (ok.step st5') ((r2.keep (st3.vk.trans st4.vk)).keep st5.vk) r5) (fun zz zz h => h.back st5') fun zz zz h => h.back st5')))
theorem sndT_cmp2 {o1 o2 : CmpOp} {l m r : Ex} {l' m' r' : Expr} {p : Pos} (hs : notSet r' = true) (hl : SndE C d l l' vs ns) (hm : SndE C d m m' vs ns) (hr : SndE C d r r' vs ns) :
  SndT C d (.cmp2 o1 o2 l m r) (.Compare l' [o1, o2] [m', r'] p) vs ns := by
 intro env A s ρ H Q X ES ea ok fi W
 dsimp only [wpT] at W
 rw [testChain2 hs]
 refine wpAny_bind (wpAny_mono (hl env A s ρ H _ X ES ea ok fi W) (fun a s1 hq15 => Vc.xa_2_3 hq15 fun va H1 st1 r1 W1 => ?_) fun zz zz h => h)
 refine wpAny_bind (wpAny_holding (wpAny_mono (hm env A s1 ρ H1 _ X ES ea (ok.step st1) (fi.stepN st1) W1) (fun b s2 hq16 => Vc.xa_2_3 hq16 fun vb H2 st2 r2 W2 => ?_) fun zz zz h => h.back st1))
 have st := st1.trans st2
 refine wpAny_bind (wpAny_standAt (wpAny_bind (wpAny_holding (wpAny_mono (W2 A s2 a b (ok.step st) (r1.keep st2.vk) r2) (fun c s3 hq17 => Vc.xa_2_3 hq17 fun vc H3 st3 r3 W3 => ?_) fun zz zz h => h.back st))))
 have st' := st.trans st3
 refine wpAny_bind (wpAny_release (wpAny_bind (wpAny_holding (wpAny_mono (W3 A s3 c (ok.step st') r3) (fun t s4 hq18 => Vc.xa_1_2 hq18 fun H4 st4 W4 => ?_) fun zz zz h => h.back st'))))
 have st'' := st'.trans st4
 cases t with
 | false => rw [if_neg (by decide)] at W4 ⊢; exact wpAny_pure ⟨H4, st'', W4⟩
 | true =>
  rw [if_pos rfl] at W4 ⊢
  refine wpAny_bind (wpAny_holding (wpAny_mono (hr env A s4 ρ H4 _ X ES ea (ok.step st'') (fi.stepN st'') W4) (fun b' s5 hq19 => Vc.xa_2_3 hq19 fun vb' H5 st5 r5 W5 => ?_) fun zz zz h => h.back st''))
  have st5' := st''.trans st5
  refine wpAny_bind (wpAny_standAt (wpAny_bind (wpAny_operateT (wpAny_mono (W5 A s5 b b' (ok.step st5') ((r2.keep (st3.vk.trans st4.vk)).keep st5.vk) r5) (fun c' s6 hq20 => Vc.xa_2_3 hq20 fun vc' H6 st6 r6 W6 => ?_) fun zz zz h => h.back st5'))))
  have st6' := st5'.trans st6
  exact wpAny_holding (wpAny_mono (W6 A s6 c' (ok.step st6') r6) (fun b s7 hq21 => Vc.xa_1_2 hq21 fun H7 st7 W7 => ⟨H7, st6'.trans st7, W7⟩) fun zz zz h => h.back st6')
theorem snd_ife {c a b : Ex} {c' a' b' : Expr} {p : Pos} (hc : SndT C d c c' vs ns) (ha : SndE C d a a' vs ns) (hb : SndE C d b b' vs ns) : SndE C d (.ife c a b) (.IfExp c' a' b' p) vs ns := by
 intro env A s ρ H Q X ES ea ok fi W
 dsimp only [wpE] at W
 refine wpAny_IfExp (wpAny_mono (hc env A s ρ H _ X ES ea ok fi W) (fun t s1 hq22 => Vc.xa_1_2 hq22 fun H1 st1 W1 => ?_) fun zz zz h => h)
 cases t with
 | true => rw [if_pos rfl] at W1 ⊢; exact wp_back st1 (ha env A s1 ρ H1 _ X ES ea (ok.step st1) (fi.stepN st1) W1)
 | false => rw [if_neg (by decide)] at W1 ⊢; exact wp_back st1 (hb env A s1 ρ H1 _ X ES ea (ok.step st1) (fi.stepN st1) W1)
theorem new_list {vs' : List V} {cvs : List Value} {Q : V -> MH -> Prop} {E : Value -> Shared -> Prop} (ok : Ok C d H A s) (r : VRs C s.heap vs' cvs) (W : NewL vs' H Q) : wpAny C.M A (newList cvs) (QP C H s Q) E s := by
 have hl := r.length
 refine wpAny_newObj_type ?_ (by show cvs.toArray.size <= sizeLine; simp; have := W.1; omega)
 have hf : H s.heap.objs.size = none := ok.rel.fresh (fresh_size _)
 have k : VK s.heap (s.heap.push { cls := .type "list", data := .seq cvs.toArray }) := .of_keeps fun b o e => Heap.get?_push_of_some _ e
 have st : Step C No H s (upd H s.heap.objs.size (.lst vs')) { s with heap := s.heap.push { cls := .type "list", dict := none, data := .seq cvs.toArray } } :=
  Step.alloc ok.rel ok.top ⟨fresh_top ok.top (fresh_size _), cvs.toArray, ⟨0, Heap.get?_push_size _ rfl⟩, by simpa using r.keep k⟩ rfl rfl rfl
 exact ⟨.ref s.heap.objs.size, _, st, rfl, W.2 _ hf⟩
theorem new_tuple {vs' : List V} {cvs : List Value} {Q : V -> MH -> Prop} {E : Value -> Shared -> Prop} (ok : Ok C d H A s) (r : VRs C s.heap vs' cvs) (W : NewT vs' H Q) : wpAny C.M A (newTuple cvs) (QP C H s Q) E s := by
 have hl := r.length
 refine wpAny_newObj_type ?_ (by show cvs.toArray.size <= sizeLine; simp; have := W.1; omega)
 have st : Step C No H s H { s with heap := s.heap.push { cls := .type "tuple", dict := none, data := .seq cvs.toArray } } := Step.keeps ok.rel ok.top (fun b o e => Heap.get?_push_of_some _ e) rfl rfl
 refine ⟨.tup vs', H, st, ?_, W.2⟩
 dsimp only [VR]
 exact ⟨_, cvs.toArray, ⟨rfl, .of (Heap.get?_push_size _ rfl) rfl⟩, ⟨_, Heap.get?_push_size _ rfl, rfl, 0, rfl⟩, by simpa using r.keep st.vk⟩
theorem snd_lst {es : List Ex} {es' : List Expr} {p : Pos} (he : SndEs C d es es' vs ns) : SndE C d (.lst es) (.List es' p) vs ns := by
 intro env A s ρ H Q X ES ea ok fi W
 dsimp only [wpE] at W
 rw [arm_eval_List]
 refine wpAny_bind (wpAny_standAt (wpAny_bind (wpAny_mono (he env A s ρ H _ X p ES ea ok fi W) (fun cvs s1 hq23 => Vc.xa_2_3 hq23 fun xs H1 st1 r1 W1 => ?_) fun zz zz h => h)))
 exact wpAny_mono (new_list (E := fun zz zz => False) (ok.step st1) r1 W1) (fun zz zz h => h.back st1) fun zz zz h => h.elim
theorem snd_tup {es : List Ex} {es' : List Expr} {k : Nat} {p : Pos} (he : SndEs C d es es' vs ns) : SndE C d (.tup es) (.Tuple es' k p) vs ns := by
 intro env A s ρ H Q X ES ea ok fi W
 dsimp only [wpE] at W
 rw [arm_eval_Tuple]
 refine wpAny_bind (wpAny_standAt (wpAny_bind (wpAny_mono (he env A s ρ H _ X p ES ea ok fi W) (fun cvs s1 hq24 => Vc.xa_2_3 hq24 fun xs H1 st1 r1 W1 => ?_) fun zz zz h => h)))
 exact wpAny_mono (new_tuple (E := fun zz zz => False) (ok.step st1) r1 W1) (fun zz zz h => h.back st1) fun zz zz h => h.elim
theorem not_sys (G : C.Good) (ok : Ok C d H A s) : s.heap.objs.size ≠ sysModules := by
 refine Vc.xa_1_2 G.nolimit fun mc ho180_1 zz => ?_
 obtain ⟨o, _, _, ho, _⟩ := ho180_1
 have := Heap.lt_size (ok.top _ _ ho)
 intro e
 rw [e] at this
 exact absurd this (by decide)
theorem snd_emp {k : Nat} {p : Pos} (G : C.Good) : SndE C d (.emp k) (.Dict [] [] p) vs ns := by
 intro env A s ρ H Q X ES ea ok fi W
 dsimp only [wpE] at W
 refine wpAny_Dict_empty ?_
 have hf : H s.heap.objs.size = none := ok.rel.fresh (fresh_size _)
 have h0 := fresh_top ok.top (fresh_size s.heap)
 have W' := W _ hf
 match k with
 | 0 =>
  refine ⟨.ref s.heap.objs.size, _, Step.alloc (o := .dci []) ok.rel ok.top ⟨h0, not_sys G ok, [], ⟨_, #[], 0, Heap.get?_push_size _ rfl, ⟨rfl, rfl, rfl⟩, rfl, fun zz he => by simp at he, .nil, by simp⟩, rfl, VRs.nil⟩ rfl rfl rfl, rfl, W'⟩
 | 1 =>
  refine ⟨.ref s.heap.objs.size, _, Step.alloc (o := .dcs []) ok.rel ok.top ⟨h0, not_sys G ok, [], ⟨_, #[], 0, Heap.get?_push_size _ rfl, ⟨rfl, rfl, rfl⟩, rfl, fun zz he => by simp at he, .nil, by simp⟩, rfl, VRs.nil⟩ rfl rfl rfl, rfl, W'⟩
 | k + 2 =>
  refine ⟨.ref s.heap.objs.size, _, Step.alloc (o := .prd (dckP [])) ok.rel ok.top ⟨h0, not_sys G ok, [], Heap.DictOfH.new _, rfl⟩ rfl rfl rfl, rfl, W'⟩
end
end Vc
end
section
namespace Vc
open PySem
section
variable {C : Cx} {d : Md} {env : Env} {vs : Vs} {ns : Ns} {ρ : Lo} {H H1 H' : MH} {s s1 s' : Shared} {A : Around} {X : XP} {Q : V -> MH -> Prop}
theorem qp_e {P : Prop} {v : Value} (h : QP C H s Q v s') (k : ∀ r H', Step C No H s H' s' -> VR C s'.heap r v -> Q r H' -> P) : P := h.elim fun r h => h.elim fun H' h => k r H' h.1 h.2.1 h.2.2
theorem sndEs_nil : SndEs C d [] [] vs ns := by
 intro env A s ρ H Q X pos ES ea ok fi W
 dsimp only [wpEs] at W
 exact wpAny_pure ⟨[], H, ok.refl, VRs.nil, W⟩
theorem sndEs_cons {e : Ex} {es : List Ex} {e' : Expr} {es' : List Expr} (hs : ∀ x p, e' ≠ .Starred x p) (he : SndE C d e e' vs ns) (hes : SndEs C d es es' vs ns) : SndEs C d (e :: es) (e' :: es') vs ns := by
 intro env A s ρ H Q X pos ES ea ok fi W
 dsimp only [wpEs] at W
 rw [starEach_cons hs, backTo_cons]
 refine Calls.spliced_cons (wpAny_mono (he env A s ρ H _ X ES ea ok fi W) (fun cv s1 hq1 => Vc.xa_2_3 hq1 fun v H1 st1 r1 W1 => ?_) fun zz zz h => h)
 refine wpAny_mono (hes env A s1 ρ H1 _ X pos ES ea (ok.step st1) (fi.stepN st1) W1) (fun cvs s2 hq2 => Vc.xa_2_3 hq2 fun xs H2 st2 r2 W2 => ?_) fun zz zz h => h.back st1
 exact ⟨v :: xs, H2, st1.trans st2, VRs.cons (r1.keep st2.vk) r2, W2⟩
theorem starEach_false {es : List Ex} : ∀ {es' : List Expr}, chkEs vs ns es es' = true -> ∀ pos, ∀ x ∈ backTo pos (starEach es' env), x.1 = false := by
 induction es with
 | nil => intro es' h pos x; exact iv_nil (P := fun l => x ∈ backTo pos (starEach l env) -> x.1 = false) h fun hx => absurd (show x ∈ ([] : List _) from hx) List.not_mem_nil
 | cons e es ih =>
  intro es' h pos x
  refine iv_cons (P := fun l => x ∈ backTo pos (starEach l env) -> x.1 = false) h fun e1 es1 h1 h2 hx => ?_
  rw [starEach_cons (chk_notStar h1), backTo_cons] at hx
  rcases List.mem_cons.mp hx with rfl | hx
  ·rfl
  ·exact ih h2 pos x hx
theorem snd_call {f : String} {es : List Ex} {es' : List Expr} {id : Str} {q p : Pos} (G : C.Good) (hg : gOk ns f id = true) (hc : chkEs vs ns es es' = true) (he : SndEs C d es es' vs ns) : SndE C d (.call f es) (.Call (.Name id q) es' [] p) vs ns := by
 intro env A s ρ H Q X ES ea ok fi W
 dsimp only [wpE] at W
 refine Vc.xa_0_2 W fun ho36_0 W => ?_
 obtain ⟨fv, gf, cf⟩ := ho36_0
 refine wpAny_Call_Name_kw (load_gl G ES hg ok.top gf ?_)
 refine callWith_any (starEach_false hc p) cf ?_
 refine wpAny_mono (he env A s ρ H _ X p ES ea ok fi W) (fun cvs s1 hq3 => Vc.xa_2_3 hq3 fun xs H1 st1 r1 W1 => ⟨st1.top, ?_⟩) fun zz zz h => h
 rw [List.nil_append]
 exact wp_back st1 (W1 fv gf A s1 cvs (ok.step st1) r1)
theorem base_plain {o : Expr} {a : Str} {env : Env} {t : Sem Value} (h : notSuper o = true) : attributeBase o a env t = t := by
 cases o with
 | Call f args kws p =>
  cases f with
  | Name id q =>
   cases args with
   | nil =>
    cases kws with
    | nil => exact (Bool.false_ne_true h).elim
    | cons _ _ => exact @Eq.refl _ t
   | cons _ _ => exact @Eq.refl _ t
  | _ => exact @Eq.refl _ t
 | _ => exact @Eq.refl _ t
theorem form_true {es : List Ex} {es' : List Expr} {pos : Pos} (hc : chkEs vs ns es es' = true) (hl : es.length < 29) : methodCallForm (es'.length + ([] : List Keyword).length) (backTo pos (starEach es' env)) (backToKw pos (keywordEach [] env)) = true := by
 have h1 : ∀ x ∈ backTo pos (starEach es' env), x.1 = false := starEach_false hc pos
 have hlen : es.length = es'.length := chk_len hc
 unfold methodCallForm
 have h2 : (backTo pos (starEach es' env)).all (fun x => !x.1) = true := List.all_eq_true.mpr fun x hx => by rw [h1 x hx]; rfl
 have h3 : (backToKw pos (keywordEach [] env)) = [] := rfl
 rw [h2, h3]
 simp
 omega
theorem snd_meth {o : Ex} {m : String} {es : List Ex} {o' : Expr} {ap p : Pos} {es' : List Expr} (hap : (ap.endLine == p.line) = true) (hl : es.length < 29) (hsup : notSuper o' = true) (hc : chkEs vs ns es es' = true)
  (ho : SndE C d o o' vs ns) (he : SndEs C d es es' vs ns) : SndE C d (.meth o m es) (.Call (.Attribute o' (Str.ofString m) ap) es' [] p) vs ns := by
 intro env A s ρ H Q X ES ea ok fi W
 dsimp only [wpE] at W
 rw [arm_eval_Call, base_plain hsup]
 refine wpAny_bind (wpAny_mono (ho env A s ρ H _ X ES ea ok fi W) (fun co s1 hzz => qp_e hzz fun ov H1 st1 r1 hzw => ?_) fun zz zz h => h)
 refine Vc.xa_1_3 hzw fun fv mg cf W1 => ?_
 try clear hzw
 refine wpAny_bind (wpAny_standAt ?_)
 unfold methodCall
 rw [form_true hc hl]
 refine wpAny_bind (wpAny_holding ?_)
 unfold calleeOf
 rw [if_pos rfl]
 refine mg A s1 co _ _ _ (ok.step st1) r1 ?_
 refine wpAny_bind ?_
 unfold methodCallPos
 rw [hap]
 simp only [Bool.or_true, if_true]
 refine wpAny_pure ?_
 refine callWith_any (starEach_false hc p) cf ?_
 refine wpAny_mono (he env A s1 ρ H1 _ X p ES ea (ok.step st1) (fi.stepN st1) W1) (fun cvs s2 hq4 => Vc.xa_2_3 hq4 fun xs H2 st2 r2 W2 => ⟨st2.top, ?_⟩) fun zz zz h => h.back st1
 have st := st1.trans st2
 exact wp_back st (W2 A s2 (co :: cvs) (ok.step st) (VRs.cons (r1.keep st2.vk) r2))
theorem snd_att {o : Ex} {a : String} {o' : Expr} {p : Pos} (hsup : notSuper o' = true) (ho : SndE C d o o' vs ns) : SndE C d (.att o a) (.Attribute o' (Str.ofString a) p) vs ns := by
 intro env A s ρ H Q X ES ea ok fi W
 dsimp only [wpE] at W
 rw [arm_eval_Attribute, base_plain hsup]
 refine wpAny_bind (wpAny_mono (ho env A s ρ H _ X ES ea ok fi W) (fun co s1 hzz => qp_e hzz fun ov H1 st1 r1 W1 => ?_) fun zz zz h => h)
 refine wpAny_bind (wpAny_standAt (wpAny_bind (wpAny_holding (wpAny_mono (W1 A s1 co (ok.step st1) r1) (fun cr s2 h2 => ?_) fun zz zz h => h.back st1))))
 exact wpAny_bind (wpAny_letTemporaryGo (wpAny_pure (h2.back st1)))
theorem sub_plain {i : Expr} {o iv : Value} (h : notSlice i = true) : subscripted i false o iv = operate [o, iv] (getItem o iv) := by
 cases i <;> first | rfl | (exact (Bool.false_ne_true h).elim)
theorem snd_sub {o i : Ex} {o' i' : Expr} {p : Pos} (hn : notSlice i' = true) (ho : SndE C d o o' vs ns) (hi : SndE C d i i' vs ns) : SndE C d (.sub o i) (.Subscript o' i' p) vs ns := by
 intro env A s ρ H Q X ES ea ok fi W
 dsimp only [wpE] at W
 rw [arm_eval_Subscript]
 refine wpAny_bind (wpAny_mono (ho env A s ρ H _ X ES ea ok fi W) (fun co s1 hzz => qp_e hzz fun ov H1 st1 r1 W1 => ?_) fun zz zz h => h)
 refine wpAny_bind (wpAny_holding (wpAny_mono (hi env A s1 ρ H1 _ X ES ea (ok.step st1) (fi.stepN st1) W1) (fun ci s2 hzz => qp_e hzz fun iv H2 st2 r2 W2 => ?_) fun zz zz h => h.back st1))
 have st := st1.trans st2
 refine Vc.xa_0_2 (W2 A s2 co ci (ok.step st) (r1.keep st2.vk) r2) fun g1 g2 => ?_
 refine wpAny_bind (wpAny_standAt (wpAny_bind (wpAny_mono g1 (fun b s3 ⟨hb, hs⟩ => ?_) fun zz zz h => h.elim)))
 subst hb hs
 rw [sub_plain hn]
 refine wpAny_bind (wpAny_operateT (wpAny_mono g2 (fun cr s4 h4 => ?_) fun zz zz h => h.back st))
 exact wpAny_bind (wpAny_letTemporaryGo (wpAny_pure (h4.back st)))
noncomputable def SndO (C : Cx) (d : Md) (e : Ex) (e' : Option Expr) (vs : Vs) (ns : Ns) : Prop :=
 ∀ env A s ρ H Q X, EnvS env vs ns -> EA A env -> Ok C d H A s -> FI C env vs ρ H s.heap -> wpE C d e ρ H Q X -> wpAny C.M A (valueOrNone (evalOpt e' env)) (QP C H s Q) (XQ false C No H s X) s
theorem sndO_none : SndO C d .cn none vs ns := by
 intro env A s ρ H Q X ES ea ok fi W
 dsimp only [wpE] at W
 exact wpAny_pure ⟨.none, H, ok.refl, rfl, W⟩
theorem snd_sli {o l u t : Ex} {o' : Expr} {l' u' t' : Option Expr} {q p : Pos} (ho : SndE C d o o' vs ns) (hl : SndO C d l l' vs ns) (hu : SndO C d u u' vs ns) (ht : SndO C d t t' vs ns) :
  SndE C d (.sli o l u t) (.Subscript o' (.Slice l' u' t' q) p) vs ns := by
 intro env A s ρ H Q X ES ea ok fi W
 dsimp only [wpE] at W
 rw [arm_eval_Subscript, arm_eval_Slice]
 refine wpAny_bind (wpAny_mono (ho env A s ρ H _ X ES ea ok fi W) (fun co s1 hzz => qp_e hzz fun ov H1 st1 r1 W1 => ?_) fun zz zz h => h)
 refine wpAny_bind (wpAny_holding (wpAny_bind (wpAny_mono (hl env A s1 ρ H1 _ X ES ea (ok.step st1) (fi.stepN st1) W1) (fun cl s2 hzz => qp_e hzz fun lv H2 st2 r2 W2 => ?_) fun zz zz h => h.back st1)))
 have stb := st1.trans st2
 refine wpAny_bind (wpAny_holding (wpAny_mono (hu env A s2 ρ H2 _ X ES ea (ok.step stb) (fi.stepN stb) W2) (fun cu s3 hzz => qp_e hzz fun uv H3 st3 r3 W3 => ?_) fun zz zz h => h.back stb))
 have stc := stb.trans st3
 refine wpAny_bind (wpAny_holding (wpAny_mono (ht env A s3 ρ H3 _ X ES ea (ok.step stc) (fi.stepN stc) W3) (fun ct s4 hzz => qp_e hzz fun tv H4 st4 r4 W4 => ?_) fun zz zz h => h.back stc))
 have std := stc.trans st4
 have okd := ok.step std
 unfold newFields
 refine wpAny_newObj_type ?_ (by size_fits)
 have ste : Step C No H4 s4 H4 { s4 with heap := s4.heap.push { cls := .type "slice", dict := none, data := .fields [cl, cu, ct].toArray } } := Step.keeps okd.rel okd.top (fun b o e => Heap.get?_push_of_some _ e) rfl rfl
 have st := std.trans ste
 refine Vc.xa_0_2 (W4 A _ co cl cu ct s4.heap.objs.size (ok.step st) ((((r1.keep st2.vk).keep st3.vk).keep st4.vk).keep ste.vk) (((r2.keep st3.vk).keep st4.vk).keep ste.vk) ((r3.keep st4.vk).keep ste.vk) (r4.keep ste.vk) (Heap.get?_push_size _ rfl)) fun g1 g2 => ?_
 refine wpAny_bind (wpAny_standAt (wpAny_bind (wpAny_mono g1 (fun b s5 ⟨hb, hs⟩ => ?_) fun zz zz h => h.elim)))
 subst hb hs
 have key : ∀ (t' : Option Expr) (o iv : Value), ∃ l, subscripted (.Slice l' u' t' q) false o iv = operate l (getItem o iv) := fun t' o iv => by
  cases t' <;> exact ⟨_, rfl⟩
 refine Vc.xa_1_1 (key t' co (.ref s4.heap.objs.size)) fun l0 e0 => ?_
 rw [e0]
 refine wpAny_bind (wpAny_operateT (wpAny_mono g2 (fun cr s6 h6 => ?_) fun zz zz h => h.back st))
 exact wpAny_bind (wpAny_letTemporaryGo (wpAny_pure (h6.back st)))
noncomputable def SndB (C : Cx) (d : Md) (op : BoolOp) (es : List Ex) (es' : List Expr) (vs : Vs) (ns : Ns) : Prop :=
 ∀ env A s ρ H Q X pos, EnvS env vs ns -> EA A env -> Ok C d H A s -> FI C env vs ρ H s.heap -> wpB C d op es ρ H Q X -> wpAny C.M A (boolOp pos op (evalEach es' env)) (QP C H s Q) (XQ false C No H s X) s
theorem sndB_one {op : BoolOp} {e : Ex} {e' : Expr} (h : SndE C d e e' vs ns) : SndB C d op [e] [e'] vs ns := by
 intro env A s ρ H Q X pos ES ea ok fi W
 dsimp only [wpB] at W
 exact h env A s ρ H Q X ES ea ok fi W
theorem sndB_more {op : BoolOp} {e e2 : Ex} {es : List Ex} {e' e2' : Expr} {es' : List Expr} (h : SndE C d e e' vs ns) (hs : SndB C d op (e2 :: es) (e2' :: es') vs ns) : SndB C d op (e :: e2 :: es) (e' :: e2' :: es') vs ns := by
 intro env A s ρ H Q X pos ES ea ok fi W
 dsimp only [wpB] at W
 ·show wpAny C.M A (do
   let v <- eval e' env
   standAt pos
   let t <- holding [v] (truthy v)
   match op, t with
   | .And, false | .Or, true => pure v
   | _, _ => boolOp pos op (evalEach (e2' :: es') env)) _ _ s
  refine wpAny_bind (wpAny_mono (h env A s ρ H _ X ES ea ok fi W) (fun cv s1 hq5 => Vc.xa_2_3 hq5 fun v H1 st1 r1 W1 => ?_) fun zz zz h => h)
  refine wpAny_bind (wpAny_standAt (wpAny_bind (wpAny_holding (wpAny_mono (W1 A s1 cv (ok.step st1) r1) (fun t s2 hq6 => Vc.xa_1_2 hq6 fun H2 st2 W2 => ?_) fun zz zz h => h.back st1))))
  have st := st1.trans st2
  cases op <;> cases t <;> simp at W2
  ·exact wpAny_pure ⟨v, H2, st, r1.keep st2.vk, W2⟩
  ·exact wp_back st (hs env A s2 ρ H2 Q X pos ES ea (ok.step st) (fi.stepN st) W2)
  ·exact wp_back st (hs env A s2 ρ H2 Q X pos ES ea (ok.step st) (fi.stepN st) W2)
  ·exact wpAny_pure ⟨v, H2, st, r1.keep st2.vk, W2⟩
noncomputable def SndA (C : Cx) (d : Md) (op : BoolOp) (es : List Ex) (es' : List Expr) (vs : Vs) (ns : Ns) : Prop :=
 ∀ env A s ρ H (Q : Bool -> MH -> Prop) X, EnvS env vs ns -> EA A env -> Ok C d H A s -> FI C env vs ρ H s.heap -> wpA C d op es ρ H Q X -> wpAny C.M A (allTrue op es' env) (fun b s' => ∃ H', Step C No H s H' s' /\ Q b H') (XQ false C No H s X) s
theorem sndA_nil {op : BoolOp} : SndA C d op [] [] vs ns := by
 intro env A s ρ H Q X ES ea ok fi W
 dsimp only [wpA] at W
 show wpAny C.M A (pure (op == .And)) _ _ s
 refine wpAny_pure ⟨H, ok.refl, ?_⟩
 cases op <;> exact W
theorem sndA_cons {op : BoolOp} {e : Ex} {es : List Ex} {e' : Expr} {es' : List Expr} (h : SndT C d e e' vs ns) (hs : SndA C d op es es' vs ns) : SndA C d op (e :: es) (e' :: es') vs ns := by
 intro env A s ρ H Q X ES ea ok fi W
 dsimp only [wpA] at W
 show wpAny C.M A (do
  match op, <- isTrue e' env (eval e' env) with
  | .And, false => pure false
  | .Or, true => pure true
  | _, _ => allTrue op es' env) _ _ s
 refine wpAny_bind (wpAny_mono (h env A s ρ H _ X ES ea ok fi W) (fun t s1 hq7 => Vc.xa_1_2 hq7 fun H1 st1 W1 => ?_) fun zz zz h => h)
 have nx : wpA C d op es ρ H1 Q X -> wpAny C.M A (allTrue op es' env) (fun b s' => ∃ H', Step C No H s H' s' /\ Q b H') (XQ false C No H s X) s1 := fun W1 =>
  wpAny_mono (hs env A s1 ρ H1 Q X ES ea (ok.step st1) (fi.stepN st1) W1) (fun b s2 hq8 => Vc.xa_1_2 hq8 fun H2 st2 W2 => ⟨H2, st1.trans st2, W2⟩) fun zz zz h => h.back st1
 cases op <;> cases t <;> simp at W1
 ·exact wpAny_pure ⟨H1, st1, W1⟩
 ·exact nx W1
 ·exact nx W1
 ·exact wpAny_pure ⟨H1, st1, W1⟩
noncomputable def SndTs (C : Cx) (d : Md) (es : List Ex) (es' : List Expr) (vs : Vs) (ns : Ns) : Prop :=
 ∀ env A s ρ H (Q : Bool -> MH -> Prop) X, EnvS env vs ns -> EA A env -> Ok C d H A s -> FI C env vs ρ H s.heap -> wpTs C d es ρ H Q X -> wpAny C.M A (testsOf es' env) (fun b s' => ∃ H', Step C No H s H' s' /\ Q b H') (XQ false C No H s X) s
theorem sndTs_nil : SndTs C d [] [] vs ns := by
 intro env A s ρ H Q X ES ea ok fi W
 dsimp only [wpTs] at W
 exact wpAny_pure ⟨H, ok.refl, W⟩
theorem tests_false {es' : List Expr} {P : Bool -> Shared -> Prop} {E : Value -> Shared -> Prop} (h : P false s) :
  wpAny C.M A (forIn es' false fun c r => if r = true then do let ok <- isTrue c env (eval c env); pure (ForInStep.yield ok) else pure (ForInStep.yield r)) P E s := by
 induction es' with
 | nil => exact wpAny_pure h
 | cons e es ih =>
  rw [List.forIn_cons]
  simp only [Bool.false_eq_true, if_false]
  exact wpAny_bind (wpAny_pure ih)
theorem sndTs_cons {e : Ex} {es : List Ex} {e' : Expr} {es' : List Expr} (h : SndT C d e e' vs ns) (hs : SndTs C d es es' vs ns) : SndTs C d (e :: es) (e' :: es') vs ns := by
 intro env A s ρ H Q X ES ea ok fi W
 dsimp only [wpTs] at W
 unfold testsOf
 rw [List.forIn_cons]
 simp only [if_true]
 refine wpAny_bind (wpAny_bind (wpAny_mono (h env A s ρ H _ X ES ea ok fi W) (fun t s1 hq9 => Vc.xa_1_2 hq9 fun H1 st1 W1 => ?_) fun zz zz h => h))
 refine wpAny_pure ?_
 cases t with
 | true =>
  rw [if_pos rfl] at W1
  exact wpAny_mono (hs env A s1 ρ H1 Q X ES ea (ok.step st1) (fi.stepN st1) W1) (fun b s2 hq10 => Vc.xa_1_2 hq10 fun H2 st2 W2 => ⟨H2, st1.trans st2, W2⟩) fun zz zz h => h.back st1
 | false =>
  rw [if_neg (by decide)] at W1
  exact tests_false ⟨H1, st1, W1⟩
theorem sndT_not {e : Ex} {e' : Expr} {p : Pos} (h : SndT C d e e' vs ns) : SndT C d (.una .Not e) (.UnaryOp .Not e' p) vs ns := by
 intro env A s ρ H Q X ES ea ok fi W
 dsimp only [wpT] at W
 exact wpAny_isTrue_Not (wpAny_mono (h env A s ρ H _ X ES ea ok fi W) (fun b s1 hq11 => Vc.xa_1_2 hq11 fun H1 st1 W1 => ⟨H1, st1, W1⟩) fun zz zz h => h)
theorem sndT_bop {op : BoolOp} {es : List Ex} {es' : List Expr} {p : Pos} (h : SndA C d op es es' vs ns) : SndT C d (.bop op es) (.BoolOp op es' p) vs ns := by
 intro env A s ρ H Q X ES ea ok fi W
 dsimp only [wpT] at W
 exact wpAny_isTrue_BoolOp (h env A s ρ H _ X ES ea ok fi W)
theorem sndT_ife {c a b : Ex} {c' a' b' : Expr} {p : Pos} (hc : SndT C d c c' vs ns) (ha : SndT C d a a' vs ns) (hb : SndT C d b b' vs ns) : SndT C d (.ife c a b) (.IfExp c' a' b' p) vs ns := by
 intro env A s ρ H Q X ES ea ok fi W
 dsimp only [wpT] at W
 show wpAny C.M A (do if <- isTrue c' env (eval c' env) then isTrue a' env (eval a' env) else isTrue b' env (eval b' env)) _ _ s
 refine wpAny_bind (wpAny_mono (hc env A s ρ H _ X ES ea ok fi W) (fun t s1 hq12 => Vc.xa_1_2 hq12 fun H1 st1 W1 => ?_) fun zz zz h => h)
 cases t with
 | true => rw [if_pos rfl] at W1 ⊢; exact wpAny_mono (ha env A s1 ρ H1 _ X ES ea (ok.step st1) (fi.stepN st1) W1) (fun b s2 hq13 => Vc.xa_1_2 hq13 fun H2 st2 W2 => ⟨H2, st1.trans st2, W2⟩) fun zz zz h => h.back st1
 | false => rw [if_neg (by decide)] at W1 ⊢; exact wpAny_mono (hb env A s1 ρ H1 _ X ES ea (ok.step st1) (fi.stepN st1) W1) (fun b s2 hq14 => Vc.xa_1_2 hq14 fun H2 st2 W2 => ⟨H2, st1.trans st2, W2⟩) fun zz zz h => h.back st1
theorem sndT_val {e : Ex} {e' : Expr} (he : isTrue e' = fun env whole => (do let v <- whole; standAt e'.pos; holding [v] (truthy v))) (hw : ∀ ρ H Q X, wpT C d e ρ H Q X = wpE C d e ρ H (fun v H1 => TruW C d v H1 Q X) X) (h : SndE C d e e' vs ns) : SndT C d e e' vs ns := by
 intro env A s ρ H Q X ES ea ok fi W
 rw [hw] at W
 refine wpAny_isTrue_value ?_ (by rw [he])
 refine wpAny_mono (h env A s ρ H _ X ES ea ok fi W) (fun cv s1 hq15 => Vc.xa_2_3 hq15 fun v H1 st1 r1 W1 => ?_) fun zz zz h => h
 exact wpAny_mono (W1 A s1 cv (ok.step st1) r1) (fun b s2 hq16 => Vc.xa_1_2 hq16 fun H2 st2 W2 => ⟨H2, st1.trans st2, W2⟩) fun zz zz h => h.back st1
end
end Vc
end
section
namespace Vc
open PySem
section
variable {C : Cx} {d : Md} {env : Env} {vs : Vs} {ns : Ns} {ρ : Lo} {H H1 H' : MH} {s s1 s' : Shared} {A : Around} {X : XP} {Q : V -> MH -> Prop}
noncomputable def AllE (C : Cx) (d : Md) (vs : Vs) (ns : Ns) : List Ex -> List Expr -> Prop
 | [], [] => True
 | e :: es, e' :: es' => SndE C d e e' vs ns /\ AllE C d vs ns es es'
 | _, _ => False
noncomputable def AllT (C : Cx) (d : Md) (vs : Vs) (ns : Ns) : List Ex -> List Expr -> Prop
 | [], [] => True
 | e :: es, e' :: es' => SndT C d e e' vs ns /\ AllT C d vs ns es es'
 | _, _ => False
theorem AllE.es : ∀ {es : List Ex} {es' : List Expr}, chkEs vs ns es es' = true -> AllE C d vs ns es es' -> SndEs C d es es' vs ns
 | [], [], _, _ => sndEs_nil
 | e :: es, e' :: es', h, a => by
  have h := Bool.and_eq_true_iff.mp (show (chkE vs ns e e' && chkEs vs ns es es') = true from h)
  exact sndEs_cons (chk_notStar h.1) a.1 (a.2.es h.2)
 | [], _ :: _, _, a => a.elim
 | _ :: _, [], _, a => a.elim
theorem AllE.b {op : BoolOp} : ∀ {es : List Ex} {es' : List Expr}, AllE C d vs ns es es' -> SndB C d op es es' vs ns
 | [], [], _ => by intro env A s ρ H Q X pos ES ea ok fi W; dsimp only [wpB] at W; exact W.elim
 | [_], [_], a => sndB_one a.1
 | _ :: e2 :: es, _ :: e2' :: es', a => sndB_more a.1 (AllE.b (es := e2 :: es) (es' := e2' :: es') a.2)
 | [], _ :: _, a => a.elim
 | _ :: _, [], a => a.elim
 | [_], _ :: _ :: _, a => a.2.elim
 | _ :: _ :: _, [_], a => a.2.elim
theorem AllT.a {op : BoolOp} : ∀ {es : List Ex} {es' : List Expr}, AllT C d vs ns es es' -> SndA C d op es es' vs ns
 | [], [], _ => sndA_nil
 | _ :: _, _ :: _, a => sndA_cons a.1 a.2.a
 | [], _ :: _, a => a.elim
 | _ :: _, [], a => a.elim
theorem AllT.ts : ∀ {es : List Ex} {es' : List Expr}, AllT C d vs ns es es' -> SndTs C d es es' vs ns
 | [], [], _ => sndTs_nil
 | _ :: _, _ :: _, a => sndTs_cons a.1 a.2.ts
 | [], _ :: _, a => a.elim
 | _ :: _, [], a => a.elim
theorem Step.adopt {a : Addr} {o : O} (x : Step C No H s H' s') (hn : s.heap.get? a = none) (ho : OR C s'.heap a o) : Step C No H s (upd H' a o) s' where
 rel := fun b ob e => by
  by_cases q : b = a
  ·subst q; rw [upd_self] at e; cases e; exact ho
  ·rw [upd_ne q] at e; exact x.rel b ob e
 chg := x.chg
 top := x.top
 dom := fun b e => by
  by_cases q : b = a
  ·subst q; rw [upd_self]; rfl
  ·rw [upd_ne q]; exact x.dom b e
 new := fun b e => by
  by_cases q : b = a
  ·subst q; exact .inr hn
  ·rw [upd_ne q] at e; exact x.new b e
 dn := fun zz f => f.elim
 vk := x.vk
 gens := x.gens
 os := x.os
theorem folded {it' : Expr} {x : Value} (h : notSet it' = true) : foldedSetIterable it' env x = pure x := by
 cases it' <;> first | rfl | (exact (Bool.false_ne_true h).elim)
theorem Step.after {Cn : Addr} {Hc : MH} {D : Addr -> Prop} {h' : Heap} (st : Step C D H1 s1 Hc s') (hC : s1.heap.get? Cn = none) (hHC : Hc Cn = none) (top1 : C.h0.StaysIn s1.heap)
  (hl : ∀ o, s'.heap.get? Cn = some o -> Loose o) (sb : Heap.SameBut Cn s'.heap h') : Step C D H1 s1 Hc { s' with heap := h' } := by
 have vs : VS s'.heap h' := ⟨fun b o e so => (sb.2 b fun q => (hl o (q ▸ e)).not_solid so).trans e, fun b o ws r e c dd => ⟨o, ws, (sb.2 b fun q => (hl o (q ▸ e)).not_exc c dd).trans e, ⟨rfl, rfl⟩, dd, rfl⟩⟩
 have old : ∀ b o, s1.heap.get? b = some o -> b ≠ Cn := fun b o e q => by rw [q, hC] at e; cases e
 refine ⟨fun b o e => ?_, fun b o e n nd => ?_, fun b o e => ?_, st.dom, st.new, st.dn, ⟨fun b o e so => ?_, fun b o ws r e c dd => ?_, fun b o es ep e dd => ?_⟩, st.gens, st.os⟩
 ·exact (st.rel b o e).keepS vs fun ob w => (sb.2 b fun q => by rw [q, hHC] at e; cases e).trans w
 ·refine Vc.xa_1_2 (st.chg b o e n nd) fun sl w q => ?_
  exact ⟨sl, (sb.2 b (old b o e)).trans w, q⟩
 ·exact (sb.2 b (old b o (top1 b o e))).trans (st.top b o e)
 ·exact (sb.2 b (old b o e)).trans (st.vk.solid b o e so)
 ·refine Vc.xa_2_2 (st.vk.exc b o ws r e c dd) fun o' ws' w r' => ?_
  exact ⟨o', ws', (sb.2 b (old b o e)).trans w, r'⟩
 ·refine Vc.xa_3_2 (st.vk.dct b o es ep e dd) fun o' es' ep' w r' => ?_
  exact ⟨o', es', ep', (sb.2 b (old b o e)).trans w, r'⟩
theorem di_new {I Dl Cn : Addr} (h1 : s1.heap.get? I = none) (h2 : s1.heap.get? Dl = none) (h3 : s1.heap.get? Cn = none) : ∀ b, DI I Dl Cn b -> s1.heap.get? b = none := fun b hb => by
 rcases hb with rfl | rfl | rfl
 ·exact h1
 ·exact h2
 ·exact h3
theorem Step.shed {D : Addr -> Prop} (st : Step C D H s H' s') (hD : ∀ b, D b -> s.heap.get? b = none) : Step C No H s H' s' := st.narrow (fun zz f => f.elim) fun b hb => .inr (hD b hb)
theorem ns_loose {h : Heap} {Cn : Addr} {m : Str -> Option Value} (hm : h.Ns Cn m) : ∀ o, h.get? Cn = some o -> Loose o := fun o e => by
 refine Vc.xa_3_3 hm fun o' es ep ho hd zz => ?_
 try clear hm
 rw [ho] at e
 cases e
 exact .inl ⟨es, ep, hd⟩
theorem vs_but {h h' : Heap} {Cn : Addr} (hlo : ∀ o, h.get? Cn = some o -> Loose o) (sb : Heap.SameBut Cn h h') : VS h h' :=
 ⟨fun b o e so => (sb.2 b fun q => (hlo o (q ▸ e)).not_solid so).trans e, fun b o ws r e c dd => ⟨o, ws, (sb.2 b fun q => (hlo o (q ▸ e)).not_exc c dd).trans e, ⟨rfl, rfl⟩, dd, rfl⟩⟩
theorem comp_bad {I Dl Cn : Addr} {e : Value} (ok1 : Ok C d H1 A s1) (hI : s1.heap.get? I = none) (hDl : s1.heap.get? Dl = none) (hCn : s1.heap.get? Cn = none)
  (x : XG true C (DI I Dl Cn) H1 s1 (fun c H h => X c H /\ H Cn = none /\ ∃ m, h.Ns Cn m) e s') : ∃ m, s'.heap.Ns Cn m /\ ∀ h', Heap.SameBut Cn s'.heap h' -> XQ true C No H1 s1 X e { s' with heap := h' } := by
 obtain ⟨a, c, Hc, rfl, st, hD, fl, hX, hcC, m, hm⟩ := x
 refine ⟨m, hm, fun h' sb => ?_⟩
 have st' := (st.after hCn hcC ok1.top (ns_loose hm) sb).shed (di_new hI hDl hCn)
 have hne : ∀ b o, s'.heap.get? b = some o -> (∃ vs, o.data = .fields vs) -> b ≠ Cn := fun b o e ⟨vs, hv⟩ q => by
  refine Vc.xa_3_3 hm fun o' es ep ho hd zz => ?_
  try clear hm
  rw [q, ho] at e
  cases e
  rw [hd] at hv
  cases hv
 have fl' : Fly C true s1 a c h' := ⟨fl.no⟩
 exact ⟨a, c, Hc, rfl, st', fun zz f => f.elim, fl', hX⟩
theorem FI.closed (fi : FI C env vs ρ H s.heap) {l : Ns} (hfr : ∀ x ∈ l, x.2 = .free -> (x.1, Vk.cel) ∈ vs) : ∀ x ∈ l, x.2 = .free -> (env.cells.lookup x.1).isSome = true := fun x hx e => by
 refine Vc.xa_1_1 (List.mem_iff_getElem?.mp (hfr x hx e)) fun i hi => ?_
 refine Vc.xa_2_2 (fi.cel i x.1 hi) fun c oc h1 zz => ?_
 rw [h1]; rfl
theorem snd_comp {elt it : Ex} {ifs : List Ex} {elt' it' t' : Expr} {ifs' : List Expr} {sc : Scope} {p : Pos} {tg : List Str} (ht : tgt? t' = some tg) (hl : ∀ x ∈ tg, sc.names.lookup x = some .local) (nd : tg.Nodup) (hk : sc.kind = .function)
  (hnc : ∀ x ∈ sc.names, x.2 ≠ .cell) (hnl : ∀ x ∈ sc.names, x.2 = .local -> sc.names.lookup x.1 = some .local) (hfr : ∀ x ∈ sc.names, x.2 = .free -> (x.1, Vk.cel) ∈ vs) (hns : notSet it' = true)
  (hit : SndE C d it it' vs ns) (hE : SndE C d elt elt' (innerVs vs (relab sc.names ns) tg) (relab sc.names ns)) (hT : SndTs C d ifs ifs' (innerVs vs (relab sc.names ns) tg) (relab sc.names ns)) :
  SndE C d (.comp tg.length elt it ifs) (.ListComp elt' [⟨t', it', ifs', 0⟩] sc p) vs ns := by
 intro env A s ρ H Q X ES ea ok fi W
 dsimp only [wpE] at W
 have hf := fi.closed hfr
 rw [eval_ListComp]
 refine wpAny_comprehension_free (use := none) rfl (fun x => folded hns) (closure_of hf) hk hnl ?_
 refine wpAny_mono (hit env A s ρ H _ X ES ea ok fi W) (fun civ s1 hzz => qp_e hzz fun iv H1 st1 r1 hzw => ?_) fun zz zz h => h
 refine Vc.xa_1_4 hzw fun all hq hi hsz W1 => ?_
 try clear hzw
 have ok1 := ok.step st1
 refine iter_of ok1 hq r1 hi fun I s2 st2 hI hit2 => ?_
 refine comp_core (E := XQ false C No H s X) ES ea ok1 (fi.stepN st1) ht hl nd hk hnc hf (fun env' s H ρ' Q e1 e2 e3 e4 w => hT env' A s ρ' H Q X e1 e2 e3 e4 w) (fun env' s H ρ' Q e1 e2 e3 e4 w => hE env' A s ρ' H Q X e1 e2 e3 e4 w) hq hsz W1 st2 hI hit2
  (fun Dl Cn s' av Hc items st hDl hCn hDC hcD hcC pl rs hm hK => ?_) (fun Dl Cn s' e hDl hCn x => ?_)
 ·refine Vc.xa_1_1 hm fun m hm => ?_
  refine ⟨m, hm, fun h' sb => ?_⟩
  have hlo := ns_loose hm
  have st' := (st.after hCn hcC ok1.top hlo sb).shed (di_new hI hDl hCn)
  have pl' : h'.PlainList Dl items := pl.at fun o e => (sb.2 Dl hDC).trans e
  exact ⟨.ref Dl, upd Hc Dl (.lst av), st1.trans (st'.adopt hDl ⟨fresh_top ok1.top hDl, items, pl', rs.keepS (vs_but hlo sb)⟩), rfl, hK.2 Dl hcD⟩
 ·exact (comp_bad ok1 hI hDl hCn x).imp fun m y => ⟨y.1, fun h' sb cenv' hcl => passing stX_up ok1 (y.2 h' sb) fun s'' x'' => (XG.mono x'').back st1⟩
end
end Vc
end
section
namespace Vc
open PySem
section
variable {C : Cx} {d : Md} {env : Env} {vs : Vs} {ns : Ns} {ρ : Lo} {H H1 H' : MH} {s s1 s' : Shared} {A : Around} {X : XP} {Q : V -> MH -> Prop}
theorem chkK_e {P : List (Option Expr) -> Prop} {k : String} {ks : List String} {ks0 : List (Option Expr)} (h : chkK (k :: ks) ks0 = true) (q : ∀ c p r, chkK ks r = true -> P (some (.Constant (.str (Str.ofString k)) c p) :: r)) : P ks0 :=
 pC_e h fun o r h => pO_e (P := fun o => P (o :: r)) h fun e h => pCst_e (P := fun e => P (some e :: r)) h fun v c p h => dc_e' (P := fun v => P (some (.Constant v c p) :: r)) (and_l h) (q c p r (and_r h))
theorem chkK_len : ∀ {ks : List String} {ks' : List (Option Expr)}, chkK ks ks' = true -> ks.length = ks'.length /\ ks'.all (·.isSome) = true
 | [], _, h => em_e (P := fun l : List (Option Expr) => 0 = l.length /\ l.all (·.isSome) = true) h ⟨rfl, rfl⟩
 | _ :: _, _, h => chkK_e (P := fun l : List (Option Expr) => _ + 1 = l.length /\ l.all (·.isSome) = true) h fun zz zz zz h => ⟨congrArg (· + 1) (chkK_len h).1, (chkK_len h).2⟩
noncomputable def KeyRow : List String -> List Value -> Prop
 | [], [] => True
 | k :: ks, v :: vs => (∃ t, v = .str (Str.ofString k) t) /\ KeyRow ks vs
 | _, _ => False
noncomputable def SW (C : Cx) (A : Around) (env : Env) (H : MH) (s : Shared) (Q : V -> MH -> Prop) (E : Value -> Shared -> Prop) (e' : Expr) : Prop :=
 wpAny C.M A (eval e' env) (fun v s' => ∃ r H', Step C No H s H' s' /\ VR C s'.heap r v /\ Q r H' /\ ∀ b o, s.heap.get? b = some o -> s'.heap.get? b = some o) E s
theorem sw_emp {p : Pos} {E : Value -> Shared -> Prop} (ok : Ok C d H A s) (W : NewL [] H Q) : SW C A env H s Q E (.List [] p) := by
 unfold SW
 rw [arm_eval_List]
 refine wpAny_bind (wpAny_standAt (wpAny_bind (Calls.spliced_nil ?_)))
 refine wpAny_newObj_type ?_ (by size_fits)
 have hf : H s.heap.objs.size = none := ok.rel.fresh (fresh_size _)
 exact ⟨.ref s.heap.objs.size, _, Step.alloc (o := .lst []) ok.rel ok.top ⟨fresh_top ok.top (fresh_size _), #[], ⟨0, Heap.get?_push_size _ rfl⟩, VRs.nil⟩ rfl rfl rfl, by dsimp only [VR], W.2 _ hf, fun b o e => Heap.get?_push_of_some _ e⟩
theorem sw_int {i : Int} {k : Nat} {p : Pos} {E : Value -> Shared -> Prop} (ok : Ok C d H A s) (W : Q (.int i) H) : SW C A env H s Q E (.Constant (.int i) k p) := by
 unfold SW
 rw [arm_eval_Constant]
 exact wpAny_mkInt ⟨.int i, H, ok.toks _, by dsimp only [VR]; exact ⟨_, rfl⟩, W, fun zz zz e => e⟩
theorem simple_walk {e : Ex} {e' : Expr} {Q : V -> MH -> Prop} {E : Value -> Shared -> Prop} (hs : simpE e = true) (hc : chkE vs ns e e' = true) (ES : EnvS env vs ns) (ok : Ok C d H A s) (fi : FI C env vs ρ H s.heap) (W : wpE C d e ρ H Q X) :
  SW C A env H s Q E e' := by
 cases e with
 | nm i =>
  refine Vc.xa_1_2 W fun v l w => ?_
  try clear W
  exact iv_nm (P := SW C A env H s Q E) hc fun id p h1 h2 => wpAny_Name (load_nm ES fi h1 l fun cv r => ⟨v, H, ok.refl, r, w, fun zz zz e => e⟩) h2
 | ci i => exact cst_e (P := SW C A env H s Q E) hc fun k p => sw_int ok W
 | cs x => exact cst_e (P := SW C A env H s Q E) hc fun k p => Calls.Constant_str ⟨.str (Str.ofString x), H, ok.toks _, by dsimp only [VR]; exact ⟨_, rfl⟩, W, fun zz zz e => e⟩
 | cb b => exact cst_e (P := SW C A env H s Q E) hc fun k p => wpAny_pure ⟨.bool b, H, ok.refl, by dsimp only [VR], W, fun zz zz e => e⟩
 | cn => exact cst_e (P := SW C A env H s Q E) hc fun k p => wpAny_pure ⟨.none, H, ok.refl, by dsimp only [VR], W, fun zz zz e => e⟩
 | lst es =>
  cases es with
  | cons _ _ => exact (Bool.false_ne_true hs).elim
  | nil => exact pLst_e (P := SW C A env H s Q E) hc fun es' p h => em_e (P := fun es' => SW C A env H s Q E (.List es' p)) h (sw_emp ok W)
 | _ => exact (Bool.false_ne_true hs).elim
noncomputable def PW (C : Cx) (A : Around) (env : Env) (pos : Pos) (H : MH) (s : Shared) (Q : List V -> MH -> Prop) (E : Value -> Shared -> Prop) (ks : List String) (ks' : List (Option Expr)) (es' : List Expr) : Prop :=
 wpAny C.M A (evalPairs (pairTrees ks' es' env pos)) (fun prs s' => ∃ xs H', Step C No H s H' s' /\ VRs C s'.heap xs (prs.map (·.2)) /\ KeyRow ks (prs.map (·.1)) /\ Q xs H' /\ ∀ b o, s.heap.get? b = some o -> s'.heap.get? b = some o) E s
theorem pairs_walk (pos : Pos) {E : Value -> Shared -> Prop} (ES : EnvS env vs ns) : ∀ {ks : List String} {es : List Ex} {ks' : List (Option Expr)} {es' : List Expr} {s : Shared} {H : MH} {Q : List V -> MH -> Prop}, chkK ks ks' = true -> chkEs vs ns es es' = true -> (∀ e ∈ es, simpE e = true) -> ks.length = es.length -> Ok C d H A s -> FI C env vs ρ H s.heap -> wpEs C d es ρ H Q X ->
  PW C A env pos H s Q E ks ks' es'
 | [], [], ks', es', s, H, Q => fun hk hc zz zz ok fi W => em_e (P := fun es' => PW C A env pos H s Q E [] ks' es') hc (em_e (P := fun ks' => PW C A env pos H s Q E [] ks' []) hk
   (pairTrees_nil_walk ⟨[], H, ok.refl, VRs.nil, trivial, W, fun zz zz e => e⟩))
 | k :: ks, e :: es, ks0, es0, s, H, Q => fun hk hc hs hl ok fi W => by
  refine iv_cons (P := fun es0 => PW C A env pos H s Q E (k :: ks) ks0 es0) hc fun e' es' hc1 hc2 => chkK_e (P := fun ks0 => PW C A env pos H s Q E (k :: ks) ks0 (e' :: es')) hk fun c p ks' hk3 => ?_
  refine pairTrees_cons_walk (Calls.Constant_str ?_)
  have st0 : Step C No H s H { s with toks := s.toks + 1 } := ok.toks _
  refine wpAny_mono (simple_walk (E := E) (hs e (.head _)) hc1 ES (ok.step st0) (fi.stepN st0) W) (fun cv s1 hq1 => Vc.xa_2_4 hq1 fun v H1 st1 r1 W1 k1 => ?_) fun zz zz h => h
  have st := st0.trans st1
  refine wpAny_mono (pairs_walk pos (E := E) ES hk3 hc2 (fun e he => hs e (.tail _ he)) (Nat.succ.inj hl) (ok.step st) (fi.stepN st) W1) (fun prs s2 hzz => ?_) fun zz zz h => h
  refine Vc.xa_2_5 hzz fun xs H2 st2 r2 kr W2 k2 => ?_
  try clear hzz
  exact ⟨v :: xs, H2, st.trans st2, VRs.cons (r1.keep st2.vk) r2, ⟨⟨_, rfl⟩, kr⟩, W2, fun b o e => k2 b o (k1 b o e)⟩
 | _ :: _, [], _, _, _, _, _ => fun zz zz zz hl zz zz zz => by cases hl
 | [], _ :: _, _, _, _, _, _ => fun zz zz zz hl zz zz zz => by cases hl
theorem carries_row : ∀ {ks : List String} {prs : List (Value × Value)}, KeyRow ks (prs.map (·.1)) -> Carries (strKind C.prog C.w) prs ((ks.map Str.ofString).zip (prs.map (·.2)))
 | [], [], _ => trivial
 | k :: ks, (key, v) :: prs, h => by
  refine Vc.xa_0_2 h fun ho73_0 h2 => ?_
  try clear h
  obtain ⟨t, e⟩ := ho73_0
  refine ⟨?_, rfl, carries_row h2⟩
  have e' : key = .str (Str.ofString k) t := e
  rw [e']; exact strKind_is C.prog C.w _ t
 | [], _ :: _, h => h.elim
 | _ :: _, [], h => h.elim
theorem merged_new {K : Type} [DecidableEq K] : ∀ {kvs acc : List (K × Value)}, ((acc ++ kvs).map (·.1)).Nodup -> merged acc kvs = acc ++ kvs
 | [], acc, _ => by simp [merged]
 | (k, v) :: r, acc, h => by
  have h1 : stored acc k v = acc ++ [(k, v)] := by
   unfold stored
   rw [if_neg]
   intro hc
   refine Vc.xa_1_2 (List.any_eq_true.mp hc) fun x hx he => ?_
   have he' : x.1 = k := by simpa using he
   simp only [List.map_append, List.map_cons] at h
   have := List.nodup_append.mp h
   exact this.2.2 x.1 (List.mem_map_of_mem hx) k (.head _) he'
  show merged (stored acc k v) r = _
  rw [h1]
  have : acc ++ (k, v) :: r = (acc ++ [(k, v)]) ++ r := by simp
  rw [this] at h ⊢
  exact merged_new h
theorem keys_zip : ∀ {ks : List Str} {prs : List Value}, ks.length = prs.length -> (ks.zip prs).map (·.1) = ks /\ (ks.zip prs).map (·.2) = prs
 | [], [], _ => ⟨rfl, rfl⟩
 | k :: ks, p :: prs, h => by have := keys_zip (ks := ks) (prs := prs) (by simpa using h); simp [this.1, this.2]
 | [], _ :: _, h => by simp at h
 | _ :: _, [], h => by simp at h
theorem keys_zipV : ∀ {ks : List Str} {xs : List V}, ks.length = xs.length -> (ks.zip xs).map (·.1) = ks /\ (ks.zip xs).map (·.2) = xs
 | [], [], _ => ⟨rfl, rfl⟩
 | k :: ks, p :: prs, h => by have := keys_zipV (ks := ks) (xs := prs) (by simpa using h); simp [this.1, this.2]
 | [], _ :: _, h => by simp at h
 | _ :: _, [], h => by simp at h
theorem snd_dct {ks : List String} {es : List Ex} {ks' : List (Option Expr)} {es' : List Expr} {p : Pos} (G : C.Good) (h0 : ks ≠ []) (h15 : ks.length <= 15) (hl : ks.length = es.length) (hk : chkK ks ks' = true) (hc : chkEs vs ns es es' = true) (hs : ∀ e ∈ es, simpE e = true) :
  SndE C d (.dct ks es) (.Dict ks' es' p) vs ns := by
 intro env A s ρ H Q X ES ea ok fi W
 dsimp only [wpE] at W
 have hkl := chkK_len hk
 have hne : ks' ≠ [] := fun q => h0 (by have := hkl.1; rw [q] at this; exact List.length_eq_zero_iff.mp this)
 refine wpAny_Dict_walk (knd := strKind C.prog C.w) hkl.2 (by rw [<- hkl.1, hl, chk_len hc]) hne (by (clear hl; omega)) ?_
 have st0 : Step C No H s H { s with heap := s.heap.push { cls := .type "dict", data := .dict #[] } } := Step.keeps ok.rel ok.top (fun b o e => Heap.get?_push_of_some _ e) rfl rfl
 have hm0 : (s.heap.push { cls := .type "dict", data := .dict #[] }).DictOf (strKind C.prog C.w) s.heap.objs.size [] := ⟨_, #[], 0, Heap.get?_push_size _ rfl, ⟨rfl, rfl, rfl⟩, rfl, fun zz he => by simp at he, .nil, by simp⟩
 refine wpAny_mono (pairs_walk (E := XQ false C No H s X) p ES hk hc hs hl (ok.step st0) (fi.stepN st0) W) (fun prs s1 hzz => ?_) fun zz zz h => h
 refine Vc.xa_2_5 hzz fun xs H1 st1 r1 kr W1 k1 => ?_
 try clear hzz
 refine Vc.xa_0_4 W1 fun w1 w2 w3 w4 => ?_
 try clear W1
 have hfr : s.heap.get? s.heap.objs.size = none := fresh_size _
 have hH : H s.heap.objs.size = none := ok.rel.fresh hfr
 have hH1 : H1 s.heap.objs.size = none := st1.gone (Heap.get?_push_size _ rfl) hH
 have ok1 := ok.step (st0.trans st1)
 refine Vc.xa_3_4 hm0 fun o es0 ep ho hx hd r0 => ?_
 try clear hm0
 have hw := k1 _ o ho
 refine ⟨_, carries_row kr, ⟨o, es0, ep, hw, hx, hd, r0⟩, fun h' hm' sb => ?_⟩
 have hlp : ks.length = prs.length := by have := r1.length; rw [List.length_map] at this; (clear h15 hl hkl w2 r0; omega)
 have hz := keys_zip (ks := ks.map Str.ofString) (prs := prs.map (·.2)) (by simp [hlp])
 have hzv := keys_zipV (ks := ks.map Str.ofString) (xs := xs) (by simp [w1])
 have hnd : (ks.map Str.ofString).Nodup := w3
 have hmg : merged [] ((ks.map Str.ofString).zip (prs.map (·.2))) = (ks.map Str.ofString).zip (prs.map (·.2)) := by
  have := merged_new (kvs := (ks.map Str.ofString).zip (prs.map (·.2))) (acc := []) (by rw [List.nil_append, hz.1]; exact hnd)
  simpa using this
 rw [hmg] at hm'
 have ste : Step C (· = s.heap.objs.size) H1 s1 H1 { s1 with heap := h', toks := s1.toks + prs.length } := by
  refine Step.but ok1.rel ok1.top (fun b ob e n => (sb.2 b n).trans e) (fun b e => e ▸ hH1) (fun b e => e ▸ fresh_top ok.top hfr) (fun b ob e q => ?_) (fun b ob es ep e q z => ?_) rfl rfl
  ·subst q; rw [hw] at e; cases e; exact .inl ⟨_, _, hd⟩
  ·subst q; obtain ⟨o', es', ep', ho', _, hd', _⟩ := hm'; exact ⟨o', es', ep', ho', hd'⟩
 have st : Step C No H s H1 { s1 with heap := h', toks := s1.toks + prs.length } := (st0.trans st1).trans_new ste (fun b q => by subst q; exact hfr) (fun zz f => f.elim)
 refine ⟨.ref s.heap.objs.size, _, st.adopt (o := .dcs ((ks.map Str.ofString).zip xs)) hfr ⟨fresh_top ok.top hfr, not_sys G ok, _, hm', ?_, ?_⟩, rfl, w4 _ hH1⟩
 ·rw [hz.1, hzv.1]
 ·rw [hz.2, hzv.2]; exact r1.keep ste.vk
end
end Vc
end
section
namespace Vc
open PySem
section
variable {C : Cx} {d : Md}
noncomputable def SX (C : Cx) (d : Md) (e : Ex) (vs : Vs) (ns : Ns) (e' : Expr) : Prop := SndE C d e e' vs ns /\ SndT C d e e' vs ns
theorem sx_val {e : Ex} {e' : Expr} {vs : Vs} {ns : Ns} (h : SndE C d e e' vs ns) (hw : ∀ ρ H Q X, wpT C d e ρ H Q X = wpE C d e ρ H (fun v H1 => TruW C d v H1 Q X) X) (he : isTrue e' = fun env whole => (do let v <- whole; standAt e'.pos; holding [v] (truthy v))) : SX C d e vs ns e' := ⟨h, sndT_val he hw h⟩
theorem snd_simp {e : Ex} {e' : Expr} {vs : Vs} {ns : Ns} (hs : simpE e = true) (hc : chkE vs ns e e' = true) : SndE C d e e' vs ns := fun env A s ρ H Q X ES ea ok fi W =>
 wpAny_mono (simple_walk (E := XQ false C No H s X) hs hc ES ok fi W) (fun v s' hq1 => Vc.xa_2_4 hq1 fun r H' a b c zz => ⟨r, H', a, b, c⟩) fun zz zz h => h
theorem sx_cst {e : Ex} {e' : Expr} {vs : Vs} {ns : Ns} {c : Const} (hs : simpE e = true) (hw : ∀ ρ H Q X, wpT C d e ρ H Q X = wpE C d e ρ H (fun v H1 => TruW C d v H1 Q X) X) (hc : chkE vs ns e e' = true) (h : pCst e' (fun d zz zz => decide (d = c)) = true) : SX C d e vs ns e' :=
 cst_e (P := fun e' => chkE vs ns e e' = true -> SX C d e vs ns e') h (fun k p hc => sx_val (snd_simp hs hc) hw rfl) hc
theorem snd_gl (G : C.Good) {x : String} {id : Str} {p : Pos} {vs : Vs} {ns : Ns} (h1 : gOk ns x id = true) : SndE C d (.gl x) (.Name id p) vs ns := fun env A s ρ H Q X ES ea ok fi hq2 => Vc.xa_2_3 hq2 fun v cv g r w =>
 load_gl G ES h1 ok.top g ⟨v, H, ok.refl, top_vr ok.top r, w⟩
theorem sx_una {op : UnaryOp} {e : Ex} {x : Expr} {p : Pos} {vs : Vs} {ns : Ns} (h : SX C d e vs ns x) : SX C d (.una op e) vs ns (.UnaryOp op x p) := by
 refine ⟨snd_una h.1, ?_⟩
 cases op with
 | Not => exact sndT_not h.2
 | _ => exact sndT_val rfl (fun ρ H Q X => rfl) (snd_una h.1)
theorem snd_bop {op : BoolOp} {es : List Ex} {es' : List Expr} {p : Pos} {vs : Vs} {ns : Ns} (h : SndB C d op es es' vs ns) : SndE C d (.bop op es) (.BoolOp op es' p) vs ns := fun env A s ρ H Q X ES ea ok fi W => by
 rw [arm_eval_BoolOp]
 exact h env A s ρ H Q X p ES ea ok fi W
theorem sndO_of {e : Ex} {o : Option Expr} {vs : Vs} {ns : Ns} (h : chkO vs ns e o = true) (k : ∀ e', chkE vs ns e e' = true -> SndE C d e e' vs ns) : SndO C d e o vs ns := by
 cases o with
 | some e' => exact k e' h
 | none => exact Ex.cn.elim (motive_1 := fun e => SndO C d e none vs ns) e (of_decide_eq_true h) sndO_none
mutual
theorem sX (G : C.Good) : ∀ (e : Ex) (e' : Expr) (vs : Vs) (ns : Ns), chkE vs ns e e' = true -> SX C d e vs ns e'
 | .nm i, e', vs, ns, hc => iv_nm (P := fun e' => chkE vs ns (.nm i) e' = true -> SX C d (.nm i) vs ns e') hc (fun id p h1 h2 hc => sx_val (snd_simp rfl hc) (fun zz zz zz zz => rfl) rfl) hc
 | .gl x, e', vs, ns, hc => iv_gl (P := SX C d (.gl x) vs ns) hc fun id p h1 => sx_val (snd_gl G h1) (fun zz zz zz zz => rfl) rfl
 | .ci i, e', vs, ns, hc => sx_cst rfl (fun zz zz zz zz => rfl) hc hc
 | .cs i, e', vs, ns, hc => sx_cst rfl (fun zz zz zz zz => rfl) hc hc
 | .cb i, e', vs, ns, hc => sx_cst rfl (fun zz zz zz zz => rfl) hc hc
 | .cn, e', vs, ns, hc => sx_cst rfl (fun zz zz zz zz => rfl) hc hc
 | .bin op l r, e', vs, ns, hc => iv_bin (P := SX C d (.bin op l r) vs ns) hc fun l' r' p h1 h2 => sx_val (snd_bin (sX G l l' vs ns h1).1 (sX G r r' vs ns h2).1) (fun zz zz zz zz => rfl) rfl
 | .una op e, e', vs, ns, hc => iv_una (P := SX C d (.una op e) vs ns) hc fun x p h1 => sx_una (sX G e x vs ns h1)
 | .cmp op l r, e', vs, ns, hc => iv_cmp (P := SX C d (.cmp op l r) vs ns) hc fun l' r' p h0 h1 h2 => ⟨snd_cmp h0 (sX G l l' vs ns h1).1 (sX G r r' vs ns h2).1, sndT_cmp h0 (sX G l l' vs ns h1).1 (sX G r r' vs ns h2).1⟩
 | .cmp2 o1 o2 l m r, e', vs, ns, hc => iv_cmp2 (P := SX C d (.cmp2 o1 o2 l m r) vs ns) hc fun l' m' r' p h0 h1 h2 h3 => ⟨snd_cmp2 h0 (sX G l l' vs ns h1).1 (sX G m m' vs ns h2).1 (sX G r r' vs ns h3).1, sndT_cmp2 h0 (sX G l l' vs ns h1).1 (sX G m m' vs ns h2).1 (sX G r r' vs ns h3).1⟩
 | .bop op es, e', vs, ns, hc => iv_bop (P := SX C d (.bop op es) vs ns) hc fun es' p h1 => ⟨snd_bop (sXs G es es' vs ns h1).1.b, sndT_bop (sXs G es es' vs ns h1).2.a⟩
 | .ife c a b, e', vs, ns, hc => iv_ife (P := SX C d (.ife c a b) vs ns) hc fun c' a' b' p h1 h2 h3 => ⟨snd_ife (sX G c c' vs ns h1).2 (sX G a a' vs ns h2).1 (sX G b b' vs ns h3).1, sndT_ife (sX G c c' vs ns h1).2 (sX G a a' vs ns h2).2 (sX G b b' vs ns h3).2⟩
 | .lst es, e', vs, ns, hc => pLst_e (P := SX C d (.lst es) vs ns) hc fun es' p h1 => sx_val (snd_lst ((sXs G es es' vs ns h1).1.es h1)) (fun zz zz zz zz => rfl) rfl
 | .tup es, e', vs, ns, hc => pTup_e (P := SX C d (.tup es) vs ns) hc fun es' k p h1 => sx_val (snd_tup ((sXs G es es' vs ns h1).1.es h1)) (fun zz zz zz zz => rfl) rfl
 | .emp k, e', vs, ns, hc => iv_emp (P := SX C d (.emp k) vs ns) hc fun p => sx_val (snd_emp G) (fun zz zz zz zz => rfl) rfl
 | .dct ks es, e', vs, ns, hc => iv_dct (P := SX C d (.dct ks es) vs ns) hc fun ks' es' p h0 h1 h2 h3 h4 h5 => sx_val (snd_dct G h0 h1 h2 h4 h5 h3) (fun zz zz zz zz => rfl) rfl
 | .sub o i, e', vs, ns, hc => iv_sub (P := SX C d (.sub o i) vs ns) hc fun o' i' p h0 h1 h2 => sx_val (snd_sub h0 (sX G o o' vs ns h1).1 (sX G i i' vs ns h2).1) (fun zz zz zz zz => rfl) rfl
 | .sli o l u t, e', vs, ns, hc => iv_sli (P := SX C d (.sli o l u t) vs ns) hc fun o' l' u' t' q p h1 h2 h3 h4 => sx_val (snd_sli (sX G o o' vs ns h1).1 (sndO_of h2 fun x h => (sX G l x vs ns h).1) (sndO_of h3 fun x h => (sX G u x vs ns h).1) (sndO_of h4 fun x h => (sX G t x vs ns h).1)) (fun zz zz zz zz => rfl) rfl
 | .call f es, e', vs, ns, hc => iv_call (P := SX C d (.call f es) vs ns) hc fun id q es' p h1 h2 => sx_val (snd_call G h1 h2 ((sXs G es es' vs ns h2).1.es h2)) (fun zz zz zz zz => rfl) rfl
 | .meth o m es, e', vs, ns, hc => iv_meth (P := SX C d (.meth o m es) vs ns) hc fun o' ap es' p h0 h1 h2 h3 h4 => sx_val (snd_meth h0 h1 h2 h4 (sX G o o' vs ns h3).1 ((sXs G es es' vs ns h4).1.es h4)) (fun zz zz zz zz => rfl) rfl
 | .att o a, e', vs, ns, hc => iv_att (P := SX C d (.att o a) vs ns) hc fun o' p h0 h1 => sx_val (snd_att h0 (sX G o o' vs ns h1).1) (fun zz zz zz zz => rfl) rfl
 | .comp k elt it ifs, e', vs, ns, hc => iv_comp (P := SX C d (.comp k elt it ifs) vs ns) hc fun elt' t' it' ifs' sc p tg h0 h1 t h8 h9 h10 h11 =>
   h1 ▸ sx_val (snd_comp h0 t.loc t.nd t.kind t.nc t.nl t.fr h8 (sX G it it' vs ns h9).1 (sX G elt elt' _ _ h10).1 (sXs G ifs ifs' _ _ h11).2.ts) (fun zz zz zz zz => rfl) rfl
theorem sXs (G : C.Good) : ∀ (es : List Ex) (es' : List Expr) (vs : Vs) (ns : Ns), chkEs vs ns es es' = true -> AllE C d vs ns es es' /\ AllT C d vs ns es es'
 | [], es', vs, ns, hc => iv_nil (P := fun l => AllE C d vs ns [] l /\ AllT C d vs ns [] l) hc ⟨trivial, trivial⟩
 | e :: es, es', vs, ns, hc => by
  refine iv_cons (P := fun l => AllE C d vs ns (e :: es) l /\ AllT C d vs ns (e :: es) l) hc fun e1 es1 h1 h2 => ?_
  exact ⟨⟨(sX G e e1 vs ns h1).1, (sXs G es es1 vs ns h2).1⟩, ⟨(sX G e e1 vs ns h1).2, (sXs G es es1 vs ns h2).2⟩⟩
end
theorem sE (G : C.Good) (e : Ex) (e' : Expr) (vs : Vs) (ns : Ns) (h : chkE vs ns e e' = true) : SndE C d e e' vs ns := (sX G e e' vs ns h).1
theorem sT (G : C.Good) (e : Ex) (e' : Expr) (vs : Vs) (ns : Ns) (h : chkE vs ns e e' = true) : SndT C d e e' vs ns := (sX G e e' vs ns h).2
theorem sAll (G : C.Good) (es : List Ex) (es' : List Expr) (vs : Vs) (ns : Ns) (h : chkEs vs ns es es' = true) : AllE C d vs ns es es' := (sXs G es es' vs ns h).1
theorem sAllT (G : C.Good) (es : List Ex) (es' : List Expr) (vs : Vs) (ns : Ns) (h : chkEs vs ns es es' = true) : AllT C d vs ns es es' := (sXs G es es' vs ns h).2
end
end Vc
end
section
namespace Vc
open PySem
structure Itr (C : Cx) (d : Md) (sv : Sv) (t' : Expr) (I : Addr) (Is : Addr -> Prop) (At : Heap -> Nat -> Prop) : Prop where
 keep : ∀ {D : Addr -> Prop} {H H' : MH} {s s' : Shared} {i : Nat}, At s.heap i -> Step C D H s H' s' -> (∀ b, Is b -> H b = none) -> (∀ b, Is b -> ¬ D b) -> At s'.heap i
 ex : ∀ {h : Heap} {i : Nat}, At h i -> ∀ b, Is b -> ∃ o vs, h.get? b = some o /\ o.data = .fields vs
 item : ∀ {H : MH} {s : Shared} {A : Around} {i : Nat} {all : List V} {x : V} {P : Value -> Shared -> Prop} {E : Value -> Shared -> Prop}, Ok C d H A s -> At s.heap i -> (∀ b, Is b -> H b = none) -> (∀ b, Is b -> C.h0.get? b = none) ->
  svItems H sv = some all -> all[i]? = some x -> (∀ cv s', Step C Is H s H s' -> VR C s'.heap x cv -> At s'.heap (i + 1) -> P cv s') ->
  wpAny C.M A (pyNext (.ref I)) (fun r s1 => ∃ cv, r = some cv /\ wpAny C.M A (letOwnedTupleGo t' (.ref I) cv) (fun zz s2 => P cv s2) E s1) E s
 done : ∀ {H : MH} {s : Shared} {A : Around} {i : Nat} {all : List V} {P : Shared -> Prop} {E : Value -> Shared -> Prop}, Ok C d H A s -> At s.heap i -> (∀ b, Is b -> H b = none) -> (∀ b, Is b -> C.h0.get? b = none) ->
  svItems H sv = some all -> all.length <= i -> (∀ s', Step C Is H s H s' -> P s') -> wpAny C.M A (pyNext (.ref I)) (fun r s1 => r = none /\ P s1) E s
section
variable {C : Cx} {d : Md} {t' : Expr} {I : Addr}
theorem itr_pl {iv : V} (hq : Itq d iv) : Itr C d (.pl iv) t' I (· = I) (fun h i => ItAt C h iv I i) where
 keep := fun x y hI hD => x.step y (hI I rfl) (hD I rfl)
 ex := fun x b hb => by subst hb; obtain ⟨o, T, vs, h1, _, _, _, h3⟩ := x.there; exact ⟨o, vs, h1, h3⟩
 item := fun ok it hI h0 hi hx hP => next_item ok it (hI I rfl) (h0 I rfl) hi hx fun s' cv st it' vr => ⟨cv, rfl, it_go it' (hP cv s' st vr it')⟩
 done := fun ok it hI h0 hi hx hP => next_end ok hq it (hI I rfl) (h0 I rfl) hi hx fun s' st => ⟨rfl, hP s' st⟩
end
end Vc
end
section
namespace Vc
open PySem
noncomputable def FlR (C : Cx) (h : Heap) : Fl -> Flow -> Prop
 | .next, f => f = .next
 | .ret v, f => ∃ cv, f = .ret cv /\ VR C h v cv
noncomputable def SP (C : Cx) (env : Env) (vs : Vs) (D : Addr -> Prop) (H : MH) (s : Shared) (K : KP) (fl : Flow) (s' : Shared) : Prop :=
 ∃ f ρ' H', Step C D H s H' s' /\ FI C env vs ρ' H' s'.heap /\ FlR C s'.heap f fl /\ K f ρ' H'
noncomputable def XSt (C : Cx) (env : Env) (vs : Vs) (X : XS) : XH := fun c H h => ∃ ρ', FI C env vs ρ' H h /\ X c ρ' H
theorem sp_e {P : Prop} {C : Cx} {env : Env} {vs : Vs} {D : Addr -> Prop} {H : MH} {s : Shared} {K : KP} {fl : Flow} {s' : Shared} (h : SP C env vs D H s K fl s') (k : ∀ f ρ' H', Step C D H s H' s' -> FI C env vs ρ' H' s'.heap -> FlR C s'.heap f fl -> K f ρ' H' -> P) : P := h.elim fun f h => h.elim fun ρ h => h.elim fun H' h => k f ρ H' h.1 h.2.1 h.2.2.1 h.2.2.2
section
variable {C : Cx} {d : Md} {env : Env} {vs : Vs} {ns : Ns} {ρ : Lo} {H H1 H' : MH} {s s1 s' s'' : Shared} {A : Around} {K : KP} {X : XS} {D : Addr -> Prop}
theorem stX_St : StX C (XSt C env vs X) := fun c H s s' D st hrec hX => by
 refine Vc.xa_1_2 hX fun ρ' fi x => ?_
 try clear hX
 refine ⟨ρ', fi.step st (fun q => ?_) fun z c e q => ?_, x⟩
 ·refine Vc.xa_1_2 fi.ns fun m ho22_1 zz => ?_
  obtain ⟨o, es, ep, ho, hd, _⟩ := ho22_1
  refine Vc.xa_1_1 (hrec _ o q ho) fun ws w => ?_
  rw [hd] at w
  cases w
 ·obtain ⟨_, _, oc, o, ho, hd⟩ := fi.cex z c e
  refine Vc.xa_1_1 (hrec _ o q ho) fun ws w => ?_
  rw [hd] at w
  cases w
theorem old_ofD (x : Step C D H s H' s') (hx : ∀ b, D b -> ∃ o, s'.heap.get? b = some o) {b : Addr} (e : s'.heap.get? b = none) : s.heap.get? b = none := by
 cases q : s.heap.get? b with
 | none => rfl
 | some o =>
  by_cases u : (H b).isSome = true
  ·refine Vc.xa_1_1 (x.rel.there (x.dom b u)) fun ob w => ?_
   rw [e] at w
   cases w
  ·by_cases dd : D b
   ·refine Vc.xa_1_1 (hx b dd) fun ob w => ?_
    rw [e] at w
    cases w
   ·refine Vc.xa_1_2 (x.chg b o q (by simpa using u) dd) fun sl w zz => ?_
    rw [e] at w
    cases w
theorem Fly.backD {tr : Bool} {a : Addr} {c : String} {h : Heap} (st : Step C D H s H' s') (hx : ∀ b, D b -> ∃ o, s'.heap.get? b = some o) (x : Fly C tr s' a c h) : Fly C tr s a c h := ⟨x.no⟩
theorem XG.backD {tr : Bool} {X : XH} {e : Value} (st : Step C D H s H' s') (hx : ∀ b, D b -> ∃ o, s'.heap.get? b = some o) (x : XG tr C D H' s' X e s'') : XG tr C D H s X e s'' := by
 refine Vc.xa_3_5 x fun a c H2 h1 h2 h3 h4 h5 => ?_
 try clear x
 exact ⟨a, c, H2, h1, st.trans h2, h3, h4.backD st hx, h5⟩
theorem SP.back {fl : Flow} (st : Step C D H s H' s') (x : SP C env vs D H' s' K fl s'') : SP C env vs D H s K fl s'' := by
 refine Vc.xa_3_4 x fun f ρ' H2 h1 h2 h3 h4 => ?_
 try clear x
 exact ⟨f, ρ', H2, st.trans h1, h2, h3, h4⟩
theorem XG.toS {e : Value} (fi : FI C env vs ρ H s.heap) (x : XQ false C No H s (fun c H1 => X c ρ H1) e s') : XG false C (Dm env) H s (XSt C env vs X) e s' := by
 refine Vc.xa_3_5 x fun a c H2 h1 h2 h3 h4 h5 => ?_
 try clear x
 exact ⟨a, c, H2, h1, h2.weaken fi.dm, (fi.stepN h2).dm, h4, ρ, fi.stepN h2, h5⟩
noncomputable def SndS (C : Cx) (d : Md) (t : St) (t' : Stmt) (vs : Vs) (ns : Ns) : Prop :=
 ∀ env A s ρ H K X, EnvS env vs ns -> EA A env -> Ok C d H A s -> FI C env vs ρ H s.heap -> wpS C d t ρ H K X -> wpAny C.M A (exec t' env) (SP C env vs (Dm env) H s K) (XG false C (Dm env) H s (XSt C env vs X)) s
noncomputable def SndSs (C : Cx) (d : Md) (t : List St) (t' : List Stmt) (vs : Vs) (ns : Ns) : Prop :=
 ∀ env A s ρ H K X, EnvS env vs ns -> EA A env -> Ok C d H A s -> FI C env vs ρ H s.heap -> wpSs C d t ρ H K X -> wpAny C.M A (execs t' env) (SP C env vs (Dm env) H s K) (XG false C (Dm env) H s (XSt C env vs X)) s
theorem sndS_ret {e : Ex} {e' : Expr} {p : Pos} (h : SndE C d e e' vs ns) : SndS C d (.ret e) (.Return (some e') p) vs ns := by
 intro env A s ρ H K X ES ea ok fi W
 dsimp only [wpS] at W
 exact wpAny_Return_some (wpAny_mono (h env A s ρ H _ _ ES ea ok fi W) (fun cv s1 hq2 => Vc.xa_2_3 hq2 fun v H1 st1 r1 W1 => ⟨.ret v, ρ, H1, st1.weaken fi.dm, fi.stepN st1, ⟨cv, rfl, r1⟩, W1⟩) fun zz zz x => x.toS fi)
theorem swaps_no {e' : Expr} {t : Option Expr} {n : Nat} (h : notComp e' = true) : swapsWith e' t n env = pure false := by
 cases e' <;> first | exact @Eq.refl _ (pure false : Sem Bool) | (exact (Bool.false_ne_true h).elim)
theorem stores_no {e' : Expr} {ts : List Expr} {k : Nat} {q : Pos} (h : notTuple e' = true) : swappedStores [.Tuple ts k q] e' env = pure none := by
 cases e' <;> first | exact @Eq.refl _ (pure none : Sem (Option (List Str))) | (exact (Bool.false_ne_true h).elim)
theorem not_inter (ES : EnvS env vs ns) : interactive env = false := by unfold interactive; rw [ES.kind]; rfl
theorem sndS_exp {e : Ex} {e' : Expr} {p : Pos} (hn : notComp e' = true) (h : SndE C d e e' vs ns) : SndS C d (.exp e) (.Expr e' p) vs ns := by
 intro env A s ρ H K X ES ea ok fi W
 dsimp only [wpS] at W
 exact wpAny_Expr_any (wpAny_mono (h env A s ρ H _ _ ES ea ok fi W) (fun cv s1 hq3 => Vc.xa_2_3 hq3 fun v H1 st1 r1 W1 => ⟨.next, ρ, H1, st1.weaken fi.dm, fi.stepN st1, rfl, W1⟩) fun zz zz x => x.toS fi) (not_inter ES) (swaps_no hn)
theorem sndS_ife {c : Ex} {a b : List St} {c' : Expr} {a' b' : List Stmt} {p : Pos} (hc : SndT C d c c' vs ns) (ha : SndSs C d a a' vs ns) (hb : SndSs C d b b' vs ns) : SndS C d (.ife c a b) (.If c' a' b' p) vs ns := by
 intro env A s ρ H K X ES ea ok fi W
 dsimp only [wpS] at W
 refine wpAny_If (wpAny_mono (hc env A s ρ H _ _ ES ea ok fi W) (fun t s1 hq4 => Vc.xa_1_2 hq4 fun H1 st1 W1 => ?_) fun zz zz x => x.toS fi)
 have st := st1.weaken fi.dm
 cases t with
 | true => rw [if_pos rfl] at W1 ⊢; exact wpAny_mono (ha env A s1 ρ H1 K X ES ea (ok.step st1) (fi.stepN st1) W1) (fun zz zz h => h.back st) fun zz zz h => h.backD st (fi.stepN st1).dm
 | false => rw [if_neg (by decide)] at W1 ⊢; exact wpAny_mono (hb env A s1 ρ H1 K X ES ea (ok.step st1) (fi.stepN st1) W1) (fun zz zz h => h.back st) fun zz zz h => h.backD st (fi.stepN st1).dm
theorem sndS_pas {p : Pos} : SndS C d .pas (.Pass p) vs ns := by
 intro env A s ρ H K X ES ea ok fi W
 dsimp only [wpS] at W
 exact wpAny_Pass ⟨.next, ρ, H, ok.refl, fi, rfl, W⟩
theorem sndSs_nil : SndSs C d [] [] vs ns := by
 intro env A s ρ H K X ES ea ok fi W
 dsimp only [wpSs] at W
 exact wpAny_execs_nil ⟨.next, ρ, H, ok.refl, fi, rfl, W⟩
theorem sndSs_cons {t : St} {ts : List St} {t' : Stmt} {ts' : List Stmt} (h : SndS C d t t' vs ns) (hs : SndSs C d ts ts' vs ns) : SndSs C d (t :: ts) (t' :: ts') vs ns := by
 intro env A s ρ H K X ES ea ok fi W
 dsimp only [wpSs] at W
 refine wpAny_execs_cons (wpAny_mono (h env A s ρ H _ X ES ea ok fi W) (fun fl s1 hzz => sp_e hzz fun f ρ1 H1 st1 fi1 fr W1 => ?_) fun zz zz x => x)
 cases f with
 | next =>
  cases fr
  exact wpAny_mono (hs env A s1 ρ1 H1 K X ES ea (ok.step st1) fi1 W1) (fun zz zz h => h.back st1) fun zz zz h => h.backD st1 fi1.dm
 | ret v =>
  refine Vc.xa_1_2 fr fun cv hr107_1 r => ?_
  try clear fr
  subst hr107_1
  exact ⟨.ret v, ρ1, H1, st1, fi1, ⟨cv, rfl, r⟩, W1⟩
theorem sndS_asg {i : Nat} {e : Ex} {id : Str} {q p : Pos} {e' : Expr} (hv : vOk vs i id = true) (h : SndE C d e e' vs ns) (hn : notComp e' = true) : SndS C d (.asg i e) (.Assign [.Name id q] e' p) vs ns := by
 intro env A s ρ H K X ES ea ok fi W
 dsimp only [wpS] at W
 refine wpAny_Assign_Name (wpAny_mono (h env A s ρ H _ _ ES ea ok fi W) (fun cv s1 hq5 => Vc.xa_2_3 hq5 fun v H1 st1 r1 W1 => ?_) fun zz zz x => x.toS fi) (swaps_no hn)
 refine store_one ES (ok.step st1) (fi.stepN st1) hv r1 fun s2 st2 fi2 => ?_
 exact ⟨.next, _, H1, (st1.weaken fi.dm).trans (st2.widen fun b hb => dx_dm hb), fi2, rfl, W1⟩
end
end Vc
end
section
namespace Vc
open PySem
section
variable {C : Cx} {d : Md} {env : Env} {vs : Vs} {ns : Ns} {ρ : Lo} {H H1 H' : MH} {s s1 s' s'' : Shared} {A : Around} {K : KP} {X : XS} {D : Addr -> Prop}
theorem FI.letgo {Cn : Addr} {h h' : Heap} (fi : FI C env vs ρ H h) (hL : env.locals ≠ Cn) (hc : ∀ x c, env.cells.lookup x = some c -> c ≠ Cn) (hlo : ∀ o, h.get? Cn = some o -> Loose o) (sb : Heap.SameBut Cn h h') : FI C env vs ρ H h' := by
 have vsx := vs_but hlo sb
 refine Vc.xa_1_2 fi.ns fun m3 hn3 hr3 => ?_
 refine ⟨fi.len, fi.locH, fi.loc0, ⟨m3, hn3.sameBut sb hL, fun j x v e l => ?_⟩, fun j x e => ?_, fun x c e => ?_⟩
 ·refine Vc.xa_1_2 (hr3 j x v e l) fun cv e1 e2 => ?_
  exact ⟨cv, e1, e2.keepS vsx⟩
 ·refine Vc.xa_2_5 (fi.cel j x e) fun c oc g1 g2 g3 g4 g5 => ?_
  exact ⟨c, oc, g1, g2, g3, g4.sameBut sb (hc x c g1), fun v l => (g5 v l).imp fun zz q => ⟨q.1, q.2.keepS vsx⟩⟩
 ·obtain ⟨g1, g2, oc, g3⟩ := fi.cex x c e
  exact ⟨g1, g2, oc, g3.sameBut sb (hc x c e)⟩
theorem FI.new {Cn : Addr} {h : Heap} (fi : FI C env vs ρ H h) (hC : h.get? Cn = none) : ¬ Dm env Cn := fun hb => by
 rcases hb with e | ⟨x, e⟩
 ·refine Vc.xa_1_2 fi.ns fun m ho21_1 zz => ?_
  obtain ⟨o, _, _, ho, _⟩ := ho21_1
  rw [<- e, hC] at ho
  cases ho
 ·obtain ⟨_, _, oc, o, ho, _⟩ := fi.cex x Cn e
  rw [hC] at ho
  cases ho
theorem sndS_asgC {i : Nat} {id : Str} {q p0 : Pos} (hv : vOk vs i id = true)
  {elt it : Ex} {ifs : List Ex} {elt' it' t' : Expr} {ifs' : List Expr} {sc : Scope} {p : Pos} {tg : List Str} (ht : tgt? t' = some tg) (hl : ∀ x ∈ tg, sc.names.lookup x = some .local) (nd : tg.Nodup) (hk : sc.kind = .function)
  (hnc : ∀ x ∈ sc.names, x.2 ≠ .cell) (hnl : ∀ x ∈ sc.names, x.2 = .local -> sc.names.lookup x.1 = some .local) (hfr : ∀ x ∈ sc.names, x.2 = .free -> (x.1, Vk.cel) ∈ vs) (hns : notSet it' = true)
  (hit : SndE C d it it' vs ns) (hE : SndE C d elt elt' (innerVs vs (relab sc.names ns) tg) (relab sc.names ns)) (hT : SndTs C d ifs ifs' (innerVs vs (relab sc.names ns) tg) (relab sc.names ns)) :
  SndS C d (.asg i (.comp tg.length elt it ifs)) (.Assign [.Name id q] (.ListComp elt' [⟨t', it', ifs', 0⟩] sc p) p0) vs ns := by
 intro env A s ρ H K X ES ea ok fi W
 have hsnd := snd_comp (p := p) ht hl nd hk hnc hnl hfr hns hit hE hT
 dsimp only [wpS] at W
 have hsw : ∃ b, swapsWith (.ListComp elt' [⟨t', it', ifs', 0⟩] sc p) (some (.Name id q)) p0.line env = pure b := ⟨_, rfl⟩
 refine Vc.xa_1_1 hsw fun b hsw => ?_
 cases b with
 | false =>
  refine wpAny_Assign_Name (wpAny_mono (hsnd env A s ρ H _ _ ES ea ok fi W) (fun cv s1 hq1 => Vc.xa_2_3 hq1 fun v H1 st1 r1 W1 => ?_) fun zz zz x => x.toS fi) hsw
  refine store_one ES (ok.step st1) (fi.stepN st1) hv r1 fun s2 st2 fi2 => ?_
  exact ⟨.next, _, H1, (st1.weaken fi.dm).trans (st2.widen fun b hb => dx_dm hb), fi2, rfl, W1⟩
 | true =>
  rw [exec_Assign_Name_used _ _ _ _ hsw]
  refine wpAny_bind (wpAny_standAt (wpAny_bind ?_))
  show wpAny _ A (do let _ <- comprehension (.ListComp elt' [⟨t', it', ifs', 0⟩] sc p) sc env _ (newList []) false (eval it' env) (some (assign (.Name id q) env))) _ _ s
  dsimp only [wpE] at W
  have hf := fi.closed hfr
  refine wpAny_bind (wpAny_mono (wpAny_comprehension_free (use := some (assign (.Name id q) env)) (Q := fun zz s' => SP C env vs (Dm env) H s K .next s') rfl (fun x => folded hns) (closure_of hf) hk hnl ?_) (fun zz s' hq => wpAny_pure (wpAny_pure hq)) fun zz zz e => e)
  refine wpAny_mono (hit env A s ρ H _ _ ES ea ok fi W) (fun civ s1 hzz => qp_e hzz fun iv H1 st1 r1 hzw => ?_) fun zz zz x => x.toS fi
  refine Vc.xa_1_4 hzw fun all hq hi hsz W1 => ?_
  try clear hzw
  have ok1 := ok.step st1
  have fi1 := fi.stepN st1
  refine iter_of ok1 hq r1 hi fun I s2 st2 hI hit2 => ?_
  refine comp_core (E := XG false C (Dm env) H s (XSt C env vs X)) ES ea ok1 fi1 ht hl nd hk hnc hf (fun env' s H ρ' Q e1 e2 e3 e4 w => hT env' A s ρ' H Q _ e1 e2 e3 e4 w) (fun env' s H ρ' Q e1 e2 e3 e4 w => hE env' A s ρ' H Q _ e1 e2 e3 e4 w) hq hsz W1 st2 hI hit2
   (fun Dl Cn s' av Hc items st hDl hCn hDC hcD hcC pl rs hm hK => ?_) (fun Dl Cn s' e hDl hCn x => ?_)
  ·-- the list is stored, then the table let go
   have stN := st.shed (di_new hI hDl hCn)
   have stL := stN.adopt (o := .lst av) hDl ⟨fresh_top ok1.top hDl, items, pl, rs⟩
   have fiL := fi1.stepN stL
   show wpAny C.M A (assign (.Name id q) env (.ref Dl)) _ _ s'
   refine wpAny_assign_Name (store_one (v := .ref Dl) ES (ok1.step stL) fiL hv (by dsimp only [VR]) fun s3 st3 fi3 => ?_)
   refine Vc.xa_1_1 hm fun m hm => ?_
   have hH2 : (upd Hc Dl (.lst av)) Cn = none := by rw [upd_ne (Ne.symm hDC)]; exact hcC
   have hnC := fi1.new hCn
   have hm3 : s3.heap.Ns Cn m := Ns.slots hm fun o ho => (st3.chg Cn o ho hH2 fun hb => hnC (dx_dm hb)).imp fun sl w => w.1
   refine ⟨m, hm3, fun h' sb => ?_⟩
   have stA : Step C (Dm env) H1 s1 (upd Hc Dl (.lst av)) s3 := (stL.weaken fi1.dm).trans (st3.widen fun b hb => dx_dm hb)
   exact ⟨.next, _, _, (st1.weaken fi.dm).trans (stA.after hCn hH2 ok1.top (ns_loose hm3) sb), fi3.letgo (fun q => hnC (.inl q.symm)) (fun x c e q => hnC (.inr ⟨x, q ▸ e⟩)) (ns_loose hm3) sb, rfl, hK.2 Dl hcD⟩
  ·exact (comp_bad ok1 hI hDl hCn x).imp fun m y => ⟨y.1, fun h' sb cenv' hcl => passing stX_up ok1 (y.2 h' sb) fun s'' x'' => ((XG.mono x'').back st1).toS fi⟩
theorem sndS_unp {is : List Nat} {e : Ex} {ts : List Expr} {k : Nat} {q p : Pos} {e' : Expr} {xs : List Str} (hx : names? ts = some xs) (hc : chkTg vs is xs = true) (h2 : 2 <= ts.length) (h : SndE C d e e' vs ns) (hn : notComp e' = true) (htp : notTuple e' = true) :
  SndS C d (.unp is e) (.Assign [.Tuple ts k q] e' p) vs ns := by
 intro env A s ρ H K X ES ea ok fi W
 dsimp only [wpS] at W
 refine wpAny_Assign_stores (wpAny_mono (h env A s ρ H _ _ ES ea ok fi W) (fun cv s1 hzz => qp_e hzz fun v H1 st1 r1 hzw => ?_) fun zz zz x => x.toS fi) (show swapsWith e' (some (.Tuple ts k q)) p.line env = pure false from swaps_no hn) (stores_no htp)
 refine Vc.xa_1_4 hzw fun l hv hq hl W1 => ?_
 try clear hzw
 subst hv
 show wpAny C.M A (assignAll cv [assign (.Tuple ts k q) env]) _ _ s1
 show wpAny C.M A (assign (.Tuple ts k q) env cv) _ _ s1
 have hil : is.length = ts.length := (tg_len hc).trans (names_len hx).symm
 refine assign_tup ES h2 hx hc (ok.step st1) (fi.stepN st1) r1 (show parts is.length (.tup l) = some l by unfold parts; rw [if_neg (by (clear hl; omega))]; dsimp only; rw [if_pos hl]) fun s2 st2 fi2 => ?_
 exact ⟨.next, _, H1, (st1.weaken fi.dm).trans (st2.widen fun b hb => dxs_dm hb), fi2, rfl, W1⟩
theorem sndS_seti {o i e : Ex} {o' i' e' : Expr} {q p : Pos} (hn : notComp e' = true) (he : SndE C d e e' vs ns) (ho : SndE C d o o' vs ns) (hi : SndE C d i i' vs ns) : SndS C d (.seti o i e) (.Assign [.Subscript o' i' q] e' p) vs ns := by
 intro env A s ρ H K X ES ea ok fi W
 dsimp only [wpS] at W
 refine wpAny_Assign_Subscript (wpAny_mono (he env A s ρ H _ _ ES ea ok fi W) (fun cv s1 hq2 => Vc.xa_2_3 hq2 fun v H1 st1 r1 W1 => ?_) fun zz zz x => x.toS fi) (swaps_no hn)
 refine wpAny_mono (ho env A s1 ρ H1 _ _ ES ea (ok.step st1) (fi.stepN st1) W1) (fun co s2 hq3 => Vc.xa_2_3 hq3 fun ov H2 st2 r2 W2 => ?_) fun zz zz x => (x.back st1).toS fi
 have st12 := st1.trans st2
 refine wpAny_mono (hi env A s2 ρ H2 _ _ ES ea (ok.step st12) (fi.stepN st12) W2) (fun ci s3 hq4 => Vc.xa_2_3 hq4 fun iv H3 st3 r3 W3 => ?_) fun zz zz x => (x.back st12).toS fi
 have st123 := st12.trans st3
 refine wpAny_mono (W3 A s3 co ci cv (ok.step st123) (r2.keep st3.vk) r3 ((r1.keep st2.vk).keep st3.vk)) (fun zz s4 hq5 => Vc.xa_1_2 hq5 fun H4 st4 W4 => ?_) fun zz zz x => (x.back st123).toS fi
 have st := st123.trans st4
 exact ⟨.next, ρ, H4, st.weaken fi.dm, fi.stepN st, rfl, W4⟩
end
end Vc
end
section
namespace Vc
open PySem
section
variable {C : Cx} {d : Md} {env : Env} {vs : Vs} {ns : Ns} {ρ : Lo} {H H1 H' : MH} {s s1 s2 s' s'' : Shared} {A : Around} {K : KP} {X : XS} {D : Addr -> Prop}
theorem frl_of (ok : Ok C d H1 A s1) {fenv : Env} {outer : List Env} (hfr : A.frames = some (fenv :: outer)) {H' : MH} {s' : Shared} (st : Step C D H1 s1 H' s') : FrL C H' s'.heap (fenv :: outer) := by
 refine Vc.xa_1_2 ok.frs fun l e f => ?_
 rw [hfr] at e; cases e
 exact f.step st
theorem rec_dm {b : Addr} {o : Obj} {ws : Array Value} (fi : FI C env vs ρ H s.heap) (e : s.heap.get? b = some o) (hd : o.data = .fields ws) : ¬ Dm env b := fun hb => by
 rcases hb with rfl | ⟨x, h⟩
 ·refine Vc.xa_1_2 fi.ns fun m ho16_1 zz => ?_
  obtain ⟨o', es, ep, ho, hd', _⟩ := ho16_1
  rw [e] at ho
  cases ho
  rw [hd] at hd'
  cases hd'
 ·obtain ⟨_, _, oc, o', ho, hd'⟩ := fi.cex x b h
  rw [e] at ho
  cases ho
  rw [hd] at hd'
  cases hd'
structure FoI (C : Cx) (env : Env) (vs : Vs) (H1 : MH) (s1 : Shared) (Is : Addr -> Prop) (At : Heap -> Nat -> Prop) (i : Nat) (ρ : Lo) (H : MH) (s : Shared) : Prop where
 st : Step C (Dm env) H1 s1 H s
 pos : At s.heap i
 go : ∀ b, Is b -> H b = none
 fi : FI C env vs ρ H s.heap
section
variable {k : List Nat} {sv : Sv} {t' : Expr} {xs : List Str} {body : List St} {body' : List Stmt} {I : Addr} {Is : Addr -> Prop} {At : Heap -> Nat -> Prop} {all : List V} {i : Nat}
theorem FoI.nx (x : FoI C env vs H1 s1 Is At i ρ H s) (it : Itr C d sv t' I Is At) (hnew : ∀ b, Is b -> s1.heap.get? b = none) (y : Step C Is H s H s') : Step C (Dm env) H1 s1 H s' /\ FI C env vs ρ H s'.heap :=
 ⟨x.st.trans_new y hnew x.fi.dm, x.fi.step y (fun q => (it.ex x.pos _ q).elim fun o w => w.elim fun ws w => rec_dm x.fi w.1 w.2 (.inl rfl)) fun z c e q => (it.ex x.pos _ q).elim fun o w => w.elim fun ws w => rec_dm x.fi w.1 w.2 (.inr ⟨z, e⟩)⟩
theorem FoI.mv {ρ' : Lo} (x : FoI C env vs H1 s1 Is At i ρ H s) (it : Itr C d sv t' I Is At) (y : Step C (Dm env) H s H' s') (f : FI C env vs ρ' H' s'.heap) : FoI C env vs H1 s1 Is At i ρ' H' s' :=
 ⟨x.st.trans y, it.keep x.pos y x.go fun b hb => (it.ex x.pos b hb).elim fun o w => w.elim fun ws w => rec_dm x.fi w.1 w.2, fun b hb => (it.ex x.pos b hb).elim fun o w => w.elim fun ws w => y.gone w.1 (x.go b hb), f⟩
theorem for_turn {J : Nat -> Shared -> Prop} {R : Result -> Shared -> Prop} {nb : Value -> Shared -> Prop} {n : Nat}
  (it : Itr C d sv t' I Is At) (ES : EnvS env vs ns) (ea : EA A env) (ok : Ok C d H1 A s1) (ht : tgt? t' = some xs) (hc : chkTg vs k xs = true) (hb : SndSs C d body body' vs ns) (hnew : ∀ b, Is b -> s1.heap.get? b = none)
  (fo : FoI C env vs H1 s1 Is At i ρ H s) (hn : n = all.length - i) (W : wpF k sv all (fun ρ' H' K' => wpSs C d body ρ' H' K' X) (all.drop i) ρ H K)
  (hJ : ∀ ρ H s, i < all.length -> FoI C env vs H1 s1 Is At (i + 1) ρ H s -> wpF k sv all (fun ρ' H' K' => wpSs C d body ρ' H' K' X) (all.drop (i + 1)) ρ H K -> J (all.length - (i + 1)) s)
  (hR : ∀ f s, SP C env vs (Dm env) H1 s1 K f s -> R (.ok f) s)
  (err : ∀ {Hx : MH} {sx : Shared} {ρx : Lo}, Step C (Dm env) H1 s1 Hx sx -> FI C env vs ρx Hx sx.heap -> ∀ e s', XG false C (Dm env) Hx sx (XSt C env vs X) e s' -> nb e s') :
  wpAny C.M A (pyNext (.ref I)) (fun r s₁ => match r with
   | none => wpAny C.M A (execs [] env) (fun f s₃ => R (.ok f) s₃) nb s₁
   | some v => wpAny C.M A (letOwnedTupleGo t' (.ref I) v) (fun zz s₁' =>
     wpAny C.M A (assign t' env v) (fun zz s₂ => wpAny C.M A (execs body' env) (fun f s₃ => match f with
      | .next | .cont => ∃ m, m < n /\ J m s₃
      | .brk => R (.ok .next) s₃
      | .ret v => R (.ok (.ret v)) s₃) nb s₂) nb s₁') nb s₁) nb s := by
 have okc := ok.step fo.st
 have hz : ∀ b, Is b -> C.h0.get? b = none := fun b hb => fresh_top ok.top (hnew b hb)
 rcases Nat.lt_or_ge i all.length with hlt | hge
 ·rw [List.drop_eq_getElem_cons hlt] at W
  obtain ⟨hitems, xv, hparts, Wx⟩ := W
  refine wpAny_mono (it.item okc fo.pos fo.go hz hitems (x := all[i]) (List.getElem?_eq_getElem hlt) (P := fun cv sb => wpAny C.M A (assign t' env cv) (fun zz s₂ => wpAny C.M A (execs body' env) (fun f s₃ => match f with
      | .next | .cont => ∃ m, m < n /\ J m s₃
      | .brk => R (.ok .next) s₃
      | .ret v => R (.ok (.ret v)) s₃) nb s₂) nb sb) (E := nb) fun cv sb stb vrb atb => ?_) (fun r s3 hr => ?_) fun zz zz h => h
  ·have y := fo.nx it hnew stb
   have f1 : FoI C env vs H1 s1 Is At (i + 1) ρ H sb := ⟨y.1, atb, fo.go, y.2⟩
   refine assign_tgt ES ht hc (okc.step stb) y.2 vrb hparts fun sc stc fic' => ?_
   have f2 := f1.mv it (stc.widen fun b hb => dxs_dm hb) fic'
   refine wpAny_mono (hb env A sc _ H _ X ES ea (ok.step f2.st) fic' Wx) (fun fl sd hsd => ?_) (err f2.st fic')
   obtain ⟨f, ρd, Hd, std, fid, frd, Wd⟩ := hsd
   have f3 := f2.mv it std fid
   cases f with
   | next =>
    cases frd
    exact ⟨all.length - (i + 1), hn ▸ Nat.sub_lt_sub_left hlt (Nat.lt_succ_self i), hJ ρd Hd sd hlt f3 Wd⟩
   | ret v =>
    obtain ⟨cv', rfl, r⟩ := frd
    exact hR _ _ ⟨.ret v, ρd, Hd, f3.st, fid, ⟨cv', rfl, r⟩, Wd⟩
  ·obtain ⟨cv, rfl, hr⟩ := hr
   exact hr
 ·rw [List.drop_eq_nil_of_le hge] at W
  refine wpAny_mono (it.done okc fo.pos fo.go hz W.1 hge (P := fun sb => SP C env vs (Dm env) H1 s1 K .next sb) (E := nb) fun sb stb => ?_) (fun r s3 hr => ?_) fun zz zz h => h
  ·have y := fo.nx it hnew stb
   exact ⟨.next, ρ, H, y.1, y.2, rfl, W.2⟩
  ·obtain ⟨rfl, hr⟩ := hr
   exact wpAny_execs_nil (hR _ _ hr)
theorem for_core (it : Itr C d sv t' I Is At) (ES : EnvS env vs ns) (ea : EA A env) (ok : Ok C d H1 A s1) (fi : FI C env vs ρ H1 s1.heap)
  (ht : tgt? t' = some xs) (hc : chkTg vs k xs = true) (hb : SndSs C d body body' vs ns) (st2 : Step C No H1 s1 H1 s2) (hnew : ∀ b, Is b -> s1.heap.get? b = none) (hat : At s2.heap 0)
  (W : wpF k sv all (fun ρ' H' K' => wpSs C d body ρ' H' K' X) all ρ H1 K) :
  codeAny C.M A (.forLoop t' (.ref I) body' [] env) (fun r s' => match r with | .ok f => SP C env vs (Dm env) H1 s1 K f s' | .error e => cameBackBy C.M A env (XG false C (Dm env) H1 s1 (XSt C env vs X)) e s') s2 := by
 refine Vc.xa_2_2 (id ea) fun fenv outer hfr hff => ?_
 obtain ⟨J, hJ⟩ : ∃ J : Nat -> Shared -> Prop, J = fun n s => ∃ i ρc Hc, (n = all.length - i /\ i <= all.length) /\ FoI C env vs H1 s1 Is At i ρc Hc s /\ wpF k sv all (fun ρ' H' K' => wpSs C d body ρ' H' K' X) (all.drop i) ρc Hc K := ⟨_, rfl⟩
 suffices h : ∀ R : Result -> Shared -> Prop, (∀ f s, SP C env vs (Dm env) H1 s1 K f s -> R (.ok f) s) -> (∀ e s, cameBackBy C.M A env (XG false C (Dm env) H1 s1 (XSt C env vs X)) e s -> R (.error e) s) -> codeAny C.M A (.forLoop t' (.ref I) body' [] env) R s2 from h _ (fun zz zz h => h) fun zz zz h => h
 intro R hR hE
 refine codeAny_forLoop_any J (fun n s hI => ?_) all.length (hJ ▸ ⟨0, ρ, H1, ⟨rfl, Nat.zero_le _⟩, ⟨st2.weaken fi.dm, hat, fun b hb => ok.rel.fresh (hnew b hb), fi.stepN st2⟩, W⟩)
 rw [hJ] at hI
 refine Vc.xa_3_3 hI fun i ρc Hc hn fo Wc => ?_
 try clear hI
 refine for_turn (J := J) (R := R) it ES ea ok ht hc hb hnew fo hn.1 Wc (fun ρ H s a b c => hJ ▸ ⟨i + 1, ρ, H, ⟨rfl, a⟩, b, c⟩) hR fun {Hx sx ρx} stx fix e s' hx => ?_
 have cb : ∀ e s', XG true C (Dm env) H1 s1 (XSt C env vs X) e s' -> R (.error e) s' := fun e s' h => hE e s' (wpAny_mono (cameBack (env := env) stX_St ok h) (fun zz zz h => h.mono) fun zz zz h => h.mono)
 exact wpAny_mono (note stX_St ok hfr hff (fun H' s' st => frl_of ok hfr st) (hx.backD stx fix.dm)) (fun zz s'' h => cb e s'' h) fun e' s'' h => cb e' s'' h
end
end
end Vc
end
section
namespace Vc
open PySem
theorem callee_type {C : Cx} {T : String} : Callee C (.type T) := fun A s Q E zz h => by
 unfold keeperOf; exact wpAny_pure (h _)
theorem callee_builtin {C : Cx} {T : String} : Callee C (.builtin T) := fun A s Q E zz h => by
 unfold keeperOf; exact wpAny_pure (h _)
section
variable {C : Cx} {d : Md} {env : Env} {vs : Vs} {ns : Ns} {ρ : Lo} {H H1 H' : MH} {s s1 s2 s' s'' : Shared} {A : Around} {K : KP} {X : XS} {D : Addr -> Prop}
theorem sndS_for_pl {k : List Nat} {e : Ex} {t' e' : Expr} {xs : List Str} {body : List St} {body' : List Stmt} {p : Pos} (ht : tgt? t' = some xs) (hc : chkTg vs k xs = true) (hns : notSet e' = true) (he : SndE C d e e' vs ns) (hb : SndSs C d body body' vs ns) :
  SndS C d (.for k (.pl e) body) (.For t' e' body' [] p) vs ns := by
 intro env A s ρ H K X ES ea ok fi W
 dsimp only [wpS, wpSr] at W
 refine wpAny_For (wpAny_mono (he env A s ρ H _ _ ES ea ok fi W) (fun civ s1 hzz => qp_e hzz fun iv H1 st1 r1 hzw => ?_) fun zz zz x => x.toS fi) (fun x => folded hns)
 refine Vc.xa_1_3 hzw fun all hq hi W1 => ?_
 try clear hzw
 have ok1 := ok.step st1
 have fi1 := fi.stepN st1
 have stw := st1.weaken fi.dm
 refine iter_of ok1 hq r1 hi fun I s2 st2 hI hit2 => ?_
 refine codeAny_mono (for_core (itr_pl hq) ES ea ok1 fi1 ht hc hb st2 (fun b hb => by subst hb; exact hI) hit2 W1) fun r s' hr => ?_
 cases r with
 | ok f => exact hr.back stw
 | error e => exact wpAny_mono hr (fun zz zz h => h.backD stw fi1.dm) fun zz zz h => h.backD stw fi1.dm
theorem sndS_whl {c : Ex} {c' : Expr} {body : List St} {body' : List Stmt} {p : Pos} (hc : SndT C d c c' vs ns) (hb : SndSs C d body body' vs ns) : SndS C d (.whl c body) (.While c' body' [] p) vs ns := by
 intro env A s ρ H K X ES ea ok fi W
 dsimp only [wpS] at W
 refine Vc.xa_1_1 W fun n W => ?_
 refine Vc.xa_2_2 (id ea) fun fenv outer hfr hff => ?_
 have err : ∀ (Hx : MH) (sx : Shared) (ρx : Lo), Step C (Dm env) H s Hx sx -> FI C env vs ρx Hx sx.heap -> ∀ e s', XG false C (Dm env) Hx sx (XSt C env vs X) e s' ->
   notedBy C.M A env (fun e s' => cameBackBy C.M A env (XG false C (Dm env) H s (XSt C env vs X)) e s') e s' := by
  intro Hx sx ρx stx fix e s' hx
  have h1 := hx.backD stx fix.dm
  have cb : ∀ e s', XG true C (Dm env) H s (XSt C env vs X) e s' -> cameBackBy C.M A env (XG false C (Dm env) H s (XSt C env vs X)) e s' := fun e s' h =>
   wpAny_mono (cameBack (env := env) stX_St ok h) (fun zz zz h => h.mono) fun zz zz h => h.mono
  exact wpAny_mono (note stX_St ok hfr hff (fun H' s' st => frl_of ok hfr st) h1) (fun zz s'' h => cb e s'' h) fun e' s'' h => cb e' s'' h
 refine wpAny_While (codeAny_whileLoop (fun m s2 => ∃ ρc Hc, Step C (Dm env) H s Hc s2 /\ FI C env vs ρc Hc s2.heap /\ wpW (fun ρ' H' Q => wpT C d c ρ' H' Q (fun c H1 => X c ρ' H1)) (fun ρ' H' K' => wpSs C d body ρ' H' K' X) m ρc Hc K) (fun m s2 hI => ?_) n ⟨ρ, H, ok.refl, fi, W⟩)
 refine Vc.xa_2_3 hI fun ρc Hc st fic Wc => ?_
 try clear hI
 cases m with
 | zero => exact (show False from Wc).elim
 | succ m =>
  dsimp only [wpW] at Wc
  refine wpAny_mono (hc env A s2 ρc Hc _ _ ES ea (ok.step st) fic Wc) (fun t s3 hq1 => Vc.xa_1_2 hq1 fun H3 st3 W3 => ?_) fun e s' x => err Hc s2 ρc st fic e s' (x.toS fic)
  have stw := st.trans (st3.weaken fic.dm)
  cases t with
  | true =>
   rw [if_pos rfl] at W3 ⊢
   refine wpAny_mono (hb env A s3 ρc H3 _ X ES ea (ok.step stw) (fic.stepN st3) W3) (fun fl s4 hzz => sp_e hzz fun f ρ4 H4 st4 fi4 fr4 W4 => ?_) fun e s' x => err H3 s3 ρc stw (fic.stepN st3) e s' x
   have st' := stw.trans st4
   cases f with
   | next => cases fr4; exact ⟨m, by omega, ρ4, H4, st', fi4, W4⟩
   | ret v => obtain ⟨cv, rfl, r⟩ := fr4; exact ⟨.ret v, ρ4, H4, st', fi4, ⟨cv, rfl, r⟩, W4⟩
  | false =>
   rw [if_neg (by decide)] at W3 ⊢
   exact wpAny_execs_nil ⟨.next, ρc, H3, stw, fic.stepN st3, rfl, W3⟩
end
end Vc
end
section
namespace Vc
open PySem
noncomputable def exP (ob : Obj) : Pr where
 P _ _ h a := h.get? a = some ob /\ ∀ vs, ob.data ≠ .fields vs
 keep := fun zz e x => ⟨e _ x.1, x.2⟩
 there := fun x => ⟨ob, x.1, x.2⟩
noncomputable def hzOf (C : Cx) (H : MH) (h : Heap) (f : Addr) (acc : List V) : MH := fun a => if a = f then some (.lst acc) else match C.h0.get? a with
 | none => (H a).bind fun zz => (h.get? a).map fun ob => .prd (exP ob)
 | some _ => none
theorem upd_id {H : MH} {a : Addr} {o : O} (h : H a = some o) : upd H a o = H := by
 funext b
 by_cases q : b = a
 ·subst q; rw [upd_self, h]
 ·rw [upd_ne q]
section
variable {C : Cx} {h h' : Heap} {Z : Addr -> Prop}
theorem VRs.ints : ∀ {l : List V} {vs : List Value}, l.all isIv = true -> VRs C h l vs -> VRs C h' l vs
 | [], [], _, _ => VRs.nil
 | v :: l, c :: vs, q, r => by
  simp only [List.all_cons, Bool.and_eq_true] at q
  refine VRs.cons ?_ (VRs.ints q.2 r.tail)
  cases v with
  | int i => exact r.head
  | _ => cases q.1
 | [], _ :: _, _, r => (show False from r).elim
 | _ :: _, [], _, r => (show False from r).elim
theorem VR.flat (k : ∀ c o, ¬ Z c -> h.get? c = some o -> h'.get? c = some o)
  (hZ : ∀ c o, Z c -> h.get? c = some o -> (o.cls ≠ .type "tuple" /\ o.cls ≠ .type "range") ∨ ∃ x y, o = { cls := .type "tuple", data := .seq #[x, y] } /\ ∀ n t, y ≠ .int n t) :
  ∀ {v : V} {cv : Value}, flat v = true -> VR C h v cv -> VR C h' v cv
 | .none, _, _, r => r
 | .bool _, _, _, r => r
 | .int _, _, _, r => r
 | .str _, _, _, r => r
 | .ref _, _, _, r => r
 | .glb _, _, _, r => r
 | .exc _, _, q, _ => Bool.noConfusion q
 | .rng a b c, v, _, r => by
  refine Vc.xa_4_2 ((show ∃ r t u w, v = .ref r /\ IsRange h r a b c t u w from r)) fun q t u w e hr => ?_
  refine ⟨q, t, u, w, e, k q _ (fun z => ?_) hr⟩
  rcases hZ q _ z hr with ⟨_, n⟩ | ⟨x, y, n, _⟩
  ·exact n rfl
  ·injection n with n1; injection n1 with n2; exact absurd n2 (by decide)
 | .tup l, v, q, r => by
  refine Vc.xa_2_3 ((show ∃ a items, (v = .ref a /\ NoDict h a) /\ h.IsTuple a items /\ VRs C h l items.toList from r)) fun a items ho51_2 ho51_3 rs => ?_
  obtain ⟨e, nd⟩ := ho51_2
  obtain ⟨o, ho, hc, n, hd⟩ := ho51_3
  have q : l.all isIv = true := q
  have na : ¬ Z a := fun z => by
   rcases hZ a o z ho with ⟨n, _⟩ | ⟨x, y, rfl, ny⟩
   ·exact n hc
   ·have hd' : Data.seq #[x, y] = Data.seq items n := hd
    injection hd' with hd'
    subst hd'
    match l, q, rs with
    | [], _, rs => exact (show False from rs).elim
    | [_], _, rs => exact (show False from rs.tail).elim
    | v1 :: v2 :: l2, q, rs =>
     have r2 : VR C h v2 y := rs.tail.head
     simp only [List.all_cons, Bool.and_eq_true] at q
     cases v2 with
     | int i => obtain ⟨t, e⟩ := (show ∃ t, y = Value.int i t from r2); exact ny _ _ e
     | _ => cases q.2.1
  exact ⟨a, items, ⟨e, .of (k a o na ho) (nd o ho)⟩, ⟨o, k a o na ho, hc, n, hd⟩, VRs.ints q rs⟩
theorem VRs.flat (k : ∀ c o, ¬ Z c -> h.get? c = some o -> h'.get? c = some o)
  (hZ : ∀ c o, Z c -> h.get? c = some o -> (o.cls ≠ .type "tuple" /\ o.cls ≠ .type "range") ∨ ∃ x y, o = { cls := .type "tuple", data := .seq #[x, y] } /\ ∀ n t, y ≠ .int n t) :
  ∀ {l : List V} {vs : List Value}, l.all Vc.flat = true -> VRs C h l vs -> VRs C h' l vs
 | [], [], _, _ => VRs.nil
 | v :: l, c :: vs, q, r => by
  simp only [List.all_cons, Bool.and_eq_true] at q
  exact VRs.cons (VR.flat k hZ q.1 r.head) (VRs.flat k hZ q.2 r.tail)
 | [], _ :: _, _, r => (show False from r).elim
 | _ :: _, [], _, r => (show False from r).elim
end
structure Zs where
 z : Addr
 ti : Addr
 to : Addr
 i1 : Addr
 i2 : Addr
noncomputable def Zs.S (q : Zs) : Addr -> Prop := fun c => c = q.z ∨ c = q.to ∨ c = q.i1 ∨ c = q.i2
structure ZI (C : Cx) (env : Env) (vs : Vs) (H1 : MH) (s1 : Shared) (f la lb : Addr) (q : Zs) (k : Nat) (ρ : Lo) (acc : List V) (s : Shared) : Prop where
 st : Step C (Dm env) H1 s1 (upd H1 f (.lst acc)) s
 ex : ∀ a o, a ≠ f -> (H1 a).isSome = true -> s1.heap.get? a = some o -> s.heap.get? a = some o
 fi : FI C env vs ρ (upd H1 f (.lst acc)) s.heap
 zp : IsZip s.heap q.z q.ti q.to .none
 ti : IsPair s.heap q.ti (.ref q.i1) (.ref q.i2)
 to : ∃ a b, IsPair s.heap q.to a b /\ ∀ n t, b ≠ .int n t
 l1 : s.heap.IsListIter q.i1 la k
 l2 : s.heap.IsListIter q.i2 lb k
section
variable {C : Cx} {d : Md} {env : Env} {vs : Vs} {ns : Ns} {ρ : Lo} {H H1 H' : MH} {s s1 s2 s' s'' : Shared} {A : Around} {K : KP} {X : XS} {f la lb : Addr} {q : Zs} {k : Nat} {acc : List V}
theorem ZI.zshape (x : ZI C env vs H1 s1 f la lb q k ρ acc s) (c : Addr) (o : Obj) (hc : q.S c) (ho : s.heap.get? c = some o) :
  (o.cls ≠ .type "tuple" /\ o.cls ≠ .type "range") ∨ ∃ x y, o = { cls := .type "tuple", data := .seq #[x, y] } /\ ∀ n t, y ≠ .int n t := by
 rcases hc with rfl | rfl | rfl | rfl
 ·have := x.zp; unfold IsZip at this; rw [ho] at this; cases this; exact .inl ⟨by simp, by simp⟩
 ·refine Vc.xa_2_2 x.to fun a b h1 h2 => ?_
  unfold IsPair at h1
  rw [ho] at h1
  cases h1
  exact .inr ⟨a, b, rfl, h2⟩
 ·obtain ⟨o', h1, h2, _⟩ := x.l1; rw [ho] at h1; cases h1; rw [h2]; exact .inl ⟨by simp, by simp⟩
 ·obtain ⟨o', h1, h2, _⟩ := x.l2; rw [ho] at h1; cases h1; rw [h2]; exact .inl ⟨by simp, by simp⟩
theorem ZI.turn (x : ZI C env vs H1 s1 f la lb q k ρ acc s) (r1 : HR C H1 s1.heap) (t1 : C.h0.StaysIn s1.heap) (fi1 : ∃ ρ1, FI C env vs ρ1 H1 s1.heap) (hf : (H1 f).isSome = true) (hnew : ∀ c, q.S c -> s1.heap.get? c = none)
  (hfl : flats ρ /\ acc.all flat = true) (kp : ∀ c o, ¬ q.S c -> s.heap.get? c = some o -> s'.heap.get? c = some o) (hg : s'.gens = s.gens) (hos : s'.os = s.os) :
  Step C (Dm env) H1 s1 (upd H1 f (.lst acc)) s' /\ (∀ a o, a ≠ f -> (H1 a).isSome = true -> s1.heap.get? a = some o -> s'.heap.get? a = some o) /\ FI C env vs ρ (upd H1 f (.lst acc)) s'.heap := by
 have nS : ∀ {c o}, s1.heap.get? c = some o -> ¬ q.S c := fun e z => by rw [hnew _ z] at e; cases e
 have vk : VK s1.heap s'.heap := ⟨fun b o e so => kp b o (nS e) (x.st.vk.solid b o e so), fun b o vs r e c dd => by
   refine Vc.xa_2_2 (x.st.vk.exc b o vs r e c dd) fun o' vs' g g2 => ?_
   exact ⟨o', vs', kp b o' (nS e) g, g2⟩, fun b o es ep e dd => by
   refine Vc.xa_3_2 (x.st.vk.dct b o es ep e dd) fun o' es' ep' g g2 => ?_
   exact ⟨o', es', ep', kp b o' (nS e) g, g2⟩⟩
 have ex : ∀ a o, a ≠ f -> (H1 a).isSome = true -> s1.heap.get? a = some o -> s'.heap.get? a = some o := fun a o nf ha e => kp a o (nS e) (x.ex a o nf ha e)
 have rel : HR C (upd H1 f (.lst acc)) s'.heap := fun a o e => by
  by_cases w : a = f
  ·subst w
   refine Vc.xa_1_1 (r1.there hf) fun ob he => ?_
   obtain ⟨g0, items, p, vr⟩ := x.st.rel a _ (upd_self ..)
   rw [upd_self] at e; cases e
   exact ⟨g0, items, p.at fun o w => kp a o (nS he) w, vr.flat kp x.zshape hfl.2⟩
  ·rw [upd_ne w] at e
   exact (r1 a o e).keep vk fun ob g => ex a ob w (by rw [e]; rfl) g
 refine Vc.xa_1_1 fi1 fun ρ1 fi1 => ?_
 refine ⟨⟨rel, fun b o e n nd => ?_, fun b o e => kp b o (nS (t1 b o e)) (x.st.top b o e), x.st.dom, x.st.new, x.st.dn, vk, hg.trans x.st.gens, hos.trans x.st.os⟩, ex, ⟨x.fi.len, x.fi.locH, x.fi.loc0, ?_, fun i z e => ?_, fun z c e => ?_⟩⟩
 ·refine Vc.xa_1_2 (x.st.chg b o e n nd) fun sl w z => ?_
  exact ⟨sl, kp _ _ (nS e) w, z⟩
 ·refine Vc.xa_1_2 x.fi.ns fun m hm r => ?_
  refine Vc.xa_1_2 fi1.ns fun m1 ho139_1 zz => ?_
  obtain ⟨o1, _, _, ho1, _⟩ := ho139_1
  exact ⟨m, Ns.slots hm fun o ho => ⟨o.slots, kp _ _ (nS ho1) ho⟩, fun i z v e l => let ⟨cv, e1, e2⟩ := r i z v e l; ⟨cv, e1, e2.flat kp x.zshape (hfl.1 i v l)⟩⟩
 ·refine Vc.xa_2_5 (x.fi.cel i z e) fun c oc h1 h2 h3 ho141_5 h5 => ?_
  obtain ⟨o, ho, hd⟩ := ho141_5
  obtain ⟨_, _, _, o1, ho1, _⟩ := fi1.cex z c h1
  exact ⟨c, oc, h1, h2, h3, ⟨o, kp _ _ (nS ho1) ho, hd⟩, fun v l => let ⟨cv, e1, e2⟩ := h5 v l; ⟨cv, e1, e2.flat kp x.zshape (hfl.1 i v l)⟩⟩
 ·obtain ⟨h1, h2, oc, o, ho, hd⟩ := x.fi.cex z c e
  obtain ⟨_, _, _, o1, ho1, _⟩ := fi1.cex z c e
  exact ⟨h1, h2, oc, o, kp _ _ (nS ho1) ho, hd⟩
theorem hz_ok (r1 : HR C H1 s1.heap) (st : Step C (Dm env) H1 s1 (upd H1 f (.lst acc)) s) (ex : ∀ a o, a ≠ f -> (H1 a).isSome = true -> s1.heap.get? a = some o -> s.heap.get? a = some o) (ok : Ok C d (upd H1 f (.lst acc)) A s) : Ok C d (hzOf C H1 s1.heap f acc) A s := by
 refine ⟨fun a o e => ?_, ok.top, ok.room, ok.hnd, ?_⟩
 ·unfold hzOf at e
  by_cases w : a = f
  ·subst w; rw [if_pos rfl] at e; cases e; exact st.rel a _ (upd_self ..)
  ·rw [if_neg w] at e
   cases h0 : C.h0.get? a with
   | some _ => rw [h0] at e; cases e
   | none =>
    rw [h0] at e
    refine Vc.xa_1_2 (Option.bind_eq_some_iff.mp e) fun o1 e1 e2 => ?_
    refine Vc.xa_1_2 (Option.map_eq_some_iff.mp e2) fun ob e3 hr159_2 => ?_
    subst hr159_2
    exact ⟨h0, ex a ob w (by rw [e1]; rfl) e3, fun vs z => (r1 a o1 e1).not_fields e3 z⟩
 ·refine Vc.xa_1_2 ok.frs fun l e fr => ?_
  refine ⟨l, e, fun env he => ?_⟩
  obtain ⟨k, L, o, es, ep, g1, g2, g3, g4, g5⟩ := fr env he
  refine ⟨k, L, o, es, ep, g1, g2, g3, ?_, g5⟩
  have nf : L ≠ f := fun z => by subst z; rw [upd_self] at g4; cases g4
  rw [upd_ne nf] at g4
  unfold hzOf
  rw [if_neg nf, g5, g4]; rfl
theorem hz_none {a : Addr} (h : H1 a = none) (hf : (H1 f).isSome = true) : hzOf C H1 s1.heap f acc a = none := by
 unfold hzOf
 rw [if_neg (fun z => by subst z; rw [h] at hf; cases hf), h]
 cases C.h0.get? a <;> rfl
theorem FI.reH {H2 : MH} (x : FI C env vs ρ H s.heap) (fi1 : ∃ ρ1 h1, FI C env vs ρ1 H1 h1) (hn : ∀ b, H1 b = none -> H2 b = none) : FI C env vs ρ H2 s.heap := by
 refine Vc.xa_2_1 fi1 fun ρ1 h1 y => ?_
 try clear fi1
 exact ⟨x.len, hn _ y.locH, x.loc0, x.ns, fun i z e => let ⟨c, oc, g1, g2, g3⟩ := x.cel i z e; ⟨c, oc, g1, hn _ (y.cex z c g1).1, g3⟩, fun z c e => ⟨hn _ (y.cex z c e).1, (x.cex z c e).2⟩⟩
theorem upd_none {a b : Addr} {o : O} (h : H1 b = none) (hf : (H1 a).isSome = true) : upd H1 a o b = none := by
 rw [upd_ne (fun z => by subst z; rw [h] at hf; cases hf)]; exact h
theorem ZI.next {acc' : List V} {ρ' : Lo} {k' : Nat} (r1 : HR C H1 s1.heap) (t1 : C.h0.StaysIn s1.heap) (fi1 : ∃ ρ1 h1, FI C env vs ρ1 H1 h1) (hf : (H1 f).isSome = true) (hnew : ∀ c, q.S c -> s1.heap.get? c = none)
  (st : Step C (Dm env) H1 s1 (upd H1 f (.lst acc)) s) (y : Step C (Dm env) (hzOf C H1 s1.heap f acc) s H' s') (fi' : FI C env vs ρ' H' s'.heap) (fis : FI C env vs ρ (upd H1 f (.lst acc)) s.heap)
  (hfr : ∀ a, a ≠ f -> (hzOf C H1 s1.heap f acc a).isSome = true -> H' a = hzOf C H1 s1.heap f acc a) (hacc : H' f = some (.lst acc'))
  (zp : IsZip s.heap q.z q.ti q.to .none) (ti : IsPair s.heap q.ti (.ref q.i1) (.ref q.i2)) (to : ∃ a b, IsPair s.heap q.to a b /\ ∀ n t, b ≠ .int n t) (l1 : s.heap.IsListIter q.i1 la k') (l2 : s.heap.IsListIter q.i2 lb k') :
  ZI C env vs H1 s1 f la lb q k' ρ' acc' s' := by
 have ex : ∀ a o, a ≠ f -> (H1 a).isSome = true -> s1.heap.get? a = some o -> s'.heap.get? a = some o := fun a o nf ha e => by
  cases h0 : C.h0.get? a with
  | some ob =>
   have e1 := t1 a ob h0
   rw [e] at e1; cases e1
   exact y.top a o h0
  | none =>
   refine Vc.xa_1_1 (Option.isSome_iff_exists.mp ha) fun o1 g1 => ?_
   have hz : hzOf C H1 s1.heap f acc a = some (.prd (exP o)) := by unfold hzOf; rw [if_neg nf, h0, g1, e]; rfl
   have := hfr a nf (by rw [hz]; rfl)
   rw [hz] at this
   exact (y.rel a _ this).2.1
 have vk := st.vk.trans y.vk
 have up : ∀ {b : Addr} {o : Obj} {ws : Array Value}, s1.heap.get? b = none -> s.heap.get? b = some o -> o.data = .fields ws -> s'.heap.get? b = some o := fun {b o ws} n e dd => by
  refine Vc.xa_1_2 (y.chg b o e (hz_none (r1.fresh n) hf) (rec_dm fis e dd)) fun sl w z => ?_
  rw [z fun es ep u => by rw [dd] at u; cases u] at w; exact w
 refine ⟨⟨fun a o e => ?_, fun b o e n nd => ?_, y.top, fun b e => ?_, fun b e => ?_, fun b zz n => upd_none n hf, vk, y.gens.trans st.gens, y.os.trans st.os⟩, ex, fi'.reH fi1 fun b n => upd_none n hf, ?_, ?_, ?_, ?_, ?_⟩
 ·by_cases w : a = f
  ·subst w; rw [upd_self] at e; cases e; exact y.rel a _ hacc
  ·rw [upd_ne w] at e
   exact (r1 a o e).keep vk fun ob g => ex a ob w (by rw [e]; rfl) g
 ·refine Vc.xa_1_2 (st.chg b o e n nd) fun sl w z => ?_
  refine Vc.xa_1_2 (y.chg b _ w (hz_none n hf) nd) fun sl' w' z' => ?_
  exact ⟨sl', w', fun u => (z' u).trans (z u)⟩
 ·by_cases w : b = f
  ·subst w; rw [upd_self]; rfl
  ·rw [upd_ne w]; exact e
 ·by_cases w : b = f
  ·subst w; exact .inl hf
  ·rw [upd_ne w] at e; exact .inl e
 ·exact up (hnew _ (.inl rfl)) zp rfl
 ·exact y.vk.solid _ _ ti (.inl ⟨rfl, _, _, rfl⟩)
 ·refine Vc.xa_2_2 to fun a b h1 h2 => ?_
  try clear to
  exact ⟨a, b, y.vk.solid _ _ h1 (.inl ⟨rfl, _, _, rfl⟩), h2⟩
 ·refine Vc.xa_1_3 l1 fun o h1 h2 h3 => ?_
  try clear l1
  exact ⟨o, up (hnew _ (.inr (.inr (.inl rfl)))) h1 h3, h2, h3⟩
 ·refine Vc.xa_1_3 l2 fun o h1 h2 h3 => ?_
  try clear l2
  exact ⟨o, up (hnew _ (.inr (.inr (.inr rfl)))) h1 h3, h2, h3⟩
theorem zip_apart (r1 : HR C H1 s1.heap) {xs ys : List V} (hla : H1 la = some (.lst xs)) (hlb : H1 lb = some (.lst ys)) : ZipApart (s1.heap.objs.size + 4) (s1.heap.objs.size + 2) (s1.heap.objs.size + 3) s1.heap.objs.size (s1.heap.objs.size + 1) la lb := by
 refine Vc.xa_1_1 ((r1 la _ hla).there) fun o1 h1 => ?_
 refine Vc.xa_1_1 ((r1 lb _ hlb).there) fun o2 h2 => ?_
 have e : ∀ {a b : Nat}, a ≠ b -> s1.heap.objs.size + a ≠ s1.heap.objs.size + b := fun {a b} h => by omega
 have g : ∀ {x a : Nat}, x < s1.heap.objs.size -> x ≠ s1.heap.objs.size + a := fun {x a} h => by omega
 have g1 := Heap.lt_size h1
 have g2 := Heap.lt_size h2
 exact ⟨e (by decide), e (by decide), e (a := 0) (by decide), e (by decide), e (by decide), e (b := 0) (by decide), e (by decide), e (b := 0) (by decide), e (by decide), e (a := 0) (by decide), g g1, g g1, g (a := 0) g1, g g1, g g2, g g2, g (a := 0) g2, g g2⟩
theorem wpZ_end {stp : Lo -> MH -> KP -> Prop} {i j : Nat} {K : Lo -> List V -> Prop} : ∀ {xs ys : List V}, (xs = [] ∨ ys = []) -> wpZ stp f i j xs ys ρ acc K -> (flats ρ /\ acc.all flat = true) /\ K ρ acc
 | [], _, _, W => W
 | _ :: _, [], _, W => W
 | _ :: _, _ :: _, h, _ => by rcases h with h | h <;> cases h
theorem zip_turn {i j n : Nat} {es : List Expr} {kk : Nat} {tp : Pos} {tg : List Str} {body : List St} {body' : List Stmt} {xs : List V} {bs : List Bool} {J : Nat -> Shared -> Prop} {R : Result -> Shared -> Prop} {nb : Value -> Shared -> Prop} {KZ : Lo -> List V -> Prop}
  (ES : EnvS env vs ns) (ea : EA A env) (ok : Ok C d H1 A s1) (hq : d.q = true) (ht : tgt? (.Tuple es kk tp) = some tg) (hc : chkTg vs [i, j] tg = true) (hb : SndSs C d body body' vs ns)
  (fi1 : ∃ ρ1, FI C env vs ρ1 H1 s1.heap) (hla : H1 la = some (.lst xs)) (hlb : H1 lb = some (.lst (bs.map .bool))) (hfl : ∃ l0, H1 f = some (.lst l0)) (hnf : la ≠ f /\ lb ≠ f) (D : ZipApart q.z q.ti q.to q.i1 q.i2 la lb) (hnew : ∀ c, q.S c -> s1.heap.get? c = none)
  (zi : ZI C env vs H1 s1 f la lb q k ρ acc s) (hn : n = xs.length - k) (W : wpZ (fun ρ' H' K' => wpSs C d body ρ' H' K' (fun zz zz zz => False)) f i j (xs.drop k) ((bs.map V.bool).drop k) ρ acc KZ)
  (hJ : ∀ ρ acc s, k < xs.length -> ZI C env vs H1 s1 f la lb q (k + 1) ρ acc s -> wpZ (fun ρ' H' K' => wpSs C d body ρ' H' K' (fun zz zz zz => False)) f i j (xs.drop (k + 1)) ((bs.map V.bool).drop (k + 1)) ρ acc KZ -> J (xs.length - (k + 1)) s)
  (hR : ∀ s ρ acc, Step C (Dm env) H1 s1 (upd H1 f (.lst acc)) s -> FI C env vs ρ (upd H1 f (.lst acc)) s.heap -> KZ ρ acc -> R (.ok .next) s) :
  wpAny C.M A (pyNext (.ref q.z)) (fun r s₁ => match r with
   | none => wpAny C.M A (execs [] env) (fun f s₃ => R (.ok f) s₃) nb s₁
   | some v => wpAny C.M A (letOwnedTupleGo (.Tuple es kk tp) (.ref q.z) v) (fun zz s₁' =>
     wpAny C.M A (assign (.Tuple es kk tp) env v) (fun zz s₂ => wpAny C.M A (execs body' env) (fun f s₃ => match f with
      | .next | .cont => ∃ m, m < n /\ J m s₃
      | .brk => R (.ok .next) s₃
      | .ret v => R (.ok (.ret v)) s₃) nb s₂) nb s₁') nb s₁) nb s := by
 refine Vc.xa_1_1 fi1 fun ρ1 fi1 => ?_
 refine Vc.xa_1_1 hfl fun l0 hl0 => ?_
 try clear hfl
 have hf : (H1 f).isSome = true := by rw [hl0]; rfl
 obtain ⟨_, ix, px, rx⟩ := ok.rel la _ hla
 obtain ⟨_, iy, py, ry⟩ := ok.rel lb _ hlb
 refine Vc.xa_1_1 px fun nx px => ?_
 refine Vc.xa_1_1 py fun ny py => ?_
 have gx := zi.ex la _ hnf.1 (by rw [hla]; rfl) px
 have gy := zi.ex lb _ hnf.2 (by rw [hlb]; rfl) py
 have Lx : s.heap.IsList la ix := ⟨_, gx, rfl, _, rfl⟩
 have Ly : s.heap.IsList lb iy := ⟨_, gy, rfl, _, rfl⟩
 have lx := rx.length
 have ly := ry.length
 refine Vc.xa_2_2 zi.to fun ta tb hto htb => ?_
 have lxk : xs.length = ix.size := by rw [lx, Array.length_toList]
 have lyk : (bs.map V.bool).length = iy.size := by rw [ly, Array.length_toList]
 have stop : (ix[k]? = none ∨ iy[k]? = none) -> wpAny C.M A (pyNext (.ref q.z)) (fun r s₁ => match r with
   | none => wpAny C.M A (execs [] env) (fun f s₃ => R (.ok f) s₃) nb s₁
   | some v => wpAny C.M A (letOwnedTupleGo (.Tuple es kk tp) (.ref q.z) v) (fun zz s₁' =>
     wpAny C.M A (assign (.Tuple es kk tp) env v) (fun zz s₂ => wpAny C.M A (execs body' env) (fun f s₃ => match f with
      | .next | .cont => ∃ m, m < n /\ J m s₃
      | .brk => R (.ok .next) s₃
      | .ret v => R (.ok (.ret v)) s₃) nb s₂) nb s₁') nb s₁) nb s := fun hend => by
  have W := wpZ_end (hend.imp (fun h => List.drop_eq_nil_of_le (by rw [lxk]; exact Array.getElem?_eq_none_iff.mp h)) fun h => List.drop_eq_nil_of_le (by rw [lyk]; exact Array.getElem?_eq_none_iff.mp h)) W
  refine wpAny_pyNext_zip_end (ok.hnd.1 hq) D zi.zp zi.ti hto zi.l1 zi.l2 Lx Ly hend fun h' hk => ?_
  refine Vc.xa_0_3 (zi.turn (s' := { s with heap := h' }) ok.rel ok.top ⟨ρ1, fi1⟩ hf hnew W.1 (fun c o nS e => hk c o (fun z => nS (.inl z)) (fun z => nS (.inr (.inl z))) (fun z => nS (.inr (.inr (.inl z)))) (fun z => nS (.inr (.inr (.inr z)))) e) rfl rfl) fun st' zz fi' => ?_
  exact wpAny_execs_nil (hR _ _ _ st' fi' W.2)
 cases ex : ix[k]? with
 | none => exact stop (.inl ex)
 | some cx =>
  cases ey : iy[k]? with
  | none => exact stop (.inr ey)
  | some cy =>
   have hkx : k < xs.length := by rw [lxk]; exact (Array.getElem?_eq_some_iff.mp ex).1
   have hky : k < (bs.map V.bool).length := by rw [lyk]; exact (Array.getElem?_eq_some_iff.mp ey).1
   have hkb : k < bs.length := by rw [List.length_map] at hky; exact hky
   rw [List.drop_eq_getElem_cons hkx, List.drop_eq_getElem_cons hky] at W
   refine Vc.xa_1_2 (rx.get (List.getElem?_eq_getElem hkx)) fun cx' e1 vx => ?_
   refine Vc.xa_1_2 (ry.get (List.getElem?_eq_getElem hky)) fun cy' e2 vy => ?_
   rw [Array.getElem?_toList, ex] at e1; cases e1
   rw [Array.getElem?_toList, ey] at e2; cases e2
   rw [List.getElem_map] at vy
   have hcy : cy = .bool bs[k] := by dsimp only [VR] at vy; exact vy
   refine wpAny_pyNext_zip_item D zi.zp zi.ti hto zi.l1 zi.l2 Lx Ly ex ey fun h' a1 a2 a3 a4 a5 a6 hk => ?_
   refine wpAny_letOwnedTupleGo_zip a1 fun h2 hz2 hs2 => ?_
   have kp : ∀ c o, ¬ q.S c -> s.heap.get? c = some o -> h2.get? c = some o := fun c o nS e => (hs2.2 c fun z => nS (.inl z)).trans (hk c o (fun z => nS (.inl z)) (fun z => nS (.inr (.inl z))) (fun z => nS (.inr (.inr (.inl z)))) (fun z => nS (.inr (.inr (.inr z)))) e)
   refine Vc.xa_0_3 (zi.turn (s' := { s with heap := h2 }) ok.rel ok.top ⟨ρ1, fi1⟩ hf hnew W.1 kp rfl rfl) fun st' ex' fi' => ?_
   have okz := hz_ok ok.rel st' ex' (ok.step st')
   have fiz : FI C env vs ρ (hzOf C H1 s1.heap f acc) h2 := FI.reH (s := { s with heap := h2 }) fi' ⟨ρ1, _, fi1⟩ fun b n => hz_none n hf
   have hT : h2.get? s.heap.objs.size = some { cls := .type "tuple", data := .seq #[cx, cy] } := (hs2.2 _ (Nat.ne_of_gt (Heap.lt_size zi.zp))).trans a5
   have vr : VR C h2 (.tup [xs[k], (bs.map V.bool)[k]]) (.ref s.heap.objs.size) := by
    dsimp only [VR]
    exact ⟨_, #[cx, cy], ⟨rfl, .of hT rfl⟩, ⟨_, hT, rfl, 0, rfl⟩, VRs.cons (vx.keep st'.vk) (VRs.cons (by rw [List.getElem_map]; exact vy.keep st'.vk) VRs.nil)⟩
   refine assign_tgt (s := { s with heap := h2 }) ES ht hc okz fiz vr rfl fun sc stc fic => ?_
   refine wpAny_mono (hb env A sc _ _ _ _ ES ea (okz.step stc) fic (W.2 _ (if_pos rfl))) (fun fl sd hsd => ?_) (fun e s' hx => ?_)
   ·refine Vc.xa_3_4 hsd fun fl' ρd Hd std fid frd Wd => ?_
    try clear hsd
    cases fl' with
    | next =>
     cases frd
     obtain ⟨hfr, acc', hacc, Wd⟩ := Wd
     refine ⟨xs.length - (k + 1), hn ▸ Nat.sub_lt_sub_left hkx (Nat.lt_succ_self k), hJ ρd acc' sd hkx (ZI.next (s := { s with heap := h2 }) ok.rel ok.top ⟨ρ1, _, fi1⟩ hf hnew st' ((stc.widen fun b hb => dxs_dm hb).trans std) fid fi' hfr hacc hz2 ?_ ⟨cx, cy, (hs2.2 _ D.TOz).trans a2, fun n t => by rw [hcy]; exact Value.noConfusion⟩ ?_ ?_) Wd⟩
     ·exact kp _ _ (fun z => z.elim D.TIz fun z => z.elim D.TITO fun z => z.elim D.TIi1 D.TIi2) zi.ti
     ·exact a3.at fun o e => (hs2.2 _ D.i1z).trans e
     ·exact a4.at fun o e => (hs2.2 _ D.i2z).trans e
    | ret v => exact Wd.elim
   ·obtain ⟨_, _, _, _, _, _, _, _, _, w⟩ := hx
    exact w.elim
theorem zip_core {i j : Nat} {es : List Expr} {kk : Nat} {tp : Pos} {tg : List Str} {body : List St} {body' : List Stmt} {xs : List V} {bs : List Bool} {KZ : Lo -> List V -> Prop} {R : Result -> Shared -> Prop}
  (ES : EnvS env vs ns) (ea : EA A env) (ok : Ok C d H1 A s1) (hq : d.q = true) (ht : tgt? (.Tuple es kk tp) = some tg) (hc : chkTg vs [i, j] tg = true) (hb : SndSs C d body body' vs ns)
  (fi1 : FI C env vs ρ H1 s1.heap) (hla : H1 la = some (.lst xs)) (hlb : H1 lb = some (.lst (bs.map .bool))) (hfl : H1 f = some (.lst acc)) (hnf : la ≠ f /\ lb ≠ f) (D : ZipApart q.z q.ti q.to q.i1 q.i2 la lb) (hnew : ∀ c, q.S c -> s1.heap.get? c = none)
  (zi : ZI C env vs H1 s1 f la lb q 0 ρ acc s) (W : wpZ (fun ρ' H' K' => wpSs C d body ρ' H' K' (fun zz zz zz => False)) f i j xs (bs.map V.bool) ρ acc KZ)
  (hR : ∀ s ρ acc, Step C (Dm env) H1 s1 (upd H1 f (.lst acc)) s -> FI C env vs ρ (upd H1 f (.lst acc)) s.heap -> KZ ρ acc -> R (.ok .next) s) :
  codeAny C.M A (.forLoop (.Tuple es kk tp) (.ref q.z) body' [] env) R s := by
 obtain ⟨J, hJ⟩ : ∃ J : Nat -> Shared -> Prop, J = fun n s => ∃ k ρ acc, (n = xs.length - k) /\ ZI C env vs H1 s1 f la lb q k ρ acc s /\ wpZ (fun ρ' H' K' => wpSs C d body ρ' H' K' (fun zz zz zz => False)) f i j (xs.drop k) ((bs.map V.bool).drop k) ρ acc KZ := ⟨_, rfl⟩
 refine codeAny_forLoop_any J (fun n s hI => ?_) xs.length (hJ ▸ ⟨0, ρ, acc, rfl, zi, W⟩)
 rw [hJ] at hI
 refine Vc.xa_3_3 hI fun k ρc acc' hn zi Wc => ?_
 try clear hI
 exact zip_turn (J := J) (R := R) ES ea ok hq ht hc hb ⟨ρ, fi1⟩ hla hlb ⟨_, hfl⟩ hnf D hnew zi hn Wc (fun ρ' acc' s' a b c => hJ ▸ ⟨k + 1, ρ', acc', rfl, b, c⟩) hR
theorem tgt_tup {us : List Expr} {k : Nat} {p : Pos} {xs : List Str} (h : names? us = some xs) (h2 : 2 <= us.length) : tgt? (.Tuple us k p) = some xs := by
 show (if 2 <= us.length then names? us else none) = some xs
 rw [if_pos h2]; exact h
theorem sndS_fz {i j : Nat} {a b : Ex} {ts : List Expr} {kk : Nat} {tp : Pos} {as' : List Expr} {id : Str} {q1 q2 p : Pos} {tg : List Str} {body : List St} {body' : List Stmt} (G : C.Good) (ht : tgt? (.Tuple ts kk tp) = some tg) (hc : chkTg vs [i, j] tg = true)
  (hg : gOk ns "zip" id = true) (hes : chkEs vs ns [a, b] as' = true) (he : SndEs C d [a, b] as' vs ns) (hb : SndSs C d body body' vs ns) : SndS C d (.fz i j a b body) (.For (.Tuple ts kk tp) (.Call (.Name id q1) as' [] q2) body' [] p) vs ns := by
 intro env A s ρ H K X ES ea ok fi W
 dsimp only [wpS] at W
 obtain ⟨hG, hq, W⟩ := W
 refine wpAny_For (wpAny_Call_Name_kw (load_gl G ES hg ok.top hG ?_)) (fun x => rfl)
 refine callWith_any (starEach_false hes q2) callee_type ?_
 refine wpAny_mono (he env A s ρ H _ _ q2 ES ea ok fi W) (fun cvs s1 hq1 => Vc.xa_2_3 hq1 fun vl H1 st1 r1 W1 => ⟨st1.top, ?_⟩) fun zz zz x => x.toS fi
 rw [List.nil_append]
 obtain ⟨la, lb, xs, bs, f, acc, rfl, hnf, ⟨hla, hlb⟩, hf, W1⟩ := W1
 obtain ⟨c1, r2, rfl, ra, r1⟩ := r1.inv_cons
 obtain ⟨c2, r3, rfl, rb, r1⟩ := r1.inv_cons
 cases r1.inv_nil
 dsimp only [VR] at ra rb
 subst ra; subst rb
 have ok1 := ok.step st1
 have fi1 := fi.stepN st1
 have stw := st1.weaken fi.dm
 obtain ⟨_, ix, px, rx⟩ := ok1.rel la _ hla
 obtain ⟨_, iy, py, ry⟩ := ok1.rel lb _ hlb
 refine call_zip_2 px.isList py.isList fun h' z1 z2 z3 z4 z5 z6 kp => ?_
 refine wpAny_pyIter_zip z1 ?_
 have nn : ∀ n, s1.heap.get? (s1.heap.objs.size + n) = none := fun n => by
  cases e : s1.heap.get? (s1.heap.objs.size + n) with
  | none => rfl
  | some o => exact absurd (Heap.lt_size e) (Nat.not_lt.mpr (Nat.le_add_right _ _))
 have st2 : Step C No H1 s1 H1 { s1 with heap := h' } := Step.keeps ok1.rel ok1.top kp rfl rfl
 refine zip_core (s := { s1 with heap := h' }) (q := ⟨s1.heap.objs.size + 4, s1.heap.objs.size + 2, s1.heap.objs.size + 3, s1.heap.objs.size, s1.heap.objs.size + 1⟩) ES ea ok1 hq ht hc hb fi1 hla hlb hf hnf (zip_apart ok1.rel hla hlb) (fun c hc => ?_)
  ⟨?_, fun a o zz zz e => kp a o e, ?_, z1, z2, ⟨_, _, z3, fun n t => Value.noConfusion⟩, z4, z5⟩ W1 fun s' ρ' acc' st' fi' kz => ?_
 ·rcases hc with rfl | rfl | rfl | rfl
  ·exact nn 4
  ·exact nn 3
  ·exact nn 0
  ·exact nn 1
 ·rw [upd_id hf]; exact st2.weaken fi1.dm
 ·rw [upd_id hf]; exact fi1.stepN st2
 ·exact ⟨.next, ρ', _, stw.trans st', fi', rfl, kz⟩
end
end Vc
end
section
namespace Vc
open PySem
section
variable {C : Cx} {d : Md} {env : Env} {vs : Vs} {ns : Ns} {ρ : Lo} {H H1 H' : MH} {s s1 s2 s' s'' : Shared} {A : Around} {K : KP} {X : XS} {E : Value -> Shared -> Prop}
end
end Vc
end
section
namespace Vc
open PySem
section
variable {C : Cx} {d : Md} {env : Env} {vs : Vs} {ns : Ns} {ρ : Lo} {H H1 H' : MH} {s s1 s2 s' s'' : Shared} {A : Around} {K : KP} {X : XS} {D : Addr -> Prop}
theorem sndS_seta {o e : Ex} {a : String} {o' e' : Expr} {q p : Pos} (hn : notComp e' = true) (he : SndE C d e e' vs ns) (ho : SndE C d o o' vs ns) : SndS C d (.seta o a e) (.Assign [.Attribute o' (Str.ofString a) q] e' p) vs ns := by
 intro env A s ρ H K X ES ea ok fi W
 dsimp only [wpS] at W
 refine wpAny_Assign_stores (wpAny_mono (he env A s ρ H _ _ ES ea ok fi W) (fun cv s1 hq1 => Vc.xa_2_3 hq1 fun v H1 st1 r1 W1 => ?_) fun zz zz x => x.toS fi) (show swapsWith e' (some (.Attribute o' (Str.ofString a) q)) p.line env = pure false from swaps_no hn) rfl
 show wpAny C.M A (do
  let ov <- holding [cv] (eval o' env)
  standAt q.atName
  holding [cv, ov] (setAttr ov (Str.ofString a) cv)
  release [cv, ov] []) _ _ s1
 refine wpAny_bind (wpAny_holding (wpAny_mono (ho env A s1 ρ H1 _ _ ES ea (ok.step st1) (fi.stepN st1) W1) (fun co s2 hq2 => Vc.xa_2_3 hq2 fun ov H2 st2 r2 W2 => ?_) fun zz zz x => (x.back st1).toS fi))
 have st12 := st1.trans st2
 refine wpAny_bind (wpAny_standAt (wpAny_bind (wpAny_holding (wpAny_mono (W2 A s2 co cv (ok.step st12) r2 (r1.keep st2.vk)) (fun zz s4 hq3 => Vc.xa_1_2 hq3 fun H4 st4 W4 => ?_) fun zz zz x => (x.back st12).toS fi))))
 have st := st12.trans st4
 exact wpAny_release ⟨.next, ρ, H4, st.weaken fi.dm, fi.stepN st, rfl, W4⟩
theorem sndS_rais {c m : String} {id : Str} {q cp p1 p2 : Pos} {k : Nat} {y : Str} (hg : gOk ns c id = true) : SndS C d (.rais c m) (.Raise (some (.Call (.Name id q) [.Constant (.str y) k cp] [] p1)) none p2) vs ns := by
 intro env A s ρ H K X ES ea ok fi W
 dsimp only [wpS] at W
 unfold gOk at hg
 simp only [Bool.and_eq_true, beq_iff_eq, Bool.not_eq_true'] at hg
 refine Vc.xa_0_2 hg fun ho31_0 hd => ?_
 try clear hg
 obtain ⟨rfl, hk⟩ := ho31_0
 exact wpAny_mono (W A s y ok env p2 p1 q cp k (by unfold Env.kindOf; rw [ES.names]; exact hk) ES.kind ES.glb ES.blt) (fun zz zz f => f.elim) fun zz zz x => x.toS fi
theorem sS_asg (G : C.Good) {i : Nat} {e : Ex} {id : Str} {q p : Pos} {e' : Expr} (h1 : vOk vs i id = true) (hn : (!ncE e || notComp e') = true) (h2 : chkE vs ns e e' = true) : SndS C d (.asg i e) (.Assign [.Name id q] e' p) vs ns := by
 by_cases hx : e.ctorIdx = 21
 ·refine Ex.comp.elim (motive_1 := fun e => chkE vs ns e e' = true -> SndS C d (.asg i e) (.Assign [.Name id q] e' p) vs ns) e hx (fun k elt it ifs h2 => ?_) h2
  refine iv_comp (P := fun e' => SndS C d (.asg i (.comp k elt it ifs)) (.Assign [.Name id q] e' p) vs ns) h2 fun elt' t' it' ifs' sc p' tg h0 hk t h8 h9 h10 h11 => ?_
  subst hk
  exact sndS_asgC h1 h0 t.loc t.nd t.kind t.nc t.nl t.fr h8 (sE G it it' vs ns h9) (sE G elt elt' _ _ h10) (sAllT G ifs ifs' _ _ h11).ts
 ·have hb : ncE e = true := by unfold ncE; rw [beq_eq_false_iff_ne.mpr hx]; rfl
  rw [hb] at hn
  exact sndS_asg h1 (sE G e e' vs ns h2) hn
theorem sS_for (G : C.Good) {k : List Nat} {src : Src} {body : List St} {t e' : Expr} {body' : List Stmt} {p : Pos} {xs : List Str} (hx : tgt? t = some xs) (h : (chkTg vs k xs && chkTup src t && chkSrc vs ns src e' && chkSs vs ns body body') = true) (sb : SndSs C d body body' vs ns) :
  SndS C d (.for k src body) (.For t e' body' [] p) vs ns := by
 have h3 := and_r (and_l h)
 have h1 := and_l (and_l (and_l h))
 cases src with
 | pl e => exact sndS_for_pl hx h1 (and_l h3) (sE G e _ vs ns (and_r h3)) sb
 | en e => intro env A s ρ H K X ES ea ok fi W; exact (show False from W).elim
 | zp a b => exact (Bool.false_ne_true h3).elim
theorem as_e {P : Stmt -> Prop} {t' : Stmt} {f : Expr -> Expr -> Bool} (h : pSAs t' (fun ts e' zz => p1 ts fun t => f t e') = true) (k : ∀ t e' p, f t e' = true -> P (.Assign [t] e' p)) : P t' :=
 pSAs_e h fun ts e' p h => p1_e (P := fun ts => P (.Assign ts e' p)) h fun t h => k t e' p h
theorem iv_rais {P : Stmt -> Prop} {c m : String} {t' : Stmt} (hc : chkS vs ns (.rais c m) t' = true) (k : ∀ id q y j cp p1 p2, gOk ns c id = true -> P (.Raise (some (.Call (.Name id q) [.Constant (.str y) j cp] [] p1)) none p2)) : P t' :=
 pSRa_e hc fun x y p2 h => pO_e (P := fun x => P (.Raise x y p2)) (and_r h) fun x hx => (show y = none from Option.isNone_iff_eq_none.mp (and_l h)) ▸
  pCal_e (P := fun x => P (.Raise (some x) none p2)) hx fun g as ks p1 h => em_e (P := fun ks => P (.Raise (some (.Call g as ks p1)) none p2)) (and_l h) (pNm_e (P := fun g => P (.Raise (some (.Call g as [] p1)) none p2)) (and_r h) fun id q h =>
   p1_e (P := fun as => P (.Raise (some (.Call (.Name id q) as [] p1)) none p2)) h fun a h => pCst_e (P := fun a => P (.Raise (some (.Call (.Name id q) [a] [] p1)) none p2)) h fun v j cp h =>
    pStr_e (P := fun v => P (.Raise (some (.Call (.Name id q) [.Constant v j cp] [] p1)) none p2)) h fun y h => k id q y j cp p1 p2 h)
theorem iv_tre {P : Stmt -> Prop} {b hb el : List St} {c : String} {a : Option Nat} {t' : Stmt} (hc : chkS vs ns (.tre b c a hb el) t' = true) (k : ∀ b' i0 q nm t0 hb' p el' p2,
  (gOk ns c i0 && chkSs vs ns b b' && chkAs vs a nm && chkSs vs ns hb (t0 :: hb') && chkSs vs ns el el') = true -> P (.Try b' [.ExceptHandler (some (.Name i0 q)) nm (t0 :: hb') p] el' [] p2)) : P t' :=
 pSTr_e hc fun b' hs el' z p2 h => em_e (P := fun z => P (.Try b' hs el' z p2)) (and_l h) (p1_e (P := fun hs => P (.Try b' hs el' [] p2)) (and_r h) fun h0 h => pHd_e (P := fun h0 => P (.Try b' [h0] el' [] p2)) h fun x nm hb' p h =>
  pO_e (P := fun x => P (.Try b' [.ExceptHandler x nm hb' p] el' [] p2)) h fun x h => pNm_e (P := fun x => P (.Try b' [.ExceptHandler (some x) nm hb' p] el' [] p2)) h fun i0 q h =>
   pC_e (P := fun hb' => P (.Try b' [.ExceptHandler (some (.Name i0 q)) nm hb' p] el' [] p2)) h fun t0 hb' h => k b' i0 q nm t0 hb' p el' p2 h)
end
section
variable {C : Cx}
mutual
theorem sS (G : C.Good) {d : Md} : ∀ (t : St) (t' : Stmt) (vs : Vs) (ns : Ns), chkS vs ns t t' = true -> SndS C d t t' vs ns
 | .asg i e, t', vs, ns, hc => as_e (P := fun t' => SndS C d (.asg i e) t' vs ns) hc fun t e' p h => pNm_e (P := fun t => SndS C d (.asg i e) (.Assign [t] e' p) vs ns) h fun id q h => sS_asg G (and_l h) (and_l (and_r h)) (and_r (and_r h))
 | .unp is e, t', vs, ns, hc => as_e (P := fun t' => SndS C d (.unp is e) t' vs ns) hc fun t e' p h => pTup_e (P := fun t => SndS C d (.unp is e) (.Assign [t] e' p) vs ns) h fun us k q h =>
   pO_e (P := fun o => names? us = o -> SndS C d (.unp is e) (.Assign [.Tuple us k q] e' p) vs ns) h (fun xs h hx => sndS_unp hx (and_l (and_l (and_l (and_l h)))) (of_decide_eq_true (and_r (and_l (and_l (and_l h))))) (sE G e _ vs ns (and_r h)) (and_r (and_l h)) (and_r (and_l (and_l h)))) rfl
 | .seti o i e, t', vs, ns, hc => as_e (P := fun t' => SndS C d (.seti o i e) t' vs ns) hc fun t e' p h => pSub_e (P := fun t => SndS C d (.seti o i e) (.Assign [t] e' p) vs ns) h fun o' i' q h =>
   sndS_seti (and_r (and_l (and_l (and_l h)))) (sE G e _ vs ns (and_r (and_l (and_l h)))) (sE G o _ vs ns (and_r (and_l h))) (sE G i _ vs ns (and_r h))
 | .seta o a e, t', vs, ns, hc => as_e (P := fun t' => SndS C d (.seta o a e) t' vs ns) hc fun t e' p h => pAtt_e (P := fun t => SndS C d (.seta o a e) (.Assign [t] e' p) vs ns) h fun o' a' q h =>
   eq_of_beq (and_l (and_l (and_l h))) ▸ sndS_seta (and_r (and_l (and_l h))) (sE G e _ vs ns (and_r (and_l h))) (sE G o _ vs ns (and_r h))
 | .exp e, t', vs, ns, hc => pSEx_e (P := fun t' => SndS C d (.exp e) t' vs ns) hc fun e' p h => sndS_exp (and_l h) (sE G e _ vs ns (and_r h))
 | .ret e, t', vs, ns, hc => pSRt_e (P := fun t' => SndS C d (.ret e) t' vs ns) hc fun o p h => pO_e (P := fun o => SndS C d (.ret e) (.Return o p) vs ns) h fun e' h => sndS_ret (sE G e _ vs ns h)
 | .ife c a b, t', vs, ns, hc => pSIf_e (P := fun t' => SndS C d (.ife c a b) t' vs ns) hc fun c' a' b' p h => sndS_ife (sT G c _ vs ns (and_l (and_l h))) (sSs G a _ vs ns (and_r (and_l h))) (sSs G b _ vs ns (and_r h))
 | .for k src body, t', vs, ns, hc => pSFo_e (P := fun t' => SndS C d (.for k src body) t' vs ns) hc fun t e' body' l p h => em_e (P := fun l => SndS C d (.for k src body) (.For t e' body' l p) vs ns) (and_l h)
   (pO_e (P := fun o => tgt? t = o -> SndS C d (.for k src body) (.For t e' body' [] p) vs ns) (and_r h) (fun xs h hx => sS_for G hx h (sSs G body _ vs ns (and_r h))) rfl)
 | .whl c body, t', vs, ns, hc => pSWh_e (P := fun t' => SndS C d (.whl c body) t' vs ns) hc fun c' body' l p h => em_e (P := fun l => SndS C d (.whl c body) (.While c' body' l p) vs ns) (and_l h) (sndS_whl (sT G c _ vs ns (and_l (and_r h))) (sSs G body _ vs ns (and_r (and_r h))))
 | .rais c m, t', vs, ns, hc => iv_rais (P := fun t' => SndS C d (.rais c m) t' vs ns) hc fun id q y j cp p1 p2 h => sndS_rais h
 | .tre b c a hb el, t', vs, ns, hc => by intro env A s ρ H K X ES ea ok fi W; exact (show False from W).elim
 | .pas, t', vs, ns, hc => pSPa_e (P := fun t' => SndS C d .pas t' vs ns) hc fun p h => sndS_pas
 | .fz i j a b body, t', vs, ns, hc => pSFo_e (P := fun t' => SndS C d (.fz i j a b body) t' vs ns) hc fun t e' body' l p h => em_e (P := fun l => SndS C d (.fz i j a b body) (.For t e' body' l p) vs ns) (and_l (and_l (and_l h)))
   (pTup_e (P := fun t => SndS C d (.fz i j a b body) (.For t e' body' [] p) vs ns) (and_r (and_l (and_l h))) fun us k q hu => pO_e (P := fun o => names? us = o -> SndS C d (.fz i j a b body) (.For (.Tuple us k q) e' body' [] p) vs ns) hu (fun xs hu hx =>
    pCal_e (P := fun e' => SndS C d (.fz i j a b body) (.For (.Tuple us k q) e' body' [] p) vs ns) (and_r (and_l h)) fun g as ks p1 hz => pNm_e (P := fun g => SndS C d (.fz i j a b body) (.For (.Tuple us k q) (.Call g as ks p1) body' [] p) vs ns) hz fun id q1 hz =>
     em_e (P := fun ks => SndS C d (.fz i j a b body) (.For (.Tuple us k q) (.Call (.Name id q1) as ks p1) body' [] p) vs ns) (and_l hz) (sndS_fz G (tgt_tup hx (of_decide_eq_true (and_r hu))) (and_l hu) (and_l (and_r hz)) (and_r (and_r hz)) (AllE.es (and_r (and_r hz)) (sAll G [a, b] _ vs ns (and_r (and_r hz)))) (sSs G body _ vs ns (and_r h)))) rfl)
theorem sSs (G : C.Good) {d : Md} : ∀ (t : List St) (t' : List Stmt) (vs : Vs) (ns : Ns), chkSs vs ns t t' = true -> SndSs C d t t' vs ns
 | [], t', vs, ns, hc => em_e (P := fun t' => SndSs C d [] t' vs ns) hc sndSs_nil
 | t :: ts, t', vs, ns, hc => pC_e (P := fun t' => SndSs C d (t :: ts) t' vs ns) hc fun t1 ts1 h => sndSs_cons (sS G t t1 vs ns (and_l h)) (sSs G ts ts1 vs ns (and_r h))
end
end
end Vc
end
section
namespace Vc
open PySem
theorem lookup_zip {names : List Str} : ∀ {vals : List Value} {i : Nat} {x : Str}, vals.length = names.length -> names.Nodup -> names[i]? = some x -> (names.zip vals).lookup x = vals[i]? := by
 induction names with
 | nil => intro vals i x _ _ h; simp at h
 | cons n ns ih =>
  intro vals i x hl nd h
  cases vals with
  | nil => simp at hl
  | cons v vs =>
   rw [List.zip_cons_cons, List.lookup_cons]
   cases i with
   | zero => simp at h; subst h; simp
   | succ i =>
    simp at h
    have hne : (x == n) = false := by
     simp only [beq_eq_false_iff_ne, ne_eq]
     rintro rfl
     exact (List.nodup_cons.mp nd).1 (List.mem_of_getElem? h)
    rw [hne]
    simpa using ih (by simpa using hl) (List.nodup_cons.mp nd).2 h
theorem lookup_zip_some {names : List Str} {vals : List Value} (hl : vals.length = names.length) (nd : names.Nodup) {x : Str} (hx : x ∈ names) : ∃ v, (names.zip vals).lookup x = some v := by
 refine Vc.xa_1_1 (List.mem_iff_getElem?.mp hx) fun i hi => ?_
 rw [lookup_zip hl nd hi]
 have : i < vals.length := by rw [hl]; exact (List.getElem?_eq_some_iff.mp hi).1
 exact ⟨vals[i], by simp [this]⟩
theorem filterMap_zip {names : List Str} {vals : List Value} (hl : vals.length = names.length) (nd : names.Nodup) : names.filterMap (fun n => ((names.zip vals).lookup n).map (n, ·)) = names.zip vals := by
 have key : ∀ (l : List Str) (k : Nat), (∀ j, l[j]? = names[k + j]?) -> l.filterMap (fun n => ((names.zip vals).lookup n).map (n, ·)) = (names.zip vals).drop k := by
  intro l
  induction l with
  | nil =>
   intro k h
   have : names.length <= k := by
    rcases Nat.lt_or_ge k names.length with h1 | h1
    ·have := h 0; simp [h1] at this
    ·exact h1
   rw [List.drop_eq_nil_of_le (by simp; (clear hl; omega))]; rfl
  | cons x l ih =>
   intro k h
   have hx : names[k]? = some x := by have := h 0; simpa using this.symm
   have hk : k < names.length := (List.getElem?_eq_some_iff.mp hx).1
   have hkv : k < vals.length := by omega
   rw [List.filterMap_cons, lookup_zip hl nd hx]
   simp only [List.getElem?_eq_getElem hkv, Option.map_some]
   rw [ih (k + 1) (fun j => by have := h (j + 1); simp at this; rw [this]; congr 1; (clear hl hk hkv; omega))]
   have hkz : k < (names.zip vals).length := by rw [List.length_zip]; (clear hl; omega)
   rw [List.drop_eq_getElem_cons hkz, List.getElem_zip]
   have := List.getElem?_eq_some_iff.mp hx
   rw [this.2]
 simpa using key names 0 (by simp)
theorem ite_n {α : Type} {c : Prop} [Decidable c] {a b x : α} (hc : ¬ c) (h : b = x) : (if c then a else b) = x := by rw [if_neg hc]; exact h
theorem bind_plain {fd : FuncData} {names : List Str} {vals : List Value} (h1 : fd.params.posonlyargs = []) (h2 : fd.params.args.map (·.arg) = names) (h3 : fd.params.vararg = none) (h4 : fd.params.kwonlyargs = []) (h5 : fd.params.kwarg = none)
  (h6 : fd.defaults = .none) (hl : vals.length = names.length) (nd : names.Nodup) : bindArgs fd ⟨vals, []⟩ = pure (names.zip vals) := by
 have hmiss : (names.filter fun n => ((names.zip vals).lookup n).isNone) = [] := by
  rw [List.filter_eq_nil_iff]
  intro x hx
  refine Vc.xa_1_1 (lookup_zip_some hl nd hx) fun v e => ?_
  simp [e]
 have hni : ¬ vals.length > names.length := by omega
 obtain ⟨nm, qn, ⟨po, ar, va, ko, kd, kw, df⟩, bd, sc, gl, cl, dfl⟩ := fd
 dsimp only at h1 h2 h3 h4 h5 h6
 subst h1 h2 h3 h4 h5 h6
 refine ite_n (c := (decide (vals.length > (ar.map (·.arg)).length) && true) = true) (by rw [decide_eq_false hni]; decide) ?_
 refine ite_n (c := (!(List.filter (fun n => (List.lookup n ((ar.map (·.arg)).zip vals)).isNone) (List.take ((ar.map (·.arg)).length - (List.drop (0 - (ar.map (·.arg)).length) ([] : List Value)).length) (ar.map (·.arg)))).isEmpty) = true) (by rw [List.drop_nil, List.length_nil, Nat.sub_zero, List.take_length, hmiss]; decide) ?_
 refine (congrArg (fun l => l >>= _) (?_ : _ = (pure ((ar.map (·.arg)).zip vals) : Sem (List (Str × Value))))).trans ?_
 ·show forIn (List.zip _ (List.drop _ ([] : List Value))) _ _ = _
  rw [List.drop_nil, List.zip_nil_right, List.forIn_nil]
  rfl
 ·refine (pure_bind _ _).trans ?_
  refine (pure_bind (m := Sem) _ _).trans ?_
  show (pure (List.filterMap (fun n => Option.map (fun x => (n, x)) (List.lookup n ((ar.map Arg.arg).zip vals))) (ar.map Arg.arg ++ [])) : Sem (List (Str × Value))) = _
  rw [List.append_nil, filterMap_zip hl nd]
end Vc
end
section
namespace Vc
open PySem
noncomputable def okFn (fd : FuncData) (vs : Vs) (np : Nat) (body : List St) : Bool :=
 (match fd.body with | .stmts b => chkSs vs fd.scope.names body b | _ => false) &&
 fd.params.posonlyargs.isEmpty && fd.params.vararg.isNone && fd.params.kwonlyargs.isEmpty && fd.params.kwarg.isNone && (fd.params.args.map (·.arg) == (vs.take np).map (·.1)) && decide (np <= vs.length) &&
 fd.scope.kind == .function && !fd.scope.isGenerator && !fd.scope.isCoroutine &&
 vs.all (fun x => match x.2 with | .loc => fd.scope.names.lookup x.1 == some .local | .cel => fd.scope.names.lookup x.1 == some .cell | .hid => false) &&
 decide ((vs.map (·.1)).Nodup) && fd.closure.isEmpty && fd.globals == mainGlobals && fd.builtins == builtinsNs && fd.defaults == .none
theorem cells_has {x : Str} : ∀ (names : Ns) (n : Nat) (acc : List (Str × Addr)), names.lookup x = some .cell ∨ (acc.lookup x).isSome = true -> ((cellsFrom n names acc).lookup x).isSome = true
 | [], _, _, h => h.elim (fun e => by cases e) id
 | (y, k) :: r, n, acc, h => by
  unfold cellsFrom
  by_cases hk : (k == NameKind.cell) = true
  ·rw [if_pos hk]
   refine cells_has r (n + 1) ((y, n) :: acc) ?_
   by_cases hy : (x == y) = true
   ·exact .inr (by rw [List.lookup_cons, hy]; rfl)
   ·have hy' : (x == y) = false := by simpa using hy
    refine h.imp (fun e => ?_) fun e => ?_
    ·rw [List.lookup_cons, hy'] at e; exact e
    ·rw [List.lookup_cons, hy']; exact e
  ·rw [if_neg hk]
   refine cells_has r n acc (h.imp (fun e => ?_) id)
   rw [List.lookup_cons] at e
   cases hy : x == y with
   | true => rw [hy] at e; cases e; exact absurd rfl hk
   | false => rw [hy] at e; exact e
section
variable {C : Cx} {H : MH} {s : Shared} {A : Around} {Q : V -> MH -> Prop} {X : XP}
theorem bindL_get {kind : Str -> Option NameKind} : ∀ {names : List Str} {vals : List Value} {m : Str -> Option Value} {i : Nat} {x : Str} {v : Value}, vals.length = names.length -> names.Nodup -> names[i]? = some x -> vals[i]? = some v -> kind x = some .local ->
  bindL kind (names.zip vals) m x = some v := by
 intro names
 induction names with
 | nil => intro vals m i x v _ _ h; simp at h
 | cons n ns ih =>
  intro vals m i x v hl nd hx hv hk
  cases vals with
  | nil => simp at hl
  | cons w ws =>
   rw [List.zip_cons_cons, bindL]
   cases i with
   | succ i => exact ih (by simpa using hl) (List.nodup_cons.mp nd).2 (by simpa using hx) (by simpa using hv) hk
   | zero =>
    simp at hx hv
    subst hx hv
    rw [if_pos hk]
    have : ∀ {names : List Str} {vals : List Value} {m : Str -> Option Value}, n ∉ names -> bindL kind (names.zip vals) m n = m n := by
     intro names
     induction names with
     | nil => intro vals m _; rfl
     | cons a as ih2 =>
      intro vals m hn
      cases vals with
      | nil => rfl
      | cons b bs =>
       rw [List.zip_cons_cons, bindL, ih2 (fun h => hn (.tail _ h))]
       split
       ·dsimp only; rw [if_neg]; rintro rfl; exact hn (.head _)
       ·rfl
    rw [this (List.nodup_cons.mp nd).1]; exact if_pos rfl
theorem bindC_get {kind : Str -> Option NameKind} : ∀ {names : List Str} {vals : List Value} {m : Str -> Option Value} {i : Nat} {x : Str} {v : Value}, vals.length = names.length -> names.Nodup -> names[i]? = some x -> vals[i]? = some v -> kind x ≠ some .local ->
  bindC kind (names.zip vals) m x = some v := by
 intro names
 induction names with
 | nil => intro vals m i x v _ _ h; simp at h
 | cons n ns ih =>
  intro vals m i x v hl nd hx hv hk
  cases vals with
  | nil => simp at hl
  | cons w ws =>
   rw [List.zip_cons_cons, bindC]
   cases i with
   | succ i => exact ih (by simpa using hl) (List.nodup_cons.mp nd).2 (by simpa using hx) (by simpa using hv) hk
   | zero =>
    simp at hx hv
    subst hx hv
    rw [if_neg hk]
    have : ∀ {names : List Str} {vals : List Value} {m : Str -> Option Value}, n ∉ names -> bindC kind (names.zip vals) m n = m n := by
     intro names
     induction names with
     | nil => intro vals m _; rfl
     | cons a as ih2 =>
      intro vals m hn
      cases vals with
      | nil => rfl
      | cons b bs =>
       rw [List.zip_cons_cons, bindC, ih2 (fun h => hn (.tail _ h))]
       split
       ·rfl
       ·dsimp only; rw [if_neg]; rintro rfl; exact hn (.head _)
    rw [this (List.nodup_cons.mp nd).1]; exact if_pos rfl
theorem callee_fn {fa : Addr} {o : Obj} {fd : FuncData} (ho : C.h0.get? fa = some o) (hd : o.data = .func fd) : Callee C (.ref fa) := fun A s Q E ht h => by
 unfold keeperOf
 refine wpAny_bind (wpAny_load (ht _ _ ho) ?_)
 rw [hd]
 exact wpAny_pure (h _)
theorem lk_map {xs : List V} {k i : Nat} {v : V} (h : lk (xs.map some ++ List.replicate k none) i = some v) : xs[i]? = some v := by
 by_cases hi : i < xs.length
 ·rw [lk_append_lt (by simpa using hi)] at h
  clear hi
  induction xs generalizing i with
  | nil => simp [lk] at h
  | cons x xs ih => cases i with
   | zero => simpa [lk] using h
   | succ i => simp [lk] at h; simpa using ih h
 ·rw [show i = (xs.map some).length + (i - xs.length) by simp; omega, lk_append, lk_none] at h; cases h
theorem xl_16 {p0 p1 p2 p3 p4 p5 p6 p7 p8 p9 p10 p11 p12 p13 p14 p15 G : Prop} (h : ((((((((((((((p0 /\ p1) /\ p2) /\ p3) /\ p4) /\ p5) /\ p6) /\ p7) /\ p8) /\ p9) /\ p10) /\ p11) /\ p12) /\ p13) /\ p14) /\ p15) (f : p0 -> p1 -> p2 -> p3 -> p4 -> p5 -> p6 -> p7 -> p8 -> p9 -> p10 -> p11 -> p12 -> p13 -> p14 -> p15 -> G) : G := by obtain ⟨⟨⟨⟨⟨⟨⟨⟨⟨⟨⟨⟨⟨⟨⟨h0, h1⟩, h2⟩, h3⟩, h4⟩, h5⟩, h6⟩, h7⟩, h8⟩, h9⟩, h10⟩, h11⟩, h12⟩, h13⟩, h14⟩, h15⟩ := h; exact f h0 h1 h2 h3 h4 h5 h6 h7 h8 h9 h10 h11 h12 h13 h14 h15
set_option maxHeartbeats 1000000 in
theorem fn_code (G : C.Good) {fa : Addr} {o : Obj} {fd : FuncData} {vs : Vs} {np n : Nat} {q : Bool} {body : List St} {args : List V} (ho : C.h0.get? fa = some o) (hd : o.data = .func fd) (hcd : C.h0.CodeRec fd.code fd.qualname)
  (hok : okFn fd vs np body = true) (hl : args.length = np)
  (W : wpSs C ⟨n, q⟩ body (args.map some ++ List.replicate (vs.length - np) none) H (fun f zz H' => match f with | .ret v => Q v H' | .next => Q .none H') (fun c zz H' => X c H')) (A : Around) (s : Shared) (cargs : List Value) (ok : Ok C ⟨n + 1, q⟩ H A s) (rs : VRs C s.heap args cargs) :
  codeAny C.M A (.call (.ref fa) ⟨cargs, []⟩) (fun r s' => match r with | .ok (.ret v) => QP C H s Q v s' | .ok _ => False | .error e => XQ false C No H s X e s') s := by
 unfold okFn at hok
 simp only [Bool.and_eq_true, List.isEmpty_iff, Option.isNone_iff_eq_none, beq_iff_eq, decide_eq_true_eq, Bool.not_eq_true', List.all_eq_true] at hok
 refine xl_16 hok fun hb p1 p2 p3 p4 p5 p6 p7 p8 p9 p10 p11 p12 p13 p14 p15 => ?_
 clear hok
 cases hbd : fd.body with
 | expr e => rw [hbd] at hb; cases hb
 | stmts body' =>
  rw [hbd] at hb
  have hlc := rs.length
  have hnames : ((vs.take np).map (·.1)).length = np := by simp; (clear hl p13 p14 hlc; omega)
  have ndn : ((vs.take np).map (·.1)).Nodup := by rw [List.map_take]; exact p11.sublist (List.take_sublist ..)
  have hbind : bindArgs fd ⟨cargs, []⟩ = pure (((vs.take np).map (·.1)).zip cargs) := bind_plain p1 p5 p2 p3 p4 p15 (by (clear p6 p13 p14; omega)) ndn
  have hmem : ∀ (i : Nat) (x : Str) (k : Vk), vs[i]? = some (x, k) -> (k = .loc /\ fd.scope.names.lookup x = some .local) ∨ (k = .cel /\ fd.scope.names.lookup x = some .cell) := fun i x k e => by
   have := p10 (x, k) (List.mem_of_getElem? e)
   cases k with
   | loc => exact .inl ⟨rfl, by simpa using this⟩
   | cel => exact .inr ⟨rfl, by simpa using this⟩
   | hid => cases this
  refine (codeAny_call_cells (by have := ok.room.1; show A.depth < recursionLimit; (clear hl p6 p13 p14 hlc hnames; omega)) (ok.top _ _ ho) hd (G.nolimit.keeps ok.top) (hcd.keeps ok.top) hbd hbind p12 (fun x hx => ?_) (fun s₁ ic => ?_) p9 p8 p7)
  ·obtain ⟨nm, vl⟩ := x
   have hm := List.of_mem_zip hx
   refine Vc.xa_1_2 (List.mem_map.mp hm.1) fun ho144_0 hy hr144_2 => ?_
   obtain ⟨y, k⟩ := ho144_0
   subst hr144_2
   refine Vc.xa_1_1 (List.mem_iff_getElem?.mp (List.mem_of_mem_take hy)) fun i hi => ?_
   rcases hmem i y k hi with ⟨_, e⟩ | ⟨_, e⟩
   ·exact .inl e
   ·exact .inr ⟨e, cells_has _ _ _ (.inl e)⟩
  ·generalize henv : callEnvC fd s.heap.objs.size fa = env at *
   have hloc : env.locals = s.heap.objs.size := by rw [<- henv]; rfl
   have hcel : env.cells = cellsFrom (s.heap.objs.size + 1) fd.scope.names [] := by rw [<- henv]; rfl
   have hkind : env.kindOf = fun x => fd.scope.names.lookup x := by rw [<- henv]; rfl
   refine Vc.xa_2_2 ic.done fun h1 tk hs1 hk1 => ?_
   have st1 : Step C No H s H s₁ := Step.keeps ok.rel ok.top (fun b o e => by rw [hs1]; exact hk1 b o e) (by rw [hs1]) (by rw [hs1])
   have newL : s.heap.get? env.locals = none := by rw [hloc]; exact fresh_size _
   have newC : ∀ x c, env.cells.lookup x = some c -> s.heap.get? c = none := fun x c e => by
    have hlt := ic.above x c (mem_of_lookup e)
    rw [hloc] at hlt
    cases w : s.heap.get? c with
    | none => rfl
    | some ob => exact absurd (Nat.lt_trans hlt (Heap.lt_size w)) (Nat.lt_irrefl _)
   have newD : ∀ b, Dm env b -> s.heap.get? b = none := fun b hb => by
    rcases hb with rfl | ⟨x, e⟩
    ·exact newL
    ·exact newC x b e
   have ES : EnvS env vs fd.scope.names := by
    refine ⟨by rw [<- henv]; exact p7, by rw [<- henv]; rfl, by rw [<- henv]; exact p13, by rw [<- henv]; exact p14, fun i x e => ?_, fun i x e => ?_, fun i j x k k' e e' zz zz => ?_, fun x y c e e' => ?_⟩
    ·rcases hmem i x _ e with ⟨_, w⟩ | ⟨w, _⟩
     ·exact w
     ·cases w
    ·rcases hmem i x _ e with ⟨w, _⟩ | ⟨_, w⟩
     ·cases w
     ·exact w
    ·have e1 : (vs.map (·.1))[i]? = some x := by rw [List.getElem?_map, e]; rfl
     have e2 : (vs.map (·.1))[j]? = some x := by rw [List.getElem?_map, e']; rfl
     exact (List.getElem?_inj (List.getElem?_eq_some_iff.mp e1).1 p11).mp (e1.trans e2.symm)
    ·exact name_of_addr ic.apart (mem_of_lookup e) (mem_of_lookup e')
   have hidx : ∀ (i : Nat) (x : Str) (k : Vk) (v : V), vs[i]? = some (x, k) -> lk (args.map some ++ List.replicate (vs.length - np) none) i = some v -> ∃ cv, ((vs.take np).map (·.1))[i]? = some x /\ cargs[i]? = some cv /\ VR C s.heap v cv := fun i x k v e l => by
    have ha := lk_map l
    have hi : i < np := by rw [<- hl]; exact (List.getElem?_eq_some_iff.mp ha).1
    refine Vc.xa_1_2 (rs.get ha) fun cv e1 e2 => ?_
    refine ⟨cv, ?_, e1, e2⟩
    rw [List.getElem?_map, List.getElem?_take_of_lt hi, e]; rfl
   have fi : FI C env vs (args.map some ++ List.replicate (vs.length - np) none) H s₁.heap := by
    refine ⟨by simp; (clear p13 p14 hlc hnames hloc; omega), ok.rel.fresh newL, fresh_top ok.top newL, ⟨_, ic.toInCall.ns, fun i x v e l => ?_⟩, fun i x e => ?_, fun x c e => ?_⟩
    ·refine Vc.xa_1_3 (hidx i x _ v e l) fun cv a1 a2 a3 => ?_
     exact ⟨cv, bindL_get (by (clear p6 p13 p14 hloc; omega)) ndn a1 a2 (by rw [hkind]; exact ES.loc i x e), a3.keep st1.vk⟩
    ·have hx := ES.cel i x e
     refine Vc.xa_1_1 (Option.isSome_iff_exists.mp (cells_has (x := x) fd.scope.names (s.heap.objs.size + 1) [] (.inl hx))) fun c hc => ?_
     rw [<- hcel] at hc
     refine ⟨c, _, hc, ok.rel.fresh (newC x c hc), fresh_top ok.top (newC x c hc), ic.cell x c hc, fun v l => ?_⟩
     refine Vc.xa_1_3 (hidx i x _ v e l) fun cv a1 a2 a3 => ?_
     exact ⟨cv, bindC_get (by (clear p6 p13 p14 hloc; omega)) ndn a1 a2 (by rw [hkind]; show fd.scope.names.lookup x ≠ some .local; rw [hx]; decide), a3.keep st1.vk⟩
    ·exact ⟨ok.rel.fresh (newC x c e), fresh_top ok.top (newC x c e), _, ic.cell x c e⟩
   have hfrm : env.frame = some env.locals := by rw [<- henv]; rfl
   refine Vc.xa_1_2 ok.frs fun l hfr hfl => ?_
   have ok1 : Ok C ⟨n, q⟩ H (A.deeper env) s₁ := by
    refine ⟨st1.rel, st1.top, ⟨?_, ?_⟩, ⟨ok.hnd.1, (ok.step st1).hnd.2⟩, env :: l, by show A.frames.map _ = _; rw [hfr]; rfl, fun e he => ?_⟩
    ·have := ok.room.1; show A.depth + 1 + 2 * n + 2 < recursionLimit; dsimp only at this; (clear hl p6 p13 p14 hlc hnames hloc; omega)
    ·have := ok.room.2; show A.units + 3 + 8 * n + 40 < cLine; dsimp only at this; (clear hl p6 p13 p14 hlc hnames hloc; omega)
    ·cases he with
     | head =>
      refine Vc.xa_1_2 fi.ns fun m ho203_1 zz => ?_
      obtain ⟨o', es, ep, ho', hd', _⟩ := ho203_1
      exact ⟨by rw [ES.kind]; decide, env.locals, o', es, ep, hfrm, ho', hd', fi.locH, fi.loc0⟩
     | tail _ he => exact hfl.step st1 e he
   have ea : EA (A.deeper env) env := ⟨env, l, by show A.frames.map _ = _; rw [hfr]; rfl, rfl⟩
   have run := sSs G body body' vs fd.scope.names hb env (A.deeper env) s₁ _ H _ _ ES ea ok1 fi W
   refine wpAny_mono run (fun fl s' hsp => ?_) fun e s' hx => ?_
   ·refine Vc.xa_3_4 hsp fun f ρ' H' st' fi' fr K' => ?_
    try clear hsp
    have st := st1.trans_new st' newD (fun zz f => f.elim)
    cases f with
    | next => cases fr; exact ⟨.none, H', st, rfl, K'⟩
    | ret v => obtain ⟨cv, rfl, r⟩ := fr; exact ⟨v, H', st, r, K'⟩
   ·refine leave (fenv := env) (outer := l) stX_St ok1 (by show A.frames.map _ = _; rw [hfr]; rfl) rfl (fun H' s' st' => ?_) hx fun s'' hx' => ?_
    ·exact frl_of (fenv := env) (outer := l) ok1 (by show A.frames.map _ = _; rw [hfr]; rfl) st'
    ·obtain ⟨a, c, H', rfl, st', hD', fl, ρ', fi', hX⟩ := hx'
     have st := st1.trans_new st' newD (fun zz f => f.elim)
     exact XG.mono ⟨a, c, H', rfl, st, fun zz f => f.elim, fl.back st1, hX⟩
theorem fn_call (G : C.Good) {fa : Addr} {o : Obj} {fd : FuncData} {vs : Vs} {np n : Nat} {q : Bool} {body : List St} {args : List V} (ho : C.h0.get? fa = some o) (hd : o.data = .func fd) (hcd : C.h0.CodeRec fd.code fd.qualname)
  (hok : okFn fd vs np body = true) (hl : args.length = np)
  (W : wpSs C ⟨n, q⟩ body (args.map some ++ List.replicate (vs.length - np) none) H (fun f zz H' => match f with | .ret v => Q v H' | .next => Q .none H') (fun c zz H' => X c H')) : CallV C ⟨n + 1, q⟩ (.ref fa) args H Q X :=
 fun A s cargs ok rs => wpAny_call (fn_code G ho hd hcd hok hl W A s cargs ok rs)
end
end Vc
end
section
namespace Vc
open PySem PyProof.Rows
mutual
inductive VD (H : MH) : V -> PyData -> Prop
 | none : VD H .none .none
 | bool (b : Bool) : VD H (.bool b) (.bool b)
 | int (i : Int) : VD H (.int i) (.int i)
 | str (s : Str) : VD H (.str s) (.str s)
 | tup {l : List V} {ds : List PyData} : VDs H l ds -> VD H (.tup l) (.tuple ds)
 | lst {a : Addr} {l : List V} {ds : List PyData} : H a = some (.lst l) -> VDs H l ds -> VD H (.ref a) (.list ds)
 | fro {a : Addr} {l : List V} {ds : List PyData} : H a = some (.fro l) -> VDs H l ds -> VD H (.ref a) (.list ds)
inductive VDs (H : MH) : List V -> List PyData -> Prop
 | nil : VDs H [] []
 | cons {x : V} {d : PyData} {xs : List V} {ds : List PyData} : VD H x d -> VDs H xs ds -> VDs H (x :: xs) (d :: ds)
end
theorem VD.reads {C : Cx} {H : MH} {h : Heap} (r : HR C H h) {v : V} {d : PyData} {cv : Value} (z : VD H v d) (x : VR C h v cv) : ∃ as, Reads h cv d as := by
 refine VD.rec (motive_1 := fun v d zz => ∀ cv, VR C h v cv -> ∃ as, Reads h cv d as) (motive_2 := fun l ds zz => ∀ cvs, VRs C h l cvs -> ∃ as, ReadsAll h cvs ds as) ?_ ?_ ?_ ?_ ?_ ?_ ?_ ?_ ?_ z cv x
 ·intro cv x; cases (show cv = .none from x); exact ⟨_, .none⟩
 ·intro b cv x; cases (show cv = .bool b from x); exact ⟨_, .bool _⟩
 ·intro i cv x; obtain ⟨t, rfl⟩ := (show ∃ t, cv = .int i t from x); exact ⟨_, .int _ _⟩
 ·intro i cv x; obtain ⟨t, rfl⟩ := (show ∃ t, cv = .str i t from x); exact ⟨_, .str _ _⟩
 ·intro l ds y ih cv x
  refine Vc.xa_2_3 ((show ∃ a items, (cv = .ref a /\ NoDict h a) /\ h.IsTuple a items /\ VRs C h l items.toList from x)) fun a items ho28_2 ho28_3 rs => ?_
  obtain ⟨rfl, nd⟩ := ho28_2
  obtain ⟨o, ho, hc, n, hd⟩ := ho28_3
  exact (ih _ rs).elim fun as q => ⟨_, .tuple ho hc hd q⟩
 ·intro a l ds e y ih cv x; cases (show cv = .ref a from x)
  obtain ⟨_, items, ⟨n, ho⟩, rs⟩ := r _ _ e
  exact (ih _ rs).elim fun as q => ⟨_, .list ho rfl rfl q⟩
 ·intro a l ds e y ih cv x; cases (show cv = .ref a from x)
  refine Vc.xa_1_2 (r _ _ e) fun items ho34_1 rs => ?_
  obtain ⟨o, ho, hc, n, hd⟩ := ho34_1
  exact (ih _ rs).elim fun as q => ⟨_, .list ho hc hd q⟩
 ·intro cvs x; cases x.inv_nil; exact ⟨_, .nil⟩
 ·intro x d xs ds y ys ih1 ih2 cvs x
  refine Vc.xa_2_3 x.inv_cons fun v vs hr38_2 h1 h2 => ?_
  subst hr38_2
  exact (ih1 _ h1).elim fun as q => (ih2 _ h2).elim fun bs q' => ⟨_, .cons q q'⟩
section
variable {C : Cx} {d : Md} {H : MH} {A : Around} {s : Shared} {Q : V -> MH -> Prop} {X : XP}
theorem Ok.units (ok : Ok C d H A s) : A.units + 40 < cLine := by have := ok.room.2; omega
theorem qp {r : V} {cv : Value} {s' : Shared} (st : Step C No H s H s') (vr : VR C s'.heap r cv) (q : Q r H) : QP C H s Q cv s' := ⟨r, H, st, vr, q⟩
theorem qp' {r : V} {cv : Value} {H' : MH} {s' : Shared} (st : Step C No H s H' s') (vr : VR C s'.heap r cv) (q : Q r H') : QP C H s Q cv s' := ⟨r, H', st, vr, q⟩
theorem VR.int_ {h : Heap} {i : Int} {t : Tok} : VR C h (.int i) (.int i t) := by dsimp only [VR]; exact ⟨t, rfl⟩
theorem VR.bool_ {h : Heap} {b : Bool} : VR C h (.bool b) (.bool b) := by dsimp only [VR]
theorem VR.none_ {h : Heap} : VR C h .none .none := by dsimp only [VR]
theorem VR.ref_ {h : Heap} {a : Addr} : VR C h (.ref a) (.ref a) := by dsimp only [VR]
theorem bin_add {a b : Int} (q : Q (.int (a + b)) H) : BinW C d .Add (.int a) (.int b) H Q X := fun A s ca cb ok ra rb => by
 dsimp only [VR] at ra rb; obtain ⟨t, rfl⟩ := ra; obtain ⟨u, rfl⟩ := rb
 exact add_int (qp (ok.toks _) .int_ q)
theorem bin_sub {a b : Int} (q : Q (.int (a - b)) H) : BinW C d .Sub (.int a) (.int b) H Q X := fun A s ca cb ok ra rb => by
 dsimp only [VR] at ra rb; obtain ⟨t, rfl⟩ := ra; obtain ⟨u, rfl⟩ := rb
 exact sub_int (qp (ok.toks _) .int_ q)
theorem bin_mul {a b : Int} (q : Q (.int (a * b)) H) (hm : IntMulOk a b) : BinW C d .Mult (.int a) (.int b) H Q X := fun A s ca cb ok ra rb => by
 dsimp only [VR] at ra rb; obtain ⟨t, rfl⟩ := ra; obtain ⟨u, rfl⟩ := rb
 exact mul_int (qp (ok.toks _) .int_ q) hm
theorem bin_mod {a b : Int} (hb : b ≠ 0) (q : Q (.int (a.fmod b)) H) : BinW C d .Mod (.int a) (.int b) H Q X := fun A s ca cb ok ra rb => by
 dsimp only [VR] at ra rb; obtain ⟨t, rfl⟩ := ra; obtain ⟨u, rfl⟩ := rb
 exact mod_int hb (qp (ok.toks _) .int_ q)
theorem bin_fdiv {a b : Int} (hb : b ≠ 0) (hp : Builtin.divisionGoesByPylong a b = false) (q : Q (.int (a.fdiv b)) H) : BinW C d .FloorDiv (.int a) (.int b) H Q X := fun A s ca cb ok ra rb => by
 dsimp only [VR] at ra rb; obtain ⟨t, rfl⟩ := ra; obtain ⟨u, rfl⟩ := rb
 exact floordiv_int hb (qp (ok.toks _) .int_ q) (.inl hp)
theorem cmp_eq {a b : V} {da db : PyData} (va : VD H a da) (vb : VD H b db) (ha : da.canLay0 = true) (hb : db.canLay0 = true) (hd : min da.depth db.depth <= 8) (q : Q (.bool (PyData.eqv da db)) H) : CmpW C d .Eq a b H Q X := fun A s ca cb ok ra rb => by
 refine Vc.xa_1_1 (va.reads ok.rel ra) fun as r1 => ?_
 refine Vc.xa_1_1 (vb.reads ok.rel rb) fun bs r2 => ?_
 exact SeqAt.compareEq_reads r1 r2 ha hb (by have := ok.units; omega) (qp ok.refl .bool_ q)
theorem cmp_ne {a b : V} {da db : PyData} (va : VD H a da) (vb : VD H b db) (ha : da.canLay0 = true) (hb : db.canLay0 = true) (hd : min da.depth db.depth <= 8) (q : Q (.bool (!PyData.eqv da db)) H) : CmpW C d .NotEq a b H Q X := fun A s ca cb ok ra rb => by
 refine Vc.xa_1_1 (va.reads ok.rel ra) fun as r1 => ?_
 refine Vc.xa_1_1 (vb.reads ok.rel rb) fun bs r2 => ?_
 exact SeqAt.compareNe_reads r1 r2 ha hb (by have := ok.units; omega) (qp ok.refl .bool_ q)
theorem cmp_in {a b : V} {da db : PyData} {xs : List PyData} (va : VD H a da) (vb : VD H b db) (hx : db = .list xs ∨ db = .tuple xs) (ha : da.canLay0 = true) (hb : PyData.canLayAll0 xs = true) (hd : min (PyData.depthAll xs) da.depth <= 8) (q : Q (.bool (xs.any fun y => PyData.eqv y da)) H) : CmpW C d .In a b H Q X := fun A s ca cb ok ra rb => by
 refine Vc.xa_1_1 (va.reads ok.rel ra) fun as r1 => ?_
 refine Vc.xa_1_1 (vb.reads ok.rel rb) fun bs r2 => ?_
 rcases hx with rfl | rfl
 ·exact SeqAt.in_list_reads r2 r1 hb ha (by have := ok.units; omega) (qp ok.refl .bool_ q)
 ·exact SeqAt.in_tuple_reads r2 r1 hb ha (by have := ok.units; omega) (qp ok.refl .bool_ q)
theorem cmp_nin {a b : V} {da db : PyData} {xs : List PyData} (va : VD H a da) (vb : VD H b db) (hx : db = .list xs ∨ db = .tuple xs) (ha : da.canLay0 = true) (hb : PyData.canLayAll0 xs = true) (hd : min (PyData.depthAll xs) da.depth <= 8) (q : Q (.bool (!xs.any fun y => PyData.eqv y da)) H) : CmpW C d .NotIn a b H Q X := fun A s ca cb ok ra rb => by
 refine Vc.xa_1_1 (va.reads ok.rel ra) fun as r1 => ?_
 refine Vc.xa_1_1 (vb.reads ok.rel rb) fun bs r2 => ?_
 rcases hx with rfl | rfl
 ·exact SeqAt.notIn_list_reads r2 r1 hb ha (by have := ok.units; omega) (qp ok.refl .bool_ q)
 ·exact SeqAt.notIn_tuple_reads r2 r1 hb ha (by have := ok.units; omega) (qp ok.refl .bool_ q)
theorem cmp_lt {a b : Int} (q : Q (.bool (decide (a < b))) H) : CmpW C d .Lt (.int a) (.int b) H Q X := fun A s ca cb ok ra rb => by
 dsimp only [VR] at ra rb; obtain ⟨t, rfl⟩ := ra; obtain ⟨u, rfl⟩ := rb
 exact lt_int (qp ok.refl .bool_ q)
theorem cmp_gt {a b : Int} (q : Q (.bool (decide (a > b))) H) : CmpW C d .Gt (.int a) (.int b) H Q X := fun A s ca cb ok ra rb => by
 dsimp only [VR] at ra rb; obtain ⟨t, rfl⟩ := ra; obtain ⟨u, rfl⟩ := rb
 exact gt_int (qp ok.refl .bool_ q)
theorem cmp_eq_int {a b : Int} (q : Q (.bool (a == b)) H) : CmpW C d .Eq (.int a) (.int b) H Q X := cmp_eq (.int a) (.int b) rfl rfl (by simp [PyData.depth]) (by simpa [PyData.eqv] using q)
theorem tru_bool {b : Bool} {Q : Bool -> MH -> Prop} (q : Q b H) : TruW C d (.bool b) H Q X := fun A s ca ok ra => by
 dsimp only [VR] at ra; subst ra; exact wpAny_truthy_bool ⟨H, ok.refl, q⟩
theorem una_neg {a : Int} (q : Q (.int (-a)) H) : UnaW C d .USub (.int a) H Q X := fun A s ca ok ra => by
 dsimp only [VR] at ra; obtain ⟨t, rfl⟩ := ra; exact neg_int (qp (ok.toks _) .int_ q)
theorem list_at {a : Addr} {l : List V} (r : HR C H s.heap) (h : itemsOf H (.ref a) = some l) : ∃ items, s.heap.IsList a items /\ VRs C s.heap l items.toList := list_of r h
theorem gip {T id : String} {co : Value} {A : Around} (hT : s.TypeIs co T) (hl : typeLookup (.type T) "__getitem__" = pure (some (.builtin id))) : wpAny C.M A (getitemInPython co) (fun b s' => b = false /\ s' = s) (fun zz zz => False) s := by
 rw [getitemInPython_of_ne hT.not_modules]
 exact wpAny_bind (wpAny_specialOf hT hl (wpAny_pure ⟨rfl, rfl⟩))
theorem sub_list {a : Addr} {l : List V} {i : Int} {x : V} (h : itemsOf H (.ref a) = some l) (hl : l.length <= sizeLine) {j : Nat} (hj : seqIndex? i l.length = some j) (hx : l[j]? = some x) (q : Q x H) : SubW C d (.ref a) (.int i) H Q X := fun A s co ci ok ro ri => by
 dsimp only [VR] at ro; dsimp only [VR] at ri; subst ro; obtain ⟨t, rfl⟩ := ri
 refine Vc.xa_1_2 (list_at ok.rel h) fun items hL rs => ?_
 refine Vc.xa_1_2 (rs.get hx) fun cx hcx rx => ?_
 have hn := rs.length
 simp only [Array.length_toList] at hn
 have hz : sizeLine < 2 ^ 62 := by decide
 refine ⟨gip hL.typeIs slot_list_getitem.lookup, ?_⟩
 rw [Array.getElem?_toList] at hcx
 simp only [seqIndex?] at hj
 have hjl : j < l.length := (List.getElem?_eq_some_iff.mp hx).1
 by_cases hi : i < 0
 ·rw [if_pos hi] at hj
  split at hj
  ·rename_i hb
   cases hj
   refine wpAny_getItem_list_neg hL hi (by simp at hb; (clear hl hz hi hjl; omega)) (by simp at hb; (clear hn hi hjl; omega)) ?_ (qp ok.refl rx q)
   rw [<- hn]; exact hcx
  ·cases hj
 ·rw [if_neg hi] at hj
  split at hj
  ·cases hj
   exact wpAny_getItem_list hL (by (clear hl hn hz hjl; omega)) (by (clear hn hi; omega)) hcx (qp ok.refl rx q)
  ·cases hj
end
end Vc
end
section
namespace Vc
open PySem PyProof.Rows
noncomputable def vsl (l : List V) (lo hi : Option Int) : List V := (l.drop (lo.elim 0 (clipAt l.length))).take (hi.elim l.length (clipAt l.length) - lo.elim 0 (clipAt l.length))
inductive Prt : V -> Option Int -> Prop
 | none : Prt .none none
 | int (i : Int) : Prt (.int i) (some i)
section
variable {C : Cx} {d : Md} {H : MH} {A : Around} {s : Shared} {Q : V -> MH -> Prop} {X : XP}
theorem Prt.is {h : Heap} {v : V} {k : Option Int} {cv : Value} (p : Prt v k) (r : VR C h v cv) : IsPart cv k := by
 cases p with
 | none => dsimp only [VR] at r; subst r; exact .none
 | int i => dsimp only [VR] at r; obtain ⟨t, rfl⟩ := r; exact .int i t
theorem sub_tup {l : List V} {i : Int} {x : V} {j : Nat} (hj : seqIndex? i l.length = some j) (hl : l.length <= sizeLine) (hx : l[j]? = some x) (q : Q x H) : SubW C d (.tup l) (.int i) H Q X := fun A s co ci ok ro ri => by
 dsimp only [VR] at ro; dsimp only [VR] at ri; obtain ⟨a, items, ⟨rfl, nd⟩, ht, rs⟩ := ro; obtain ⟨t, rfl⟩ := ri
 refine Vc.xa_1_2 (rs.get hx) fun cx hcx rx => ?_
 have hn := rs.length
 simp only [Array.length_toList] at hn
 have hz : sizeLine < 2 ^ 62 := by decide
 rw [Array.getElem?_toList] at hcx
 obtain ⟨o, ho, hc, n, hd⟩ := id ht
 refine ⟨gip (T := "tuple") ⟨o, ho, hc⟩ slot_tuple_getitem.lookup, ?_⟩
 have hb : -(2 ^ 63) <= i /\ i < 2 ^ 63 := by
  simp only [seqIndex?] at hj
  by_cases hi : i < 0
  ·rw [if_pos hi] at hj
   split at hj
   ·rename_i hb; simp at hb; (clear hn hi; omega)
   ·cases hj
  ·rw [if_neg hi] at hj
   split at hj
   ·rename_i hb; simp at hb; (clear hn hi; omega)
   ·cases hj
 exact PyProof.Rows.getItem_tuple ⟨o, ho, hc, n, hd⟩ hb.1 hb.2 (by rw [<- hn]; exact hj) hcx (qp ok.refl rx q)
theorem alloc_list {vs : List V} {items : Array Value} {s' : Shared} (ok : Ok C d H A s) (r : VRs C s.heap vs items.toList) (hs : s'.heap = s.heap.push { cls := .type "list", data := .seq items }) (g : s'.gens = s.gens) (os : s'.os = s.os) :
  Step C No H s (upd H s.heap.objs.size (.lst vs)) s' /\ H s.heap.objs.size = none := by
 refine ⟨Step.alloc ok.rel ok.top (o := .lst vs) ⟨?_, items, ⟨0, Heap.get?_push_size _ rfl⟩, r.keep (.of_keeps fun b o e => Heap.get?_push_of_some _ e)⟩ hs g os, ok.rel.fresh (fresh_size _)⟩
 cases e : C.h0.get? s.heap.objs.size with
 | none => rfl
 | some o => have := ok.top _ _ e; rw [fresh_size] at this; cases this
theorem sli_list {a : Addr} {l : List V} {vl vu : V} {lo hi : Option Int} (h : itemsOf H (.ref a) = some l) (hl : l.length <= sizeLine) (pl : Prt vl lo) (pu : Prt vu hi)
  (q : ∀ b, H b = none -> Q (.ref b) (upd H b (.lst (vsl l lo hi)))) : SliW C d (.ref a) vl vu .none H Q X := fun A s co cl cu ct p ok ro rl ru rt hp => by
 dsimp only [VR] at ro; dsimp only [VR] at rt; subst ro rt
 refine Vc.xa_1_2 (list_at ok.rel h) fun items hL rs => ?_
 have hn := rs.length
 simp only [Array.length_toList] at hn
 refine ⟨gip hL.typeIs slot_list_getitem.lookup, wpAny_getItem_list_slice hL ⟨_, hp, rfl, rfl⟩ (pl.is rl) (pu.is ru) .none (by simp) ?_ (by omega)⟩
 have key : VRs C s.heap (vsl l lo hi) (slicePick items lo hi none).toList := by
  rw [slicePick_plain, vsl, hn]
  exact (rs.drop _).take _
 refine Vc.xa_0_2 (alloc_list (s' := { s with heap := s.heap.push { cls := .type "list", data := .seq (slicePick items lo hi none) } }) ok key rfl rfl rfl) fun st hf => ?_
 exact qp' st .ref_ (q _ hf)
theorem bin_cat {a b : Addr} {l m : List V} (ha : itemsOf H (.ref a) = some l) (hb : itemsOf H (.ref b) = some m) (hsz : l.length + m.length <= sizeLine) (q : ∀ c, H c = none -> Q (.ref c) (upd H c (.lst (l ++ m)))) : BinW C d .Add (.ref a) (.ref b) H Q X := fun A s ca cb ok ra rb => by
 dsimp only [VR] at ra rb; subst ra rb
 refine Vc.xa_1_2 (list_at ok.rel ha) fun items hL rs => ?_
 refine Vc.xa_1_2 (list_at ok.rel hb) fun items2 hL2 rs2 => ?_
 have hn := rs.length
 have hn2 := rs2.length
 simp only [Array.length_toList] at hn hn2
 obtain ⟨⟨cls, dd, data, sl⟩, ho, hc, n, hd⟩ := id hL
 obtain ⟨⟨cls2, dd2, data2, sl2⟩, ho2, hc2, n2, hd2⟩ := id hL2
 simp only at hc hd hc2 hd2
 subst hc hd hc2 hd2
 refine concat_meets ⟨_, ho, rfl⟩ ⟨_, ho2, rfl⟩ noFill_list_add seq_list_add PySem.F.slot_list_add PySem.F.entry_list_add (PySem.F.args_list_add_2 _ _) (list_addW a b items items2 n n2 dd dd2 sl sl2 (by omega)) ⟨ho, ho2, ?_⟩
 have key : VRs C s.heap (l ++ m) (items ++ items2).toList := by rw [Array.toList_append]; exact rs.append rs2
 refine Vc.xa_0_2 (alloc_list (s' := { s with heap := s.heap.push { cls := .type "list", data := .seq (items ++ items2) } }) ok key rfl rfl rfl) fun st hf => ?_
 exact qp' st .ref_ (q _ hf)
theorem args1 {h : Heap} {x : V} {cs : List Value} (r : VRs C h [x] cs) : ∃ c, cs = [c] /\ VR C h x c := by
 refine Vc.xa_2_3 r.inv_cons fun c cs' hr81_2 h1 h2 => ?_
 subst hr81_2
 have := h2.inv_nil; subst this
 exact ⟨c, rfl, h1⟩
theorem args2 {h : Heap} {x y : V} {cs : List Value} (r : VRs C h [x, y] cs) : ∃ c e, cs = [c, e] /\ VR C h x c /\ VR C h y e := by
 refine Vc.xa_2_3 r.inv_cons fun c cs' hr85_2 h1 h2 => ?_
 subst hr85_2
 refine Vc.xa_1_2 (args1 h2) fun e hr86_1 h3 => ?_
 subst hr86_1
 exact ⟨c, e, rfl, h1, h3⟩
theorem args3 {h : Heap} {x y z : V} {cs : List Value} (r : VRs C h [x, y, z] cs) : ∃ c e f, cs = [c, e, f] /\ VR C h x c /\ VR C h y e /\ VR C h z f := by
 refine Vc.xa_2_3 r.inv_cons fun c cs' hr89_2 h1 h2 => ?_
 subst hr89_2
 refine Vc.xa_2_3 (args2 h2) fun e f hr90_2 h3 h4 => ?_
 subst hr90_2
 exact ⟨c, e, f, rfl, h1, h3, h4⟩
theorem call_w {f : String} {fv : Value} {args : List V} (hG : C.G f fv) (h : CallV C d fv args H Q X) : CallW C d f args H Q X := fun fv' g => by rw [<- hG.uniq g]; exact h
theorem cv_len_list {a : Addr} {l : List V} (h : itemsOf H (.ref a) = some l) (hl : l.length <= sizeLine) (q : Q (.int l.length) H) : CallV C d (.builtin "len") [.ref a] H Q X := fun A s cs ok rs => by
 refine Vc.xa_1_2 (args1 rs) fun c hr96_1 r => ?_
 subst hr96_1
 dsimp only [VR] at r; subst r
 refine Vc.xa_1_2 (list_at ok.rel h) fun items hL rs => ?_
 have hn := rs.length
 simp only [Array.length_toList] at hn
 have hz : sizeLine < 2 ^ 62 := by decide
 exact Calls.call_len_list hL (by omega) (qp (ok.toks _) (by rw [hn]; exact .int_) q)
theorem cv_len_tup {l : List V} (hl : l.length <= sizeLine) (q : Q (.int l.length) H) : CallV C d (.builtin "len") [.tup l] H Q X := fun A s cs ok rs => by
 refine Vc.xa_1_2 (args1 rs) fun c hr104_1 r => ?_
 subst hr104_1
 dsimp only [VR] at r; obtain ⟨a, items, ⟨rfl, nd⟩, ⟨o, ho, hc, n, hd⟩, rs⟩ := r
 have hn := rs.length
 simp only [Array.length_toList] at hn
 have hz : sizeLine < 2 ^ 62 := by decide
 exact PyProof.Rows.len_tuple ⟨o, ho, hc, n, hd⟩ (by omega) (qp (ok.toks _) (by rw [hn]; exact .int_) q)
theorem push_keeps {s' : Shared} {ob : Obj} {tk : Nat} (ok : Ok C d H A s) (hs : s' = { s with heap := s.heap.push ob, toks := tk }) : Step C No H s H s' := by
 subst hs; exact Step.keeps ok.rel ok.top (fun b o e => Heap.get?_push_of_some _ e) rfl rfl
theorem cv_range1 {n : Int} (q : Q (.rng 0 n 1) H) : CallV C d (.type "range") [.int n] H Q X := fun A s cs ok rs => by
 refine Vc.xa_1_2 (args1 rs) fun c hr115_1 r => ?_
 subst hr115_1
 dsimp only [VR] at r; obtain ⟨t, rfl⟩ := r
 exact call_range_1 (qp (push_keeps ok rfl) (by dsimp only [VR]; exact ⟨_, _, _, _, rfl, IsRange.new ..⟩) q)
theorem cv_range2 {a b : Int} (q : Q (.rng a b 1) H) : CallV C d (.type "range") [.int a, .int b] H Q X := fun A s cs ok rs => by
 refine Vc.xa_2_3 (args2 rs) fun c e hr119_2 r r' => ?_
 subst hr119_2
 dsimp only [VR] at r r'; obtain ⟨t, rfl⟩ := r; obtain ⟨u, rfl⟩ := r'
 exact call_range_2 (qp (push_keeps ok rfl) (by dsimp only [VR]; exact ⟨_, _, _, _, rfl, IsRange.new ..⟩) q)
theorem cv_range3 {a b k : Int} (hk : k ≠ 0) (hp : Builtin.divisionGoesByPylong (b - a) k = false) (q : Q (.rng a b k) H) : CallV C d (.type "range") [.int a, .int b, .int k] H Q X := fun A s cs ok rs => by
 refine Vc.xa_3_4 (args3 rs) fun c e f hr123_3 r r' r'' => ?_
 subst hr123_3
 dsimp only [VR] at r r' r''; obtain ⟨t, rfl⟩ := r; obtain ⟨u, rfl⟩ := r'; obtain ⟨v, rfl⟩ := r''
 exact call_range_3 hk (qp (push_keeps ok rfl) (by dsimp only [VR]; exact ⟨_, _, _, _, rfl, IsRange.new ..⟩) q) (.inl hp)
theorem fresh0 (ok : Ok C d H A s) : C.h0.get? s.heap.objs.size = none := by
 cases e : C.h0.get? s.heap.objs.size with
 | none => rfl
 | some o => have := ok.top _ _ e; rw [fresh_size] at this; cases this
theorem Step.grow {o : O} {s' : Shared} (ok : Ok C d H A s) (k : ∀ b o, s.heap.get? b = some o -> s'.heap.get? b = some o) (ho : OR C s'.heap s.heap.objs.size o) (g : s'.gens = s.gens) (os : s'.os = s.os) : Step C No H s (upd H s.heap.objs.size o) s' := by
 refine ⟨fun b o' e => ?_, fun b o e zz zz => ⟨o.slots, k b o e, fun zz => rfl⟩, fun b o e => k b o (ok.top b o e), fun b e => ?_, fun b e => ?_, fun b d n => d.elim, .of_keeps k, g, os⟩
 ·by_cases q : b = s.heap.objs.size
  ·subst q; rw [upd_self] at e; cases e; exact ho
  ·rw [upd_ne q] at e; exact (ok.rel b o' e).keep (.of_keeps k) fun ob => k b ob
 ·by_cases q : b = s.heap.objs.size
  ·subst q; rw [upd_self]; rfl
  ·rw [upd_ne q]; exact e
 ·by_cases q : b = s.heap.objs.size
  ·subst q; exact .inr (fresh_size _)
  ·rw [upd_ne q] at e; exact .inl e
theorem cv_list {v : V} {l : List V} (hv : (∃ a, v = .ref a) ∨ (∃ m, v = .tup m)) (h : itemsOf H v = some l) (hl : l.length <= sizeLine) (q : ∀ b, H b = none -> Q (.ref b) (upd H b (.lst l))) : CallV C d (.type "list") [v] H Q X := fun A s cs ok rs => by
 obtain ⟨c, rfl, r⟩ := args1 rs
 have key : ∃ a T o items n, c = .ref a /\ (T = "list" ∨ T = "tuple") /\ s.heap.get? a = some o /\ o.cls = .type T /\ o.data = .seq items n /\ VRs C s.heap l items.toList := by
  rcases hv with ⟨a, rfl⟩ | ⟨m, rfl⟩
  ·dsimp only [VR] at r; subst r
   obtain ⟨items, ⟨o, ho, hc, n, hd⟩, rs⟩ := list_at ok.rel h
   exact ⟨a, _, o, items, n, rfl, .inl rfl, ho, hc, hd, rs⟩
  ·dsimp only [VR] at r; obtain ⟨a, items, ⟨rfl, nd⟩, ⟨o, ho, hc, n, hd⟩, rs⟩ := r
   simp only [itemsOf, Option.some.injEq] at h; subst h
   exact ⟨a, _, o, items, n, rfl, .inr rfl, ho, hc, hd, rs⟩
 obtain ⟨a, T, o, items, n, rfl, hT, ho, hc, hd, rs⟩ := key
 have hn := rs.length
 simp only [Array.length_toList] at hn
 refine call_list_seq a hT ho hc hd (fun h' c' k e => ?_) (by (clear hv hT; omega))
 refine qp' (Step.grow (o := .lst l) (s' := { s with heap := h' }) ok k ⟨fresh0 ok, items, ⟨c', e⟩, rs.keep (.of_keeps k)⟩ rfl rfl) .ref_ (q _ (ok.rel.fresh (fresh_size _)))
theorem cv_tuple {a : Addr} {l : List V} (h : itemsOf H (.ref a) = some l) (hl : l.length <= sizeLine) (q : Q (.tup l) H) : CallV C d (.type "tuple") [.ref a] H Q X := fun A s cs ok rs => by
 refine Vc.xa_1_2 (args1 rs) fun c hr161_1 r => ?_
 subst hr161_1
 dsimp only [VR] at r; subst r
 refine Vc.xa_1_2 (list_at ok.rel h) fun items hL rs => ?_
 have hn := rs.length
 simp only [Array.length_toList] at hn
 refine call_tuple_list hL (fun h' k => ?_) (by omega)
 have k' : ∀ b o, s.heap.get? b = some o -> (h'.push { cls := .type "tuple", data := .seq items }).get? b = some o := fun b o e => Heap.get?_push_of_some _ (k b o e)
 exact qp (Step.keeps ok.rel ok.top k' rfl rfl) (by dsimp only [VR]; exact ⟨_, items, ⟨rfl, .of (Heap.get?_push_size _ rfl) rfl⟩, ⟨_, Heap.get?_push_size _ rfl, rfl, _, rfl⟩, rs.keep (.of_keeps k')⟩) q
theorem cv_int_bool {b : Bool} (q : Q (.int (if b = true then 1 else 0)) H) : CallV C d (.type "int") [.bool b] H Q X := fun A s cs ok rs => by
 refine Vc.xa_1_2 (args1 rs) fun c hr175_1 r => ?_
 subst hr175_1
 dsimp only [VR] at r; subst r
 exact call_int_bool (qp (ok.toks _) .int_ q)
theorem cv_append {a : Addr} {l : List V} {x : V} (h : H a = some (.lst l)) (hl : l.length <= sizeLine) (q : Q .none (upd H a (.lst (l ++ [x])))) : CallV C d (.builtin "list.append") [.ref a, x] H Q X := fun A s cs ok rs => by
 refine Vc.xa_2_3 (args2 rs) fun c e hr180_2 r r' => ?_
 subst hr180_2
 dsimp only [VR] at r; subst r
 obtain ⟨h0, items, hL, rs⟩ := ok.rel _ _ h
 have hn := rs.length
 simp only [Array.length_toList] at hn
 refine wpAny_list_append_plain hL (fun h' hl' hs => ?_) (by omega)
 refine qp' (Step.mut (o := .lst (l ++ [x])) (s' := { s with heap := h' }) ok.rel ok.top (by rw [h]; rfl) h0 hs (fun ob hob => ?_) (fun ob es ep hob hd => ?_) (fun vk => ⟨h0, _, hl', ?_⟩) rfl rfl) .none_ q
 ·obtain ⟨n, e'⟩ := hL; rw [e'] at hob; cases hob; exact .inr (.inr ⟨"list", rfl, by decide, by decide⟩)
 ·refine Vc.xa_1_1 hL fun n e' => ?_
  try clear hL
  rw [e'] at hob
  cases hob
  cases hd
 ·rw [Array.toList_push]; exact (rs.keep vk).append (VRs.cons (r'.keep vk) .nil)
noncomputable def pick5 (T : String) (b1 b2 b3 b4 b5 : Bool) : Option Bool :=
 if T = "int" then some b1 else if T = "bool" then some b2 else if T = "str" then some b3 else if T = "list" then some b4 else if T = "tuple" then some b5 else none
noncomputable def isi (v : V) (T : String) : Option Bool := match v with
 | .int _ => pick5 T true false false false false
 | .bool _ => pick5 T true true false false false
 | .str _ => pick5 T false false true false false
 | .none => pick5 T false false false false false
 | .tup _ => pick5 T false false false false true
 | _ => none
theorem pick5_of {T : String} {b1 b2 b3 b4 b5 k : Bool} {P : String -> Bool -> Prop} (hk : pick5 T b1 b2 b3 b4 b5 = some k) (h1 : P "int" b1) (h2 : P "bool" b2) (h3 : P "str" b3) (h4 : P "list" b4) (h5 : P "tuple" b5) : P T k := by
 unfold pick5 at hk
 by_cases e : T = "int"
 ·rw [if_pos e] at hk; cases hk; rw [e]; exact h1
 rw [if_neg e] at hk
 by_cases e : T = "bool"
 ·rw [if_pos e] at hk; cases hk; rw [e]; exact h2
 rw [if_neg e] at hk
 by_cases e : T = "str"
 ·rw [if_pos e] at hk; cases hk; rw [e]; exact h3
 rw [if_neg e] at hk
 by_cases e : T = "list"
 ·rw [if_pos e] at hk; cases hk; rw [e]; exact h4
 rw [if_neg e] at hk
 by_cases e : T = "tuple"
 ·rw [if_pos e] at hk; cases hk; rw [e]; exact h5
 rw [if_neg e] at hk; cases hk
theorem cv_isi {v : V} {T : String} {k : Bool} (hG : C.G T (.type T)) (hk : isi v T = some k) (q : Q (.bool k) H) : CallV C d (.builtin "isinstance") [v, .glb T] H Q X := fun A s cs ok rs => by
 refine Vc.xa_2_3 (args2 rs) fun c e hr223_2 r r' => ?_
 subst hr223_2
 dsimp only [VR] at r'; cases hG.uniq r'
 have q' : ∀ n, QP C H s Q (.bool k) { s with toks := n } := fun n => qp (ok.toks n) .bool_ q
 have q0 : QP C H s Q (.bool k) s := qp ok.refl .bool_ q
 clear q hG
 revert q' q0
 cases v with
 | int i =>
  dsimp only [VR] at r; obtain ⟨t, rfl⟩ := r
  exact pick5_of (P := fun T k => (∀ n, QP C H s Q (.bool k) { s with toks := n }) -> QP C H s Q (.bool k) s -> wpAny C.M A (call (.builtin "isinstance") [.int i t, .type T]) (QP C H s Q) (XQ false C No H s X) s) hk
   (fun q' q0 => IsiPair.int_int q0) (fun q' q0 => IsiPair.int_bool (q' _)) (fun q' q0 => IsiPair.int_str (q' _)) (fun q' q0 => IsiPair.int_list (q' _)) (fun q' q0 => IsiPair.int_tuple (q' _))
 | bool b =>
  dsimp only [VR] at r; subst r
  exact pick5_of (P := fun T k => (∀ n, QP C H s Q (.bool k) { s with toks := n }) -> QP C H s Q (.bool k) s -> wpAny C.M A (call (.builtin "isinstance") [.bool b, .type T]) (QP C H s Q) (XQ false C No H s X) s) hk
   (fun q' q0 => IsiPair.bool_int q0) (fun q' q0 => IsiPair.bool_bool q0) (fun q' q0 => IsiPair.bool_str (q' _)) (fun q' q0 => IsiPair.bool_list (q' _)) (fun q' q0 => IsiPair.bool_tuple (q' _))
 | str x =>
  dsimp only [VR] at r; obtain ⟨t, rfl⟩ := r
  exact pick5_of (P := fun T k => (∀ n, QP C H s Q (.bool k) { s with toks := n }) -> QP C H s Q (.bool k) s -> wpAny C.M A (call (.builtin "isinstance") [.str x t, .type T]) (QP C H s Q) (XQ false C No H s X) s) hk
   (fun q' q0 => IsiPair.str_int (q' _)) (fun q' q0 => IsiPair.str_bool (q' _)) (fun q' q0 => IsiPair.str_str q0) (fun q' q0 => IsiPair.str_list (q' _)) (fun q' q0 => IsiPair.str_tuple (q' _))
 | none =>
  dsimp only [VR] at r; subst r
  exact pick5_of (P := fun T k => (∀ n, QP C H s Q (.bool k) { s with toks := n }) -> QP C H s Q (.bool k) s -> wpAny C.M A (call (.builtin "isinstance") [.none, .type T]) (QP C H s Q) (XQ false C No H s X) s) hk
   (fun q' q0 => IsiPair.NoneType_int (q' _)) (fun q' q0 => IsiPair.NoneType_bool (q' _)) (fun q' q0 => IsiPair.NoneType_str (q' _)) (fun q' q0 => IsiPair.NoneType_list (q' _)) (fun q' q0 => IsiPair.NoneType_tuple (q' _))
 | tup l =>
  dsimp only [VR] at r; obtain ⟨a, items, ⟨rfl, nd⟩, ⟨o, ho, hc, n, hd⟩, rs⟩ := r
  exact pick5_of (P := fun T k => (∀ n, QP C H s Q (.bool k) { s with toks := n }) -> QP C H s Q (.bool k) s -> wpAny C.M A (call (.builtin "isinstance") [.ref a, .type T]) (QP C H s Q) (XQ false C No H s X) s) hk
   (fun q' q0 => IsiPair.tuple_int ho hc (q' _)) (fun q' q0 => IsiPair.tuple_bool ho hc (q' _)) (fun q' q0 => IsiPair.tuple_str ho hc (q' _)) (fun q' q0 => IsiPair.tuple_list ho hc (q' _)) (fun q' q0 => IsiPair.tuple_tuple ho hc q0)
 | _ => cases hk
theorem cv_isi_list {a : Addr} {l : List V} {T : String} {k : Bool} (hG : C.G T (.type T)) (h : itemsOf H (.ref a) = some l) (hk : (T = "list" /\ k = true) ∨ (T = "int" /\ k = false) ∨ (T = "tuple" /\ k = false) ∨ (T = "bool" /\ k = false) ∨ (T = "str" /\ k = false)) (q : Q (.bool k) H) : CallV C d (.builtin "isinstance") [.ref a, .glb T] H Q X := fun A s cs ok rs => by
 refine Vc.xa_2_3 (args2 rs) fun c e hr253_2 r r' => ?_
 subst hr253_2
 dsimp only [VR] at r'; cases hG.uniq r'
 dsimp only [VR] at r; subst r
 refine Vc.xa_1_2 (list_at ok.rel h) fun items ho256_1 rs => ?_
 obtain ⟨o, ho, hc, n, hd⟩ := ho256_1
 rcases hk with ⟨rfl, rfl⟩ | ⟨rfl, rfl⟩ | ⟨rfl, rfl⟩ | ⟨rfl, rfl⟩ | ⟨rfl, rfl⟩
 ·exact IsiPair.list_list ho hc (qp ok.refl .bool_ q)
 ·exact IsiPair.list_int ho hc (qp (ok.toks _) .bool_ q)
 ·exact IsiPair.list_tuple ho hc (qp (ok.toks _) .bool_ q)
 ·exact IsiPair.list_bool ho hc (qp (ok.toks _) .bool_ q)
 ·exact IsiPair.list_str ho hc (qp (ok.toks _) .bool_ q)
noncomputable def dget {κ : Type} [DecidableEq κ] (l : List (κ × V)) (k : κ) : Option V := (l.find? (fun p => decide (p.1 = k))).map (·.2)
theorem valueAt_get {κ : Type} [DecidableEq κ] {h : Heap} {k : κ} {x : V} : ∀ {l : List (κ × V)} {kvs : List (κ × Value)}, kvs.map (·.1) = l.map (·.1) -> VRs C h (l.map (·.2)) (kvs.map (·.2)) -> dget l k = some x -> ∃ v, valueAt kvs k = some v /\ VR C h x v
 | [], _, _, _, e => by simp [dget] at e
 | (a, b) :: l, kvs, m, r, e => by
  cases kvs with
  | nil => simp at m
  | cons p kvs =>
   obtain ⟨a', b'⟩ := p
   simp only [List.map_cons, List.cons.injEq] at m r
   obtain ⟨rfl, m⟩ := m
   unfold dget at e
   unfold valueAt
   by_cases hk : a' = k
   ·simp only [List.find?_cons, hk, decide_true, Option.map_some, Option.some.injEq] at e ⊢
    subst e; exact ⟨b', rfl, r.head⟩
   ·simp only [List.find?_cons, hk, decide_false] at e ⊢
    exact valueAt_get m r.tail e
theorem sub_dcs {a : Addr} {l : List (Str × V)} {k : Str} {x : V} (h : H a = some (.dcs l)) (hx : dget l k = some x) (q : Q x H) : SubW C d (.ref a) (.str k) H Q X := fun A s co ci ok ro ri => by
 dsimp only [VR] at ro; dsimp only [VR] at ri; subst ro; obtain ⟨t, rfl⟩ := ri
 obtain ⟨h0, hs, kvs, hD, hm, rs⟩ := ok.rel _ _ h
 refine Vc.xa_1_2 (valueAt_get hm rs hx) fun v hv r => ?_
 exact ⟨gip hD.typeIs slot_dict_getitem.lookup, wpAny_getItem_of (knd := PySem.strKind C.prog C.w) (k := k) (by simp [PySem.strKind, Value.isStrOf]) hD.mapOf hv (qp (ok.toks _) r q)⟩
end
end Vc
end
section
namespace Vc
open PySem
section
variable (C : Cx) (d : Md)
noncomputable abbrev kB2 (op : Operator) (a : V) (Q : V -> MH -> Prop) (X : XP) : V -> MH -> Prop := fun b H2 => BinW C d op a b H2 Q X
noncomputable abbrev kB1 (op : Operator) (r : Ex) (ρ : Lo) (Q : V -> MH -> Prop) (X : XP) : V -> MH -> Prop := fun a H1 => wpE C d r ρ H1 (kB2 C d op a Q X) X
noncomputable abbrev kU1 (op : UnaryOp) (Q : V -> MH -> Prop) (X : XP) : V -> MH -> Prop := fun a H1 => UnaW C d op a H1 Q X
noncomputable abbrev kC2 (op : CmpOp) (a : V) (Q : V -> MH -> Prop) (X : XP) : V -> MH -> Prop := fun b H2 => CmpW C d op a b H2 Q X
noncomputable abbrev kC1 (op : CmpOp) (r : Ex) (ρ : Lo) (Q : V -> MH -> Prop) (X : XP) : V -> MH -> Prop := fun a H1 => wpE C d r ρ H1 (kC2 C d op a Q X) X
noncomputable abbrev kTr (P : Bool -> MH -> Prop) (X : XP) : V -> MH -> Prop := fun v H1 => TruW C d v H1 P X
noncomputable abbrev kL1 (Q : V -> MH -> Prop) : List V -> MH -> Prop := fun vs H1 => vs.length <= sizeLine /\ ∀ a, H1 a = none -> Q (.ref a) (upd H1 a (.lst vs))
noncomputable abbrev kT1 (Q : V -> MH -> Prop) : List V -> MH -> Prop := fun vs H1 => vs.length <= sizeLine /\ Q (.tup vs) H1
noncomputable abbrev kD1 (ks : List String) (Q : V -> MH -> Prop) : List V -> MH -> Prop := fun vs H1 => DctW ks vs H1 Q
noncomputable abbrev kS2 (a : V) (Q : V -> MH -> Prop) (X : XP) : V -> MH -> Prop := fun b H2 => SubW C d a b H2 Q X
noncomputable abbrev kS1 (i : Ex) (ρ : Lo) (Q : V -> MH -> Prop) (X : XP) : V -> MH -> Prop := fun a H1 => wpE C d i ρ H1 (kS2 C d a Q X) X
noncomputable abbrev kI4 (a b c : V) (Q : V -> MH -> Prop) (X : XP) : V -> MH -> Prop := fun e H4 => SliW C d a b c e H4 Q X
noncomputable abbrev kI3 (a b : V) (t : Ex) (ρ : Lo) (Q : V -> MH -> Prop) (X : XP) : V -> MH -> Prop := fun c H3 => wpE C d t ρ H3 (kI4 C d a b c Q X) X
noncomputable abbrev kI2 (a : V) (u t : Ex) (ρ : Lo) (Q : V -> MH -> Prop) (X : XP) : V -> MH -> Prop := fun b H2 => wpE C d u ρ H2 (kI3 C d a b t ρ Q X) X
noncomputable abbrev kI1 (l u t : Ex) (ρ : Lo) (Q : V -> MH -> Prop) (X : XP) : V -> MH -> Prop := fun a H1 => wpE C d l ρ H1 (kI2 C d a u t ρ Q X) X
noncomputable abbrev kV1 (fv : Value) (Q : V -> MH -> Prop) (X : XP) : List V -> MH -> Prop := fun vs H1 => CallV C d fv vs H1 Q X
noncomputable abbrev kW1 (f : String) (Q : V -> MH -> Prop) (X : XP) : List V -> MH -> Prop := fun vs H1 => CallW C d f vs H1 Q X
noncomputable abbrev kM2 (fv : Value) (ov : V) (Q : V -> MH -> Prop) (X : XP) : List V -> MH -> Prop := fun vs H2 => CallV C d fv (ov :: vs) H2 Q X
noncomputable abbrev kM1 (m : String) (es : List Ex) (ρ : Lo) (Q : V -> MH -> Prop) (X : XP) : V -> MH -> Prop := fun ov H1 => ∃ fv, MGet C d ov m fv H1 /\ Callee C fv /\ wpEs C d es ρ H1 (kM2 C d fv ov Q X) X
noncomputable abbrev kA1 (a : String) (Q : V -> MH -> Prop) (X : XP) : V -> MH -> Prop := fun ov H1 => AttW C d ov a H1 Q X
noncomputable abbrev kQ3 (Q' : Option V -> MH -> Prop) : V -> MH -> Prop := fun v H4 => Q' (some v) H4
noncomputable abbrev kQ2 (elt : Ex) (ifs : List Ex) (ρ : Lo) (X : XP) : List V -> MH -> (Option V -> MH -> Prop) -> Prop := fun vs H2 Q' => wpTs C d ifs (ρ ++ vs.map some) H2 (fun t H3 => if t = true then wpE C d elt (ρ ++ vs.map some) H3 (kQ3 Q') X else Q' none H3) X
noncomputable abbrev kQ1 (k : Nat) (elt : Ex) (ifs : List Ex) (ρ : Lo) (Q : V -> MH -> Prop) (X : XP) : V -> MH -> Prop := fun iv H1 => ∃ all, Itq d iv /\ itemsOf H1 iv = some all /\ all.length <= sizeLine /\ wpC k iv all (kQ2 C d elt ifs ρ X) all [] H1 (kL1 Q)
noncomputable abbrev kE2 (v : V) (Q : List V -> MH -> Prop) : List V -> MH -> Prop := fun vs H2 => Q (v :: vs) H2
noncomputable abbrev kE1 (es : List Ex) (ρ : Lo) (Q : List V -> MH -> Prop) (X : XP) : V -> MH -> Prop := fun v H1 => wpEs C d es ρ H1 (kE2 v Q) X
noncomputable abbrev kX (X : XS) (ρ : Lo) : XP := fun c H1 => X c ρ H1
noncomputable abbrev kAs (ts : List St) (ρ : Lo) (i : Nat) (K : KP) (X : XS) : V -> MH -> Prop := fun v H1 => wpSs C d ts (ls ρ i v) H1 K X
noncomputable abbrev kUn (ts : List St) (ρ : Lo) (is : List Nat) (K : KP) (X : XS) : V -> MH -> Prop := fun v H1 => ∃ l, v = .tup l /\ Itq d v /\ l.length = is.length /\ wpSs C d ts (lss ρ is l) H1 K X
noncomputable abbrev kSs (ts : List St) (ρ : Lo) (K : KP) (X : XS) : MH -> Prop := fun H4 => wpSs C d ts ρ H4 K X
noncomputable abbrev kZ3 (v ov : V) (ts : List St) (ρ : Lo) (K : KP) (X : XS) : V -> MH -> Prop := fun iv H3 => SetIW C d ov iv v H3 (kSs C d ts ρ K X) (kX X ρ)
noncomputable abbrev kZ2 (v : V) (i : Ex) (ts : List St) (ρ : Lo) (K : KP) (X : XS) : V -> MH -> Prop := fun ov H2 => wpE C d i ρ H2 (kZ3 C d v ov ts ρ K X) (kX X ρ)
noncomputable abbrev kZ1 (o i : Ex) (ts : List St) (ρ : Lo) (K : KP) (X : XS) : V -> MH -> Prop := fun v H1 => wpE C d o ρ H1 (kZ2 C d v i ts ρ K X) (kX X ρ)
noncomputable abbrev kY2 (v : V) (a : String) (ts : List St) (ρ : Lo) (K : KP) (X : XS) : V -> MH -> Prop := fun ov H2 => SetAW C d ov a v H2 (kSs C d ts ρ K X) (kX X ρ)
noncomputable abbrev kY1 (o : Ex) (a : String) (ts : List St) (ρ : Lo) (K : KP) (X : XS) : V -> MH -> Prop := fun v H1 => wpE C d o ρ H1 (kY2 C d v a ts ρ K X) (kX X ρ)
noncomputable abbrev kEx (ts : List St) (ρ : Lo) (K : KP) (X : XS) : V -> MH -> Prop := fun zz H1 => wpSs C d ts ρ H1 K X
noncomputable abbrev kRe (ρ : Lo) (K : KP) : V -> MH -> Prop := fun v H1 => K (.ret v) ρ H1
noncomputable abbrev kSq (ts : List St) (K : KP) (X : XS) : KP := fun f ρ' H' => match f with | .next => wpSs C d ts ρ' H' K X | .ret v => K (.ret v) ρ' H'
noncomputable abbrev kSt (body : List St) (X : XS) : Lo -> MH -> KP -> Prop := fun ρ' H' K' => wpSs C d body ρ' H' K' X
noncomputable abbrev kLo (R : Lo -> MH -> Prop) (K : KP) : KP := fun f ρ' H' => match f with | .next => R ρ' H' | .ret v => K (.ret v) ρ' H'
noncomputable abbrev kAc (R : List V -> MH -> Prop) (acc : List V) : Option V -> MH -> Prop := fun r H' => R (match r with | some v => acc ++ [v] | none => acc) H'
noncomputable abbrev kFo (k : List Nat) (body ts : List St) (ρ : Lo) (K : KP) (X : XS) : V -> MH -> Prop := fun v H1 => ∃ all, Itq d v /\ itemsOf H1 v = some all /\ wpF k (.pl v) all (kSt C d body X) all ρ H1 (kSq C d ts K X)
noncomputable abbrev kRt (Q : V -> MH -> Prop) : KP := fun f zz H' => match f with | .ret v => Q v H' | .next => Q .none H'
noncomputable abbrev kXt (X : XP) : XS := fun c zz H' => X c H'
end
section
variable {C : Cx} {d : Md} {ρ : Lo} {H : MH} {Q : V -> MH -> Prop} {X : XP}
theorem E_nm {i : Nat} {v : V} (h : lk ρ i = some v) (q : Q v H) : wpE C d (.nm i) ρ H Q X := ⟨v, h, q⟩
theorem E_gl {x : String} {cv : Value} (hG : C.G x cv) (q : Q (.glb x) H) : wpE C d (.gl x) ρ H Q X := ⟨.glb x, cv, hG, by dsimp only [VR]; exact hG, q⟩
theorem E_ci {i : Int} (q : Q (.int i) H) : wpE C d (.ci i) ρ H Q X := q
theorem E_cs {x : String} (q : Q (.str (Str.ofString x)) H) : wpE C d (.cs x) ρ H Q X := q
theorem E_cb {b : Bool} (q : Q (.bool b) H) : wpE C d (.cb b) ρ H Q X := q
theorem E_cn (q : Q .none H) : wpE C d .cn ρ H Q X := q
theorem E_bin {op : Operator} {l r : Ex} (q : wpE C d l ρ H (kB1 C d op r ρ Q X) X) : wpE C d (.bin op l r) ρ H Q X := q
theorem E_una {op : UnaryOp} {e : Ex} (q : wpE C d e ρ H (kU1 C d op Q X) X) : wpE C d (.una op e) ρ H Q X := q
theorem E_cmp {op : CmpOp} {l r : Ex} (q : wpE C d l ρ H (kC1 C d op r ρ Q X) X) : wpE C d (.cmp op l r) ρ H Q X := q
theorem E_bop {op : BoolOp} {es : List Ex} (q : wpB C d op es ρ H Q X) : wpE C d (.bop op es) ρ H Q X := q
theorem E_ife {c a b : Ex} (q : wpT C d c ρ H (fun t H1 => if t = true then wpE C d a ρ H1 Q X else wpE C d b ρ H1 Q X) X) : wpE C d (.ife c a b) ρ H Q X := q
theorem E_lst {es : List Ex} (q : wpEs C d es ρ H (kL1 Q) X) : wpE C d (.lst es) ρ H Q X := q
theorem E_tup {es : List Ex} (q : wpEs C d es ρ H (kT1 Q) X) : wpE C d (.tup es) ρ H Q X := q
theorem E_emp {k : Nat} (q : ∀ a, H a = none -> Q (.ref a) (upd H a (match k with | 0 => .dci [] | 1 => .dcs [] | _ => .prd (dckP [])))) : wpE C d (.emp k) ρ H Q X := q
theorem E_dct {ks : List String} {es : List Ex} (q : wpEs C d es ρ H (kD1 ks Q) X) : wpE C d (.dct ks es) ρ H Q X := q
theorem E_sub {o i : Ex} (q : wpE C d o ρ H (kS1 C d i ρ Q X) X) : wpE C d (.sub o i) ρ H Q X := q
theorem E_sli {o l u t : Ex} (q : wpE C d o ρ H (kI1 C d l u t ρ Q X) X) : wpE C d (.sli o l u t) ρ H Q X := q
theorem E_call {f : String} {fv : Value} {es : List Ex} (hG : C.G f fv) (hc : Callee C fv) (q : wpEs C d es ρ H (kV1 C d fv Q X) X) : wpE C d (.call f es) ρ H Q X := by
 have e : ∀ vs H1, CallV C d fv vs H1 Q X ↔ CallW C d f vs H1 Q X := fun vs H1 => ⟨fun h => call_w hG h, fun h => h fv hG⟩
 have q' : wpEs C d es ρ H (fun vs H1 => CallW C d f vs H1 Q X) X := by
  rw [<- show kV1 C d fv Q X = fun vs H1 => CallW C d f vs H1 Q X from funext fun vs => funext fun H1 => propext (e vs H1)]; exact q
 exact ⟨⟨fv, hG, hc⟩, q'⟩
theorem E_meth {o : Ex} {m : String} {es : List Ex} (q : wpE C d o ρ H (kM1 C d m es ρ Q X) X) : wpE C d (.meth o m es) ρ H Q X := q
theorem E_att {o : Ex} {a : String} (q : wpE C d o ρ H (kA1 C d a Q X) X) : wpE C d (.att o a) ρ H Q X := q
theorem E_comp {k : Nat} {elt it : Ex} {ifs : List Ex} (q : wpE C d it ρ H (kQ1 C d k elt ifs ρ Q X) X) : wpE C d (.comp k elt it ifs) ρ H Q X := q
theorem Es_nil {Q : List V -> MH -> Prop} (q : Q [] H) : wpEs C d [] ρ H Q X := q
theorem Es_cons {Q : List V -> MH -> Prop} {e : Ex} {es : List Ex} (q : wpE C d e ρ H (kE1 C d es ρ Q X) X) : wpEs C d (e :: es) ρ H Q X := q
theorem B_one {op : BoolOp} {e : Ex} (q : wpE C d e ρ H Q X) : wpB C d op [e] ρ H Q X := q
theorem B_cons {op : BoolOp} {e e' : Ex} {es : List Ex} (q : wpE C d e ρ H (fun v H1 => TruW C d v H1 (fun t H2 => if (op = .And /\ t = false) ∨ (op = .Or /\ t = true) then Q v H2 else wpB C d op (e' :: es) ρ H2 Q X) X) X) : wpB C d op (e :: e' :: es) ρ H Q X := by
 exact q
variable {P : Bool -> MH -> Prop}
theorem T_not {e : Ex} (q : wpT C d e ρ H (fun t H1 => P (!t) H1) X) : wpT C d (.una .Not e) ρ H P X := q
theorem T_bop {op : BoolOp} {es : List Ex} (q : wpA C d op es ρ H P X) : wpT C d (.bop op es) ρ H P X := q
theorem T_nm {i : Nat} (q : wpE C d (.nm i) ρ H (kTr C d P X) X) : wpT C d (.nm i) ρ H P X := q
theorem T_cmp {op : CmpOp} {l r : Ex} (q : wpE C d (.cmp op l r) ρ H (kTr C d P X) X) : wpT C d (.cmp op l r) ρ H P X := q
theorem T_call {f : String} {es : List Ex} (q : wpE C d (.call f es) ρ H (kTr C d P X) X) : wpT C d (.call f es) ρ H P X := q
theorem A_nil_and (q : P true H) : wpA C d .And [] ρ H P X := q
theorem A_nil_or (q : P false H) : wpA C d .Or [] ρ H P X := q
theorem A_and {e : Ex} {es : List Ex} (q : wpT C d e ρ H (fun t H1 => if t = true then wpA C d .And es ρ H1 P X else P false H1) X) : wpA C d .And (e :: es) ρ H P X := by
 have e : ∀ (t : Bool) (H1 : MH), (if t = true then wpA C d .And es ρ H1 P X else P false H1) ↔ (if (BoolOp.And = .And /\ t = false) ∨ (BoolOp.And = .Or /\ t = true) then P t H1 else wpA C d .And es ρ H1 P X) := fun t H1 => by cases t <;> simp
 rw [funext fun t => funext fun H1 => propext (e t H1)] at q
 exact q
theorem A_or {e : Ex} {es : List Ex} (q : wpT C d e ρ H (fun t H1 => if t = true then P true H1 else wpA C d .Or es ρ H1 P X) X) : wpA C d .Or (e :: es) ρ H P X := by
 have e : ∀ (t : Bool) (H1 : MH), (if t = true then P true H1 else wpA C d .Or es ρ H1 P X) ↔ (if (BoolOp.Or = .And /\ t = false) ∨ (BoolOp.Or = .Or /\ t = true) then P t H1 else wpA C d .Or es ρ H1 P X) := fun t H1 => by cases t <;> simp
 rw [funext fun t => funext fun H1 => propext (e t H1)] at q
 exact q
theorem Ts_nil (q : P true H) : wpTs C d [] ρ H P X := q
theorem Ts_cons {e : Ex} {es : List Ex} (q : wpT C d e ρ H (fun t H1 => if t = true then wpTs C d es ρ H1 P X else P false H1) X) : wpTs C d (e :: es) ρ H P X := q
end
section
variable {C : Cx} {d : Md} {ρ : Lo} {H : MH} {K : KP} {X : XS} {ts : List St}
theorem SS_nil (q : K .next ρ H) : wpSs C d [] ρ H K X := by dsimp only [wpSs]; exact q
theorem SS_append {as bs : List St} : ∀ {ρ : Lo} {H : MH} {K : KP}, wpSs C d (as ++ bs) ρ H K X ↔ wpSs C d as ρ H (fun f ρ' H' => match f with | .next => wpSs C d bs ρ' H' K X | .ret v => K (.ret v) ρ' H') X := by
 induction as with
 | nil => intro ρ H K; rw [List.nil_append]; exact ⟨fun h => by dsimp only [wpSs]; exact h, fun h => by dsimp only [wpSs] at h; exact h⟩
 | cons a as ih =>
  intro ρ H K
  (rw [List.cons_append]; dsimp only [wpSs, wpSs])
  refine Iff.of_eq (congrArg (fun K => wpS C d a ρ H K X) ?_)
  funext f ρ' H'
  cases f with
  | next => exact propext ih
  | ret v => rfl
theorem SS_asg {i : Nat} {e : Ex} (q : wpE C d e ρ H (kAs C d ts ρ i K X) (kX X ρ)) : wpSs C d (.asg i e :: ts) ρ H K X := by dsimp only [wpSs, wpS]; exact q
theorem SS_unp {is : List Nat} {e : Ex} (q : wpE C d e ρ H (kUn C d ts ρ is K X) (kX X ρ)) : wpSs C d (.unp is e :: ts) ρ H K X := by dsimp only [wpSs, wpS]; exact q
theorem SS_seti {o i e : Ex} (q : wpE C d e ρ H (kZ1 C d o i ts ρ K X) (kX X ρ)) : wpSs C d (.seti o i e :: ts) ρ H K X := by dsimp only [wpSs, wpS]; exact q
theorem SS_seta {o : Ex} {a : String} {e : Ex} (q : wpE C d e ρ H (kY1 C d o a ts ρ K X) (kX X ρ)) : wpSs C d (.seta o a e :: ts) ρ H K X := by dsimp only [wpSs, wpS]; exact q
theorem SS_exp {e : Ex} (q : wpE C d e ρ H (kEx C d ts ρ K X) (kX X ρ)) : wpSs C d (.exp e :: ts) ρ H K X := by dsimp only [wpSs, wpS]; exact q
theorem SS_ret {e : Ex} (q : wpE C d e ρ H (kRe ρ K) (kX X ρ)) : wpSs C d (.ret e :: ts) ρ H K X := by dsimp only [wpSs, wpS]; exact q
theorem SS_ife {c : Ex} {a b : List St} (q : wpT C d c ρ H (fun t H1 => if t = true then wpSs C d (a ++ ts) ρ H1 K X else wpSs C d (b ++ ts) ρ H1 K X) (kX X ρ)) : wpSs C d (.ife c a b :: ts) ρ H K X := by
 simp only [SS_append] at q
 dsimp only [wpSs, wpS]; exact q
theorem for_inv {k : List Nat} {sv : Sv} {all : List V} {stp : Lo -> MH -> KP -> Prop} {K : KP} (P : Nat -> Lo -> MH -> Prop) (P0 : P 0 ρ H)
  (rnd : ∀ i x ρ H (R : Lo -> MH -> Prop), P i ρ H -> all[i]? = some x -> (∀ ρ' H', P (i + 1) ρ' H' -> R ρ' H') -> svItems H sv = some all /\ ∃ vs, parts k.length x = some vs /\ stp (lss ρ k vs) H (kLo R K))
  (fin : ∀ ρ H, P all.length ρ H -> svItems H sv = some all /\ K .next ρ H) : wpF k sv all stp all ρ H K := by
 have key : ∀ n i ρ H, i + n = all.length -> P i ρ H -> wpF k sv all stp (all.drop i) ρ H K := by
  intro n
  induction n with
  | zero =>
   intro i ρ H e p
   (rw [List.drop_eq_nil_of_le (by omega)]; dsimp only [wpF])
   have : i = all.length := by omega
   subst this
   exact fin ρ H p
  | succ n ih =>
   intro i ρ H e p
   have hi : i < all.length := by omega
   (rw [List.drop_eq_getElem_cons hi]; dsimp only [wpF])
   exact rnd i all[i] ρ H (fun ρ' H' => wpF k sv all stp (all.drop (i + 1)) ρ' H' K) p (List.getElem?_eq_getElem hi) fun ρ' H' p' => ih (i + 1) ρ' H' (by (clear hi; omega)) p'
 simpa using key all.length 0 ρ H (by omega) P0
theorem comp_inv {k : Nat} {iv : V} {all : List V} {stp : List V -> MH -> (Option V -> MH -> Prop) -> Prop} {K : List V -> MH -> Prop} (P : Nat -> List V -> MH -> Prop) (P0 : P 0 [] H)
  (rnd : ∀ i x acc H (R : List V -> MH -> Prop), P i acc H -> all[i]? = some x -> (∀ acc' H', P (i + 1) acc' H' -> R acc' H') -> itemsOf H iv = some all /\ ∃ vs, parts k x = some vs /\ stp vs H (kAc R acc))
  (fin : ∀ acc H, P all.length acc H -> itemsOf H iv = some all /\ K acc H) : wpC k iv all stp all [] H K := by
 have key : ∀ n i acc H, i + n = all.length -> P i acc H -> wpC k iv all stp (all.drop i) acc H K := by
  intro n
  induction n with
  | zero =>
   intro i acc H e p
   (rw [List.drop_eq_nil_of_le (by omega)]; dsimp only [wpC])
   have : i = all.length := by omega
   subst this
   exact fin acc H p
  | succ n ih =>
   intro i acc H e p
   have hi : i < all.length := by omega
   (rw [List.drop_eq_getElem_cons hi]; dsimp only [wpC])
   exact rnd i all[i] acc H (fun acc' H' => wpC k iv all stp (all.drop (i + 1)) acc' H' K) p (List.getElem?_eq_getElem hi) fun acc' H' p' => ih (i + 1) acc' H' (by (clear hi; omega)) p'
 simpa using key all.length 0 [] H (by omega) P0
theorem SS_for {k : List Nat} {e : Ex} {body : List St} (q : wpE C d e ρ H (kFo C d k body ts ρ K X) (kX X ρ)) : wpSs C d (.for k (.pl e) body :: ts) ρ H K X := by dsimp only [wpSs, wpS, wpSr]; exact q
theorem whl_inv {tst : Lo -> MH -> (Bool -> MH -> Prop) -> Prop} {stp : Lo -> MH -> KP -> Prop} {K : KP} (P : Nat -> Lo -> MH -> Prop) 
  (rnd : ∀ n ρ H (R : Lo -> MH -> Prop), P n ρ H -> (∀ m ρ' H', m < n -> P m ρ' H' -> R ρ' H') -> tst ρ H (fun t H1 => if t = true then stp ρ H1 (fun f ρ' H' => match f with | .next => R ρ' H' | .ret v => K (.ret v) ρ' H') else K .next ρ H1)) : ∀ n ρ H, P n ρ H -> ∀ m, n < m -> wpW tst stp m ρ H K := by
 intro n
 induction n using Nat.strongRecOn with
 | ind n ih =>
  intro ρ H p m hm
  cases m with
  | zero => omega
  | succ m =>
   dsimp only [wpW]
   exact rnd n ρ H (fun ρ' H' => wpW tst stp m ρ' H' K) p fun m' ρ' H' hm' p' => ih m' hm' ρ' H' p' m (by omega)
theorem SS_whl {c : Ex} {body : List St} (n : Nat) (q : wpW (fun ρ' H' Q => wpT C d c ρ' H' Q (fun c H1 => X c ρ' H1)) (fun ρ' H' K' => wpSs C d body ρ' H' K' X) n ρ H (fun f ρ' H' => match f with | .next => wpSs C d ts ρ' H' K X | .ret v => K (.ret v) ρ' H')) : wpSs C d (.whl c body :: ts) ρ H K X := by dsimp only [wpSs, wpS]; exact ⟨n, q⟩
end
noncomputable def Def (C : Cx) (f : String) (vs : Vs) (np : Nat) (body : List St) : Prop :=
 ∃ fa o fd, C.mg (Str.ofString f) = some (.ref fa) /\ C.h0.get? fa = some o /\ o.data = .func fd /\ C.h0.CodeRec fd.code fd.qualname /\ okFn fd vs np body = true
section
variable {C : Cx} {n : Nat} {q : Bool} {ρ : Lo} {H : MH} {Q : V -> MH -> Prop} {X : XP}
theorem Def.fn {f : String} {vs : Vs} {np : Nat} {body : List St} (D : Def C f vs np body) : Fn C f := by
 refine Vc.xa_3_5 D fun fa o fd hg ho hd hc hk => ?_
 try clear D
 exact ⟨.ref fa, .inl hg, callee_fn ho hd⟩
theorem Def.call {f : String} {vs : Vs} {np : Nat} {body : List St} {args : List V} (G : C.Good) (D : Def C f vs np body) (hl : args.length = np)
  (h : wpSs C ⟨n, q⟩ body (args.map some ++ List.replicate (vs.length - np) none) H (kRt Q) (kXt X)) : CallW C ⟨n + 1, q⟩ f args H Q X := by
 refine Vc.xa_3_5 D fun fa o fd hg ho hd hc hk => ?_
 try clear D
 exact call_w (.inl hg) (fn_call G ho hd hc hk hl h)
theorem E_fn {d : Md} {f : String} {es : List Ex} (hF : Fn C f) (h : wpEs C d es ρ H (kW1 C d f Q X) X) : wpE C d (.call f es) ρ H Q X := ⟨hF, h⟩
end
noncomputable def Ext (H H' : MH) : Prop := ∀ a o, H a = some o -> H' a = some o
theorem Ext.refl (H : MH) : Ext H H := fun zz zz e => e
theorem Ext.trans {H H' H'' : MH} (x : Ext H H') (y : Ext H' H'') : Ext H H'' := fun a o e => y a o (x a o e)
theorem Ext.new {H : MH} {a : Addr} {o : O} (h : H a = none) : Ext H (upd H a o) := fun b o' e => by
 rw [upd_ne]
 ·exact e
 ·rintro rfl; rw [h] at e; cases e
theorem Ext.more {H H' : MH} {a : Addr} {o : O} (x : Ext H H') (h : H' a = none) : Ext H (upd H' a o) := x.trans (.new h)
theorem Ext.items {H H' : MH} (x : Ext H H') {v : V} {l : List V} (h : itemsOf H v = some l) : itemsOf H' v = some l := by
 cases v with
 | ref a =>
  simp only [itemsOf] at h ⊢
  cases e : H a with
  | none => rw [e] at h; cases h
  | some o => rw [e] at h; rw [x a o e]; exact h
 | _ => exact h
theorem items_new {H : MH} {a : Addr} {l : List V} : itemsOf (upd H a (.lst l)) (.ref a) = some l := by simp only [itemsOf, upd_self]
theorem items_lst {H : MH} {a : Addr} {l : List V} (h : H a = some (.lst l)) : itemsOf H (.ref a) = some l := by simp only [itemsOf, h]
theorem items_fro {H : MH} {a : Addr} {l : List V} (h : H a = some (.fro l)) : itemsOf H (.ref a) = some l := by simp only [itemsOf, h]
theorem rngItems_one {a b : Int} : rngItems a b 1 = (List.range (b - a).toNat).map fun (k : Nat) => V.int (a + (k : Int)) := by
 unfold rngItems
 rw [rangeSize_one]
 by_cases h : a < b
 ·rw [if_pos h]; simp
 ·rw [if_neg h]; simp; omega
theorem rng_len {a b : Int} : (rngItems a b 1).length = (b - a).toNat := by rw [rngItems_one]; simp
theorem rng_get {a b : Int} {i : Nat} {x : V} (h : (rngItems a b 1)[i]? = some x) : x = .int (a + i) /\ (i : Int) < b - a := by
 rw [rngItems_one, List.getElem?_map] at h
 cases e : (List.range (b - a).toNat)[i]? with
 | none => rw [e] at h; cases h
 | some j =>
  rw [e] at h
  have := List.getElem?_eq_some_iff.mp e
  refine Vc.xa_1_1 this fun hi ej => ?_
  try clear this
  simp at hi ej h
  subst ej
  exact ⟨h.symm, by omega⟩
end Vc
end
section
namespace Vc
open PySem PyProof.Rows
section
variable {C : Cx} {d : Md} {H : MH}
theorem mget_list {a : Addr} {l : List V} {m id : String} (h : H a = some (.lst l)) (slot : Slot "list" (Str.ofString m) id) (ty : typeOf (.builtin id) = pure (.type "method_descriptor")) : MGet C d (.ref a) m (.builtin id) H := fun A s co pl Q E ok r q => by
 dsimp only [VR] at r; subst r
 obtain ⟨_, items, ⟨n, ho⟩, rs⟩ := ok.rel _ _ h
 exact getMethod_builtin (T := "list") ⟨_, ho, rfl⟩ PySem.F.plainAttrs_list slot ty (fun a e => by cases e; exact ⟨_, ho, rfl⟩) q
theorem mget_append {a : Addr} {l : List V} (h : H a = some (.lst l)) : MGet C d (.ref a) "append" (.builtin "list.append") H := mget_list h PySem.F.slot_list_append PySem.F.type_list_append
end
noncomputable def stdNames : List (String × Value) := [("len", .builtin "len"), ("range", .type "range"), ("list", .type "list"), ("tuple", .type "tuple"), ("int", .type "int"), ("bool", .type "bool"), ("str", .type "str"), ("dict", .type "dict"), ("isinstance", .builtin "isinstance"), ("enumerate", .type "enumerate"), ("min", .builtin "min"), ("max", .builtin "max"), ("all", .builtin "all"), ("any", .builtin "any"), ("sorted", .builtin "sorted"), ("set", .type "set"), ("zip", .type "zip"), ("sum", .builtin "sum")]
structure Std (C : Cx) : Prop where
 n_len : C.G "len" (.builtin "len")
 n_range : C.G "range" (.type "range")
 n_list : C.G "list" (.type "list")
 n_tuple : C.G "tuple" (.type "tuple")
 n_int : C.G "int" (.type "int")
 n_bool : C.G "bool" (.type "bool")
 n_str : C.G "str" (.type "str")
 n_dict : C.G "dict" (.type "dict")
 n_isinstance : C.G "isinstance" (.builtin "isinstance")
 n_enumerate : C.G "enumerate" (.type "enumerate")
 n_min : C.G "min" (.builtin "min")
 n_max : C.G "max" (.builtin "max")
 n_all : C.G "all" (.builtin "all")
 n_any : C.G "any" (.builtin "any")
 n_sorted : C.G "sorted" (.builtin "sorted")
 n_set : C.G "set" (.type "set")
 n_zip : C.G "zip" (.type "zip")
 n_sum : C.G "sum" (.builtin "sum")
end Vc
end
section
namespace Vc
open PySem PyProof.Rows
theorem bin_modp {C : Cx} {d : Md} {H : MH} {Q : V -> MH -> Prop} {X : XP} {a b : Int} (hb : 0 < b) (q : Q (.int (a % b)) H) : BinW C d .Mod (.int a) (.int b) H Q X :=
 bin_mod (by omega) (by rw [Int.fmod_eq_emod_of_nonneg _ (by omega)]; exact q)
theorem bin_divp {C : Cx} {d : Md} {H : MH} {Q : V -> MH -> Prop} {X : XP} {a b : Int} (hb : 0 < b) (hs : b < 1073741824) (q : Q (.int (a / b)) H) : BinW C d .FloorDiv (.int a) (.int b) H Q X :=
 bin_fdiv (by (clear hs; omega)) (PyProof.noPylong_small (by omega)) (by rw [Int.fdiv_eq_ediv_of_nonneg _ (by (clear hs; omega))]; exact q)
theorem B_and {C : Cx} {d : Md} {ρ : Lo} {H : MH} {Q : V -> MH -> Prop} {X : XP} {e e' : Ex} {es : List Ex} (q : wpE C d e ρ H (fun v H1 => TruW C d v H1 (fun t H2 => if t = true then wpB C d .And (e' :: es) ρ H2 Q X else Q v H2) X) X) : wpB C d .And (e :: e' :: es) ρ H Q X := by
 have e : ∀ (v : V) (t : Bool) (H1 : MH), (if t = true then wpB C d .And (e' :: es) ρ H1 Q X else Q v H1) ↔ (if (BoolOp.And = .And /\ t = false) ∨ (BoolOp.And = .Or /\ t = true) then Q v H1 else wpB C d .And (e' :: es) ρ H1 Q X) := fun v t H1 => by cases t <;> simp
 exact B_cons (by simpa only [e] using q)
theorem if_t {A B : Prop} (h : A) : if true = true then A else B := h
theorem if_f {A B : Prop} (h : B) : if false = true then A else B := h
theorem if_nt {A B : Prop} (h : B) : if (!true) = true then A else B := h
theorem if_nf {A B : Prop} (h : A) : if (!false) = true then A else B := h
theorem SS_join {C : Cx} {d : Md} {ρ : Lo} {H : MH} {K : KP} {X : XS} {ts : List St} {c : Ex} {a b : List St} (J : Lo -> MH -> Prop) (h2 : ∀ ρ' H', J ρ' H' -> wpSs C d ts ρ' H' K X)
  (h1 : ∀ R : Lo -> MH -> Prop, (∀ ρ' H', J ρ' H' -> R ρ' H') -> wpT C d c ρ H (fun t H1 => if t = true then wpSs C d a ρ H1 (kLo R K) X
   else wpSs C d b ρ H1 (kLo R K) X) (kX X ρ)) : wpSs C d (.ife c a b :: ts) ρ H K X := by
 dsimp only [wpSs, wpS]; exact h1 (fun ρ' H' => wpSs C d ts ρ' H' K X) h2
theorem SS_app0 {C : Cx} {d : Md} {ρ : Lo} {H : MH} {K : KP} {X : XS} {ts : List St} (h : wpSs C d ts ρ H K X) : wpSs C d ([] ++ ts) ρ H K X := h
theorem SS_app1 {C : Cx} {d : Md} {ρ : Lo} {H : MH} {K : KP} {X : XS} {t : St} {as ts : List St} (h : wpSs C d (t :: (as ++ ts)) ρ H K X) : wpSs C d ((t :: as) ++ ts) ρ H K X := h
section
variable {C : Cx} {d : Md} {H : MH} {Q : V -> MH -> Prop} {X : XP}
theorem sub_t0 {l : List V} {x : V} (hl : Nat.ble l.length 900 = true) (q : Q x H) : SubW C d (.tup (x :: l)) (.int 0) H Q X :=
 sub_tup (j := 0) (by simp [seqIndex?]) (Nat.le_trans (m := 901) (by have := Nat.le_of_ble_eq_true hl; simp; omega) (by decide)) rfl q
theorem sub_t1 {l : List V} {x y : V} (hl : Nat.ble l.length 900 = true) (q : Q y H) : SubW C d (.tup (x :: y :: l)) (.int 1) H Q X :=
 sub_tup (j := 1) (by simp [seqIndex?]; omega) (Nat.le_trans (m := 902) (by have := Nat.le_of_ble_eq_true hl; simp; omega) (by decide)) rfl q
theorem sub_t2 {l : List V} {x y z : V} (hl : Nat.ble l.length 900 = true) (q : Q z H) : SubW C d (.tup (x :: y :: z :: l)) (.int 2) H Q X :=
 sub_tup (j := 2) (by simp [seqIndex?]; omega) (Nat.le_trans (m := 903) (by have := Nat.le_of_ble_eq_true hl; simp; omega) (by decide)) rfl q
theorem sub_t3 {l : List V} {x y z u : V} (hl : Nat.ble l.length 900 = true) (q : Q u H) : SubW C d (.tup (x :: y :: z :: u :: l)) (.int 3) H Q X :=
 sub_tup (j := 3) (by simp [seqIndex?]; omega) (Nat.le_trans (m := 904) (by have := Nat.le_of_ble_eq_true hl; simp; omega) (by decide)) rfl q
theorem sub_listn {a : Addr} {l : List V} {i : Nat} {x : V} (h : itemsOf H (.ref a) = some l) (hl : l.length <= sizeLine) (hx : l[i]? = some x) (q : Q x H) : SubW C d (.ref a) (.int i) H Q X := by
 refine sub_list h hl (j := i) ?_ hx q
 have := (List.getElem?_eq_some_iff.mp hx).1
 simp only [seqIndex?]
 rw [if_neg (show ¬ (i : Int) < 0 by (clear hl this; omega)), if_pos (by simp; (clear hl; omega))]
 simp
end
section
variable {C : Cx} {d : Md} {ρ : Lo} {H : MH} {Q : V -> MH -> Prop} {X : XP} {i j : Nat} {v u : V} {k : Int}
theorem c_sub_nc (h : lk ρ i = some v) (q : SubW C d v (.int k) H Q X) : wpE C d (.sub (.nm i) (.ci k)) ρ H Q X := E_sub (E_nm h (E_ci q))
theorem c_sub_nn (h : lk ρ i = some v) (h' : lk ρ j = some u) (q : SubW C d v u H Q X) : wpE C d (.sub (.nm i) (.nm j)) ρ H Q X := E_sub (E_nm h (E_nm h' q))
theorem c_bin_nc {op : Operator} (h : lk ρ i = some v) (q : BinW C d op v (.int k) H Q X) : wpE C d (.bin op (.nm i) (.ci k)) ρ H Q X := E_bin (E_nm h (E_ci q))
theorem c_bin_nn {op : Operator} (h : lk ρ i = some v) (h' : lk ρ j = some u) (q : BinW C d op v u H Q X) : wpE C d (.bin op (.nm i) (.nm j)) ρ H Q X := E_bin (E_nm h (E_nm h' q))
theorem c_cmp_nc {op : CmpOp} (h : lk ρ i = some v) (q : CmpW C d op v (.int k) H Q X) : wpE C d (.cmp op (.nm i) (.ci k)) ρ H Q X := E_cmp (E_nm h (E_ci q))
theorem c_cmp_nn {op : CmpOp} (h : lk ρ i = some v) (h' : lk ρ j = some u) (q : CmpW C d op v u H Q X) : wpE C d (.cmp op (.nm i) (.nm j)) ρ H Q X := E_cmp (E_nm h (E_nm h' q))
theorem c_es3 {Q : List V -> MH -> Prop} {i j l : Nat} {x y z : V} (h1 : lk ρ i = some x) (h2 : lk ρ j = some y) (h3 : lk ρ l = some z) (q : Q [x, y, z] H) : wpEs C d [.nm i, .nm j, .nm l] ρ H Q X := Es_cons (E_nm h1 (Es_cons (E_nm h2 (Es_cons (E_nm h3 (Es_nil q))))))
theorem c_es2 {Q : List V -> MH -> Prop} {i j : Nat} {x y : V} (h1 : lk ρ i = some x) (h2 : lk ρ j = some y) (q : Q [x, y] H) : wpEs C d [.nm i, .nm j] ρ H Q X := Es_cons (E_nm h1 (Es_cons (E_nm h2 (Es_nil q))))
theorem c_es1 {Q : List V -> MH -> Prop} (h1 : lk ρ i = some v) (q : Q [v] H) : wpEs C d [.nm i] ρ H Q X := Es_cons (E_nm h1 (Es_nil q))
theorem c_ess {Q : List V -> MH -> Prop} {es : List Ex} (h1 : lk ρ i = some v) (q : wpEs C d es ρ H (kE2 v Q) X) : wpEs C d (.nm i :: es) ρ H Q X := Es_cons (E_nm h1 q)
theorem c_esc1 {Q : List V -> MH -> Prop} (q : Q [.int k] H) : wpEs C d [.ci k] ρ H Q X := Es_cons (E_ci (Es_nil q))
theorem c_esc {Q : List V -> MH -> Prop} {es : List Ex} (q : wpEs C d es ρ H (kE2 (.int k) Q) X) : wpEs C d (.ci k :: es) ρ H Q X := Es_cons (E_ci q)
theorem c_tcmp {op : CmpOp} {l r : Ex} {P : Bool -> MH -> Prop} (q : wpE C d l ρ H (kC1 C d op r ρ (kTr C d P X) X) X) : wpT C d (.cmp op l r) ρ H P X := T_cmp (E_cmp q)
theorem c_tcmp_nn {op : CmpOp} {P : Bool -> MH -> Prop} (h : lk ρ i = some v) (h' : lk ρ j = some u) (q : CmpW C d op v u H (kTr C d P X) X) : wpT C d (.cmp op (.nm i) (.nm j)) ρ H P X := T_cmp (c_cmp_nn h h' q)
theorem c_tcmp_nc {op : CmpOp} {P : Bool -> MH -> Prop} (h : lk ρ i = some v) (q : CmpW C d op v (.int k) H (kTr C d P X) X) : wpT C d (.cmp op (.nm i) (.ci k)) ρ H P X := T_cmp (c_cmp_nc h q)
end
section
variable {C : Cx} {d : Md} {ρ : Lo} {H : MH} {K : KP} {X : XS} {ts : List St} {i : Nat} {v : V}
theorem c_ret_n (h : lk ρ i = some v) (q : K (.ret v) ρ H) : wpSs C d (.ret (.nm i) :: ts) ρ H K X := SS_ret (E_nm h q)
theorem c_ret_b {b : Bool} (q : K (.ret (.bool b)) ρ H) : wpSs C d (.ret (.cb b) :: ts) ρ H K X := SS_ret (E_cb q)
end
theorem cmp_cs {C : Cx} {H : MH} {Q : V -> MH -> Prop} {X : XP} {d : Md} {x y : String} (k : Bool) (hx : (PyData.strOk (Str.ofString x) && PyData.strOk (Str.ofString y) && ((Str.ofString x == Str.ofString y) == k)) = true) (K : Q (.bool k) H) : CmpW C d .Eq (.str (Str.ofString x)) (.str (Str.ofString y)) H Q X := by
 simp only [Bool.and_eq_true, beq_iff_eq] at hx
 refine cmp_eq (.str _) (.str _) (by simpa [PyData.canLay0] using hx.1.1) (by simpa [PyData.canLay0] using hx.1.2) (by simp [PyData.depth]) ?_
 rw [PyData.eqv, show (Str.ofString x == Str.ofString y) = k from hx.2]
 exact K
noncomputable def H0 (a : Addr) (ns : List Int) : MH := fun b => if b = a then some (.fro (ns.map .int)) else none
end Vc
end
section
namespace Vc
open PySem PySem.W PyProof.Rows
theorem std_boot : stdNames.all (fun p => bootBuiltins (Str.ofString p.1) == some p.2 && !(Str.ofString p.1 == ("__name__" : Str)) && !startupNames.contains (Str.ofString p.1)) = true := by decide +kernel
noncomputable def freeT (p : Program) : Bool := stdNames.all fun q => !(((recsOf p).map (·.name)).contains (Str.ofString q.1)) && !(((litsOf p).map (·.1)).contains (Str.ofString q.1)) && !(((clssOf p []).map (·.name)).contains (Str.ofString q.1))
theorem not_mem_of {x : Str} {l : List Str} (h : (!l.contains x) = true) : x ∉ l := fun m => by
 rw [List.contains_iff_mem.mpr m] at h; cases h
theorem std_of1 {p : Program} {mean : ExcName -> Option Value} {C : Cx} (T : Top p [] mean C.mg C.mb C.h0) (e : freeT p = true) : ∀ q ∈ stdNames, C.G q.1 q.2 := fun q hq => by
 have h1 := Bool.and_eq_true_iff.mp (List.all_eq_true.mp e q hq)
 have h2 := Bool.and_eq_true_iff.mp h1.1
 have h3 := Bool.and_eq_true_iff.mp (List.all_eq_true.mp std_boot q hq)
 have h4 := Bool.and_eq_true_iff.mp h3.1
 refine .inr ⟨T.free _ (not_mem_of h3.2) (List.not_mem_nil) (not_mem_of h2.1) (not_mem_of h2.2) (not_mem_of h1.2), ?_⟩
 rw [T.builtins _ fun e => ?_]
 ·exact eq_of_beq h4.1
 ·rw [e] at h4; exact Bool.false_ne_true h4.2
theorem std_all {C : Cx} (key : ∀ q ∈ stdNames, C.G q.1 q.2) (n : Nat) (h : n < stdNames.length) : C.G stdNames[n].1 stdNames[n].2 := key _ (List.getElem_mem h)
theorem std_of {p : Program} {mean : ExcName -> Option Value} {C : Cx} (T : Top p [] mean C.mg C.mb C.h0) (e : freeT p = true) : Std C := by
 have key := std_all (std_of1 T e)
 exact ⟨key 0 (by decide), key 1 (by decide), key 2 (by decide), key 3 (by decide), key 4 (by decide), key 5 (by decide), key 6 (by decide), key 7 (by decide), key 8 (by decide), key 9 (by decide), key 10 (by decide), key 11 (by decide), key 12 (by decide), key 13 (by decide), key 14 (by decide), key 15 (by decide), key 16 (by decide), key 17 (by decide)⟩
theorem good_of {p : Program} {loose : List Str} {mean : ExcName -> Option Value} {C : Cx} (T : Top p loose mean C.mg C.mb C.h0) : C.Good := ⟨T.g, T.b, T.nolimit⟩
noncomputable def defT (p : Program) (f : String) (vs : Vs) (np : Nat) (body : List St) : Bool :=
 match (recsOf p).find? fun d => d.name == Str.ofString f with
 | some d => okFn (Calls.docDef d.name d.params d.body d.scope .none .none .none) vs np body
 | none => false
theorem def_of {p : Program} {mean : ExcName -> Option Value} {C : Cx} (T : Top p [] mean C.mg C.mb C.h0) {f : String} {vs : Vs} {np : Nat} {body : List St} (h : defT p f vs np body = true) : Def C f vs np body := by
 unfold defT at h
 cases e : (recsOf p).find? fun d => d.name == Str.ofString f with
 | none => rw [e] at h; exact (Bool.false_ne_true h).elim
 | some d =>
  rw [e] at h
  refine Vc.xa_5_4 (T.fn d (List.mem_of_find?_eq_some e)) fun a o pm code doc h1 h2 h3 h4 => ?_
  have hn : d.name = Str.ofString f := eq_of_beq (List.find?_some (p := fun d : DefRec => d.name == Str.ofString f) e)
  exact ⟨a, o, _, hn ▸ h1, h2, h3, h4, h⟩
theorem good_true {c : ClaimW} {cl : Str -> Option Addr} {mean : ExcName -> Option Value} {args : List WData} {s₁ s' : Shared} (k : ∀ b o, s₁.heap.get? b = some o -> s'.heap.get? b = some o) (hg : s'.gens = #[]) (hos : s'.os = s₁.os)
  (hn : ∀ cls, c.raises args cls = false) (hp : c.post args (.bool true) args = true) : GoodWG c cl mean args s₁ (.ok (.ret (.bool true))) s' :=
 GoodW.toG ⟨.inl ⟨.bool true, .bool true, [], rfl, hn, .bool true, hp, unshared_nil⟩, k, hos, hg⟩
theorem ints_vrs {C : Cx} {h : Heap} {vs : List Value} {ns : List Int} (x : IntsAre vs ns) : VRs C h (ns.map .int) vs := by
 induction x with
 | nil => exact .nil
 | cons n t r ih => exact VRs.cons .int_ ih
theorem start {p : Program} {w : World} {s₁ : Shared} {mg mb : Str -> Option Value} {fa a : Addr} {vs : List Value} {ns : List Int} (hL : s₁.heap.IsList a vs.toArray) (hI : IntsAre vs ns) (hg : s₁.gens = #[])
  (hmg : mg "law" = some (.ref fa)) (h : CallW ⟨p, w, s₁.heap, mg, mb⟩ ⟨60, true⟩ "law" [.ref a] (H0 a ns) (fun v zz => v = .bool true) (fun zz zz => False)) :
  wpAny (Cx.M ⟨p, w, s₁.heap, mg, mb⟩) callerA (call (.ref fa) [.ref a]) (fun v s' => v = .bool true /\ (∀ b o, s₁.heap.get? b = some o -> s'.heap.get? b = some o) /\ s'.gens = #[] /\ s'.os = s₁.os) (fun zz zz => False) s₁ := by
 have ok : Ok ⟨p, w, s₁.heap, mg, mb⟩ ⟨60, true⟩ (H0 a ns) callerA s₁ := by
  refine ⟨fun b o e => ?_, fun b o e => e, ⟨by decide +kernel, by decide +kernel⟩, ⟨fun zz => rfl, .inl rfl⟩, [], rfl, fun e he => by cases he⟩
  unfold H0 at e
  split at e
  ·rename_i hb; subst hb; cases e
   exact ⟨vs.toArray, hL, by simpa using ints_vrs hI⟩
  ·cases e
 refine wpAny_mono (h (.ref fa) (.inl hmg) callerA s₁ [.ref a] ok (VRs.cons .ref_ .nil)) (fun v s' x => ?_) fun e s' x => ?_
 ·refine Vc.xa_2_3 x fun r H' st vr hr68_4 => ?_
  try clear x
  subst hr68_4
  dsimp only [VR] at vr
  exact ⟨vr, fun b o e => st.top b o e, st.gens.trans hg, st.os⟩
 ·refine Vc.xa_3_5 x fun zz zz zz zz zz zz zz f => ?_
  try clear x
  exact f
end Vc
end
section
set_option maxRecDepth 100000
set_option maxHeartbeats 400000
namespace Vc
open PySem PySem.W PyProof.Rows
section
variable {prog : Program} {w : World} {A : Around} {E : Value -> Shared -> Prop} {K : Frag} {x D : Addr} {ox : Obj}
variable {h : Heap} {g : Array GenState} {d : Drawn} {t : Nat} {os : OsState}
end
end Vc
end
section
set_option maxRecDepth 100000
namespace Vc
open PySem PySem.W PyProof.Rows
section
variable {C : Cx} {d : Md} {H : MH} {Q : V -> MH -> Prop} {X : XP} {K : Frag}
theorem own_g (G : C.Good) (KX : K.In C.h0) {c : String} {D : Addr} (e : nsIn K mainGlobals (Str.ofString c) = some (some (.ref D))) : C.G c (.ref D) := .inl (mg_of KX G.g e)
theorem tcall_w (a : Addr) (l : List Value) : (Code.builtin "type.__call__" ⟨.ref a :: l, []⟩).weight = 1 := by kernel_rfl
theorem tcall_u (a : Addr) (l : List Value) : (Code.builtin "type.__call__" ⟨.ref a :: l, []⟩).cUnits = 1 := by kernel_rfl
theorem tcall_e (a : Addr) (l : List Value) : (Code.builtin "type.__call__" ⟨.ref a :: l, []⟩).envs = [] := by kernel_rfl
theorem callee_cls (KX : K.In C.h0) {D : Addr} (e : keepIn K (.ref D) = true) : Callee C (.ref D) := fun A s Q E t h => by
 refine Vc.xa_1_2 (looks_keep (M := C.M) e KX) fun k zz L => ?_
 exact L A Q E s t (h k)
theorem make_of {n : Nat} {q : Bool} {D fI : Addr} {cn : String} {args : List V} (KX : K.In C.h0) (gC : C.G cn (.ref D)) (hm : makesIn K D = true) (hi : findIn K (.ref D) "__init__" = some (some (.ref fI))) (hf : typeIn K (.ref fI) = some (.type "function"))
  {o : Obj} {fd : FuncData} {vs : Vs} {np : Nat} {body : List St} (G : C.Good) (ho : C.h0.get? fI = some o) (hd : o.data = .func fd) (hcd : C.h0.CodeRec fd.code fd.qualname) (hok : okFn fd vs np body = true) (hl : args.length + 1 = np)
  (W : ∀ a dx, H a = none -> H dx = none -> a ≠ dx -> wpSs C ⟨n, q⟩ body ((.ref a :: args).map some ++ List.replicate (vs.length - np) none) (upd (upd H dx (.nsd [])) a (.ins cn dx)) (fun f zz H' => match f with | .ret v => v = .none /\ Q (.ref a) H' | .next => V.none = .none /\ Q (.ref a) H') (fun c zz H' => X c H')) :
  CallV C ⟨n + 2, q⟩ (.ref D) args H Q X := fun A s cs ok rs => by
 refine wpAny_call ?_
 obtain ⟨h, g, dr, t, os⟩ := s
 have KS := KX.keeps ok.top
 have k : ∀ b ob, h.get? b = some ob -> ((h.push emptyDict).push (instObj D h.objs.size)).get? b = some ob := fun b ob e => Heap.get?_push_of_some _ (Heap.get?_push_of_some _ e)
 have hx : ((h.push emptyDict).push (instObj D h.objs.size)).get? (h.objs.size + 1) = some (instObj D h.objs.size) := by
  have := Heap.get?_push_size (h.push emptyDict) (o := instObj D h.objs.size) rfl
  rwa [Heap.size_push] at this
 have hdx : ((h.push emptyDict).push (instObj D h.objs.size)).get? h.objs.size = some emptyDict := Heap.get?_push_of_some _ (Heap.get?_push_size _ rfl)
 have n1 : h.get? (h.objs.size + 1) = none := by
  cases e : h.get? (h.objs.size + 1) with
  | none => rfl
  | some ob => exact absurd (Heap.lt_size e) (Nat.not_lt.mpr (Nat.le_succ _))
 have n0 := fresh_size h
 have HN1 : H (h.objs.size + 1) = none := ok.rel.fresh n1
 have HN0 : H h.objs.size = none := ok.rel.fresh n0
 have z1 : C.h0.get? (h.objs.size + 1) = none := fresh_top ok.top n1
 have z0 : C.h0.get? h.objs.size = none := fresh_top ok.top n0
 have vk : VK h ((h.push emptyDict).push (instObj D h.objs.size)) := .of_keeps k
 have st : Step C No H ⟨h, g, dr, t, os⟩ (upd (upd H h.objs.size (.nsd [])) (h.objs.size + 1) (.ins cn h.objs.size)) ⟨(h.push emptyDict).push (instObj D h.objs.size), g, dr, t, os⟩ := by
  refine ⟨fun b o' e => ?_, fun b ob e zz zz => ⟨ob.slots, k b ob e, fun zz => rfl⟩, fun b ob e => k b ob (ok.top b ob e), fun b e => ?_, fun b e => ?_, fun b f zz => f.elim, vk, rfl, rfl⟩
  ·by_cases q1 : b = h.objs.size + 1
   ·subst q1; rw [upd_self] at e; cases e; exact ⟨z1, D, gC, hx⟩
   ·rw [upd_ne q1] at e
    by_cases q0 : b = h.objs.size
    ·subst q0; rw [upd_self] at e; cases e; exact ⟨z0, _, _, hdx, trivial⟩
    ·rw [upd_ne q0] at e; exact (ok.rel b o' e).keep vk fun ob => k b ob
  ·by_cases q1 : b = h.objs.size + 1
   ·subst q1; rw [upd_self]; rfl
   ·rw [upd_ne q1]
    by_cases q0 : b = h.objs.size
    ·subst q0; rw [upd_self]; rfl
    ·rw [upd_ne q0]; exact e
  ·by_cases q1 : b = h.objs.size + 1
   ·subst q1; exact .inr n1
   ·rw [upd_ne q1] at e
    by_cases q0 : b = h.objs.size
    ·subst q0; exact .inr n0
    ·rw [upd_ne q0] at e; exact .inl e
 refine make_core (makes_of KS hm) (looks_findIn KS hi) (fun self => bind_fn KS self hf) (.inl rfl) ?_
 have okU : Ok C ⟨n + 1, q⟩ (upd (upd H h.objs.size (.nsd [])) (h.objs.size + 1) (.ins cn h.objs.size)) (A.under (.builtin "type.__call__" ⟨.ref D :: cs, []⟩)) ⟨(h.push emptyDict).push (instObj D h.objs.size), g, dr, t, os⟩ := by
  have o2 := ok.step st
  refine ⟨o2.rel, o2.top, ⟨?_, ?_⟩, o2.hnd, ?_⟩
  ·have := o2.room.1; show A.depth + (Code.builtin "type.__call__" ⟨.ref D :: cs, []⟩).weight + 2 * (n + 1) + 2 < recursionLimit; rw [tcall_w]; dsimp only at this; (clear hl; omega)
  ·have := o2.room.2; show A.units + (Code.builtin "type.__call__" ⟨.ref D :: cs, []⟩).cUnits + 8 * (n + 1) + 40 < cLine; rw [tcall_u]; dsimp only at this; (clear hl; omega)
  ·refine Vc.xa_1_2 o2.frs fun l hl1 hl2 => ?_
   refine ⟨l, ?_, hl2⟩
   show pushEnvs (Code.builtin "type.__call__" ⟨.ref D :: cs, []⟩).envs A.frames = _
   rw [tcall_e, hl1]; rfl
 refine codeAny_mono (fn_code (args := .ref (h.objs.size + 1) :: args) (Q := fun v H' => v = .none /\ Q (.ref (h.objs.size + 1)) H') (X := X) G ho hd hcd hok hl (W (h.objs.size + 1) h.objs.size HN1 HN0 (Nat.succ_ne_self _)) _ _ (.ref (h.objs.size + 1) :: cs) okU (VRs.cons .ref_ (rs.keep vk))) fun r s' hr => ?_
 rcases r with e | (_ | _ | _ | v)
 ·exact XG.back st hr
 ·exact hr.elim
 ·exact hr.elim
 ·exact hr.elim
 ·refine Vc.xa_2_4 hr fun v' H' st' vr hr119_4 hQ => ?_
  try clear hr
  subst hr119_4
  dsimp only [VR] at vr
  exact ⟨vr, .ref (h.objs.size + 1), H', st.trans st', .ref_, hQ⟩
end
end Vc
end
section
namespace Vc
open PySem PyProof.Rows
section
variable {C : Cx} {d : Md} {H : MH} {A : Around} {s : Shared} {Q : V -> MH -> Prop} {X : XP}
theorem Ok.none (ok : Ok C d H A s) (hq : d.q = true) : A.handled = Option.none := ok.hnd.1 hq
theorem cv_min {a b : Int} (hq : d.q = true) (q : Q (.int (min a b)) H) : CallV C d (.builtin "min") [.int a, .int b] H Q X := fun A s cs ok rs => by
 refine Vc.xa_2_3 (args2 rs) fun c e hr13_2 r r' => ?_
 subst hr13_2
 dsimp only [VR] at r r'; obtain ⟨t, rfl⟩ := r; obtain ⟨u, rfl⟩ := r'
 refine min_two_ints (ok.none hq) fun h' tk k => qp (Step.keeps ok.rel ok.top k rfl rfl) ?_ q
 by_cases h : b < a
 ·rw [if_pos h, Int.min_eq_right (Int.le_of_lt h)]; exact .int_
 ·rw [if_neg h, Int.min_eq_left (Int.not_lt.mp h)]; exact .int_
theorem bin_tcat {l m : List V} (hsz : l.length + m.length <= sizeLine) (q : Q (.tup (l ++ m)) H) : BinW C d .Add (.tup l) (.tup m) H Q X := fun A s ca cb ok ra rb => by
 dsimp only [VR] at ra rb
 refine Vc.xa_2_3 ra fun a items ho29_2 hL rs => ?_
 try clear ra
 obtain ⟨rfl, nd⟩ := ho29_2
 refine Vc.xa_2_3 rb fun b items2 ho30_2 hL2 rs2 => ?_
 try clear rb
 obtain ⟨rfl, nd2⟩ := ho30_2
 have hn := rs.length
 have hn2 := rs2.length
 simp only [Array.length_toList] at hn hn2
 obtain ⟨⟨cls, dd, data, sl⟩, ho, hc, n, hd⟩ := id hL
 obtain ⟨⟨cls2, dd2, data2, sl2⟩, ho2, hc2, n2, hd2⟩ := id hL2
 simp only at hc hd hc2 hd2
 subst hc hd hc2 hd2
 by_cases h1 : items.isEmpty = true
 ·refine concat_meets ⟨_, ho, rfl⟩ ⟨_, ho2, rfl⟩ noFill_tuple_add seq_tuple_add PySem.F.slot_tuple_add PySem.F.entry_tuple_add (PySem.F.args_tuple_add_2 _ _) (tuple_addW0 a b items items2 n n2 dd dd2 sl sl2 h1) ⟨ho, ho2, ?_⟩
  have : l = [] := List.length_eq_zero_iff.mp (by rw [hn]; simpa using h1)
  subst this
  exact qp ok.refl (by dsimp only [VR]; exact ⟨b, items2, ⟨rfl, nd2⟩, hL2, rs2⟩) q
 ·by_cases h2 : items2.isEmpty = true
  ·refine concat_meets ⟨_, ho, rfl⟩ ⟨_, ho2, rfl⟩ noFill_tuple_add seq_tuple_add PySem.F.slot_tuple_add PySem.F.entry_tuple_add (PySem.F.args_tuple_add_2 _ _) (tuple_addW1 a b items items2 n n2 dd dd2 sl sl2 h1 h2) ⟨ho, ho2, ?_⟩
   have : m = [] := List.length_eq_zero_iff.mp (by rw [hn2]; simpa using h2)
   subst this
   rw [List.append_nil] at q
   exact qp ok.refl (by dsimp only [VR]; exact ⟨a, items, ⟨rfl, nd⟩, hL, rs⟩) q
  ·refine concat_meets ⟨_, ho, rfl⟩ ⟨_, ho2, rfl⟩ noFill_tuple_add seq_tuple_add PySem.F.slot_tuple_add PySem.F.entry_tuple_add (PySem.F.args_tuple_add_2 _ _) (tuple_addW2 a b items items2 n n2 dd dd2 sl sl2 h1 h2 (by (clear h1 h2; omega))) ⟨ho, ho2, ?_⟩
   have k : ∀ b o, s.heap.get? b = some o -> (s.heap.push { cls := .type "tuple", data := .seq (items ++ items2) }).get? b = some o := fun b o e => Heap.get?_push_of_some _ e
   refine qp (Step.keeps (s' := { s with heap := s.heap.push { cls := .type "tuple", data := .seq (items ++ items2) } }) ok.rel ok.top k rfl rfl) ?_ q
   dsimp only [VR]
   exact ⟨_, _, ⟨rfl, .of (Heap.get?_push_size _ rfl) rfl⟩, ⟨_, Heap.get?_push_size _ rfl, rfl, _, rfl⟩, by rw [Array.toList_append]; exact (rs.append rs2).keep (.of_keeps k)⟩
theorem vrs_bools {h : Heap} : ∀ {bs : List Bool} {vs : List Value}, VRs C h (bs.map .bool) vs -> vs = bs.map .bool
 | [], _, r => r.inv_nil
 | b :: bs, _, r => by
  refine Vc.xa_2_3 r.inv_cons fun v vs' hr58_2 h1 h2 => ?_
  subst hr58_2
  dsimp only [VR] at h1; subst h1
  rw [vrs_bools h2]; rfl
theorem all_range (bs : List Bool) : (List.range bs.length).all (fun i => bs.getD i false) = bs.all id := by
 rw [Bool.eq_iff_iff]
 simp only [List.all_eq_true, List.mem_range, id]
 constructor
 ·intro h b hb
  obtain ⟨i, hi, e⟩ := List.getElem_of_mem hb
  have := h i hi
  rw [List.getD_eq_getElem?_getD, List.getElem?_eq_getElem hi] at this
  rw [<- e]; exact this
 ·intro h i hi
  rw [List.getD_eq_getElem?_getD, List.getElem?_eq_getElem hi]
  exact h _ (List.getElem_mem hi)
theorem any_range (bs : List Bool) : (List.range bs.length).any (fun i => bs.getD i false) = bs.any id := by
 rw [Bool.eq_iff_iff]
 simp only [List.any_eq_true, List.mem_range, id]
 constructor
 ·rintro ⟨i, hi, e⟩
  rw [List.getD_eq_getElem?_getD, List.getElem?_eq_getElem hi] at e
  exact ⟨_, List.getElem_mem hi, e⟩
 ·rintro ⟨b, hb, e⟩
  obtain ⟨i, hi, e'⟩ := List.getElem_of_mem hb
  refine ⟨i, hi, ?_⟩
  rw [List.getD_eq_getElem?_getD, List.getElem?_eq_getElem hi]
  show bs[i] = true
  rw [e', e]
theorem cv_all {a : Addr} {bs : List Bool} (hq : d.q = true) (h : H a = some (.lst (bs.map .bool))) (q : Q (.bool (bs.all id)) H) : CallV C d (.builtin "all") [.ref a] H Q X := fun A s cs ok rs => by
 refine Vc.xa_1_2 (args1 rs) fun c hr89_1 r => ?_
 subst hr89_1
 dsimp only [VR] at r; subst r
 refine Vc.xa_1_2 (list_at ok.rel (items_lst h)) fun items hL rs => ?_
 have hi := vrs_bools rs
 have hne : a ≠ s.heap.objs.size := fun e => by obtain ⟨o, ho, _⟩ := hL; rw [e, fresh_size] at ho; cases ho
 refine call_all_walk (wpAny_pyIter_list hL ?_)
 have hn : items.size = bs.length := by rw [<- Array.length_toList, hi, List.length_map]
 refine ⟨_, _, _, _, _, _, fun i => bs.getD i false, rfl, Walks.list (A := A.in1) (ok.none hq) s.heap.objs.size a hne items, ⟨⟨_, Heap.get?_push_size _ rfl, rfl, rfl⟩, hL.push _⟩, fun i v s' Q' E' hP hQ => ?_, fun h' tk k => ?_⟩
 ·replace hP : items[i]? = some v := hP
  rw [<- Array.getElem?_toList, hi, List.getElem?_map] at hP
  cases e : bs[i]? with
  | none => rw [e] at hP; cases hP
  | some b =>
   rw [e] at hP; cases hP
   refine wpAny_truthy_bool ?_
   replace hQ : Q' (bs.getD i false) s' := hQ
   rw [List.getD_eq_getElem?_getD, e] at hQ; exact hQ
 ·rw [hn, all_range]
  refine qp (Step.keeps ok.rel ok.top (fun b o e => k b o (fun hm => ?_) (Heap.get?_push_of_some _ e)) rfl rfl) .bool_ q
  simp only [List.mem_singleton] at hm
  rw [hm, fresh_size] at e; cases e
theorem cv_any {a : Addr} {bs : List Bool} (hq : d.q = true) (h : H a = some (.lst (bs.map .bool))) (q : Q (.bool (bs.any id)) H) : CallV C d (.builtin "any") [.ref a] H Q X := fun A s cs ok rs => by
 refine Vc.xa_1_2 (args1 rs) fun c hr111_1 r => ?_
 subst hr111_1
 dsimp only [VR] at r; subst r
 refine Vc.xa_1_2 (list_at ok.rel (items_lst h)) fun items hL rs => ?_
 have hi := vrs_bools rs
 have hne : a ≠ s.heap.objs.size := fun e => by obtain ⟨o, ho, _⟩ := hL; rw [e, fresh_size] at ho; cases ho
 refine call_any_walk (wpAny_pyIter_list hL ?_)
 have hn : items.size = bs.length := by rw [<- Array.length_toList, hi, List.length_map]
 refine ⟨_, _, _, _, _, _, fun i => bs.getD i false, rfl, Walks.list (A := A.in1) (ok.none hq) s.heap.objs.size a hne items, ⟨⟨_, Heap.get?_push_size _ rfl, rfl, rfl⟩, hL.push _⟩, fun i v s' Q' E' hP hQ => ?_, fun h' tk k => ?_⟩
 ·replace hP : items[i]? = some v := hP
  rw [<- Array.getElem?_toList, hi, List.getElem?_map] at hP
  cases e : bs[i]? with
  | none => rw [e] at hP; cases hP
  | some b =>
   rw [e] at hP; cases hP
   refine wpAny_truthy_bool ?_
   replace hQ : Q' (bs.getD i false) s' := hQ
   rw [List.getD_eq_getElem?_getD, e] at hQ; exact hQ
 ·rw [hn, any_range]
  refine qp (Step.keeps ok.rel ok.top (fun b o e => k b o (fun hm => ?_) (Heap.get?_push_of_some _ e)) rfl rfl) .bool_ q
  simp only [List.mem_singleton] at hm
  rw [hm, fresh_size] at e; cases e
noncomputable def dset (l : List (Int × V)) (k : Int) (v : V) : List (Int × V) := if l.any (fun p => decide (p.1 = k)) then l.map (fun p => if p.1 = k then (p.1, v) else p) else l ++ [(k, v)]
theorem stored_rel {h : Heap} {k : Int} {x : V} {v : Value} (r : VR C h x v) : ∀ {l : List (Int × V)} {kvs : List (Int × Value)}, kvs.map (·.1) = l.map (·.1) -> VRs C h (l.map (·.2)) (kvs.map (·.2)) ->
  (stored kvs k v).map (·.1) = (dset l k x).map (·.1) /\ VRs C h ((dset l k x).map (·.2)) ((stored kvs k v).map (·.2)) := by
 intro l kvs m rs
 have hany : kvs.any (fun kv => decide (kv.1 = k)) = l.any (fun p => decide (p.1 = k)) := by
  rw [show (fun kv : Int × Value => decide (kv.1 = k)) = (fun z : Int => decide (z = k)) ∘ (·.1) from rfl, show (fun kv : Int × V => decide (kv.1 = k)) = (fun z : Int => decide (z = k)) ∘ (·.1) from rfl, <- List.any_map, <- List.any_map, m]
 unfold stored dset
 rw [hany]
 by_cases h : (l.any (fun p => decide (p.1 = k))) = true
 ·rw [if_pos h, if_pos h]
  clear h hany
  induction l generalizing kvs with
  | nil => cases kvs with
   | nil => exact ⟨rfl, .nil⟩
   | cons _ _ => simp at m
  | cons p l ih => cases kvs with
   | nil => simp at m
   | cons p' kvs =>
    simp only [List.map_cons, List.cons.injEq] at m rs
    refine Vc.xa_0_2 (ih m.2 rs.tail) fun i1 i2 => ?_
    simp only [List.map_cons, m.1]
    by_cases hk : p.1 = k
    ·rw [if_pos hk, if_pos hk]
     exact ⟨by rw [i1], VRs.cons r i2⟩
    ·rw [if_neg hk, if_neg hk]
     exact ⟨by rw [i1, m.1], VRs.cons rs.head i2⟩
 ·rw [if_neg h, if_neg h]
  simp only [List.map_append, List.map_cons, List.map_nil]
  exact ⟨by rw [m], rs.append (VRs.cons r .nil)⟩
theorem seti_dci {a : Addr} {l : List (Int × V)} {k : Int} {x : V} {Q : MH -> Prop} (h : H a = some (.dci l)) (hl : l.length <= sizeLine) (q : Q (upd H a (.dci (dset l k x)))) : SetIW C d (.ref a) (.int k) x H Q X := fun A s co ci cv ok ro ri rx => by
 dsimp only [VR] at ro; dsimp only [VR] at ri; subst ro; obtain ⟨t, rfl⟩ := ri
 obtain ⟨h0, hs, kvs, hD, hm, rs⟩ := ok.rel _ _ h
 have hlen : kvs.length = l.length := by rw [<- List.length_map (f := (·.1)), hm, List.length_map]
 refine wpAny_setItem_pairs (knd := intKind C.prog C.w) (k := k) (by simp [intKind, Value.isInt]) hD (fun h' hD' hsb => ?_) (by (clear hs; omega))
 refine ⟨_, Step.mut (o := .dci (dset l k x)) (s' := { s with heap := h', toks := s.toks + 1 }) ok.rel ok.top (by rw [h]; rfl) h0 hsb (fun ob hob => ?_) (fun ob es ep hob hd => ?_) (fun vk => ?_) rfl rfl, q⟩
 ·refine Vc.xa_3_4 hD fun o es ep ho ho170_4 hd zz => ?_
  try clear hD
  obtain ⟨hc, _⟩ := ho170_4
  rw [ho] at hob; cases hob
  exact .inl ⟨es, ep, hd⟩
 ·refine Vc.xa_3_4 hD' fun o' es' ep' ho' ho173_4 hd' zz => ?_
  try clear hD'
  obtain ⟨hc', _⟩ := ho173_4
  exact ⟨o', es', ep', ho', hd'⟩
 ·have := stored_rel (k := k) (rx.keep vk) hm (rs.keep vk)
  exact ⟨h0, hs, _, hD', this.1, this.2⟩
theorem valueAt_none {κ : Type} [DecidableEq κ] {k : κ} : ∀ {l : List (κ × V)} {kvs : List (κ × Value)}, kvs.map (·.1) = l.map (·.1) -> dget l k = none -> valueAt kvs k = none := by
 intro l kvs m e
 unfold dget at e; unfold valueAt
 simp only [Option.map_eq_none_iff, List.find?_eq_none] at e ⊢
 intro p hp
 have : p.1 ∈ l.map (·.1) := by rw [<- m]; exact List.mem_map.mpr ⟨p, hp, rfl⟩
 refine Vc.xa_1_2 (List.mem_map.mp this) fun p' hp' e' => ?_
 have := e p' hp'
 rw [e'] at this; exact this
theorem ne_mod {a : Addr} (h : a ≠ sysModules) : (a == sysModules) = false := by
 cases e : a == sysModules with
 | false => rfl
 | true => exact absurd (eq_of_beq e) h
theorem mget_dict {a : Addr} {l : List (Int × V)} (h : H a = some (.dci l)) : MGet C d (.ref a) "get" (.builtin "dict.get") H := fun A s co pl Q E ok r q => by
 dsimp only [VR] at r; subst r
 obtain ⟨_, _, kvs, ⟨o, es, ep, ho, hc, hd, _⟩, _⟩ := ok.rel _ _ h
 exact getMethod_builtin (T := "dict") ⟨_, ho, hc.1⟩ PySem.F.plainAttrs_dict PySem.F.slot_dict_get PySem.F.type_dict_get (fun a e => by cases e; exact ⟨_, ho, hc.2.1⟩) q
theorem cv_get2 {a : Addr} {l : List (Int × V)} {k : Int} {x : V} (h : H a = some (.dci l)) (q : Q ((dget l k).getD x) H) : CallV C d (.builtin "dict.get") [.ref a, .int k, x] H Q X := fun A s cs ok rs => by
 refine Vc.xa_3_4 (args3 rs) fun c e f hr205_3 r r' r'' => ?_
 subst hr205_3
 dsimp only [VR] at r; dsimp only [VR] at r'; subst r; obtain ⟨t, rfl⟩ := r'
 obtain ⟨h0, hs, kvs, hD, hm, rs⟩ := ok.rel _ _ h
 refine call_meetsIn PySem.F.slot_dict_get hD.typeIs PySem.F.entry_dict_get (PySem.F.args_dict_get_3 _ _ _) (meets_dict_get_default (intKind C.prog C.w) (k := k) a (by simp [intKind, Value.isInt]) (ne_mod hs) _) ⟨_, hD.mapOf, qp (ok.toks _) ?_ q⟩
 cases e : dget l k with
 | none => rw [valueAt_none hm e]; exact r''
 | some y => obtain ⟨v, hv, ry⟩ := valueAt_get hm rs e; rw [hv]; exact ry
end
end Vc
end
section
namespace Vc
open PySem PyProof.Rows
section
variable {prog : Program} {w : World} {A : Around} {E : Value -> Shared -> Prop} {s : Shared}
end
end Vc
end
section
namespace Vc
open PySem PyProof.Rows
section
variable {C : Cx} {d : Md} {H : MH} {A : Around} {s : Shared} {Q : V -> MH -> Prop} {X : XP}
theorem places_one (a b : Nat) : Builtin.Slice.slicePlaces (a : Int) (b : Int) 1 = b - a := by
 unfold Builtin.Slice.slicePlaces
 have h1 : (1 : Int) > 0 := by omega
 simp only [h1, if_true, Int.ediv_one]
 split <;> (clear h1; omega)
theorem part_any {v : Value} {k : Option Int} {E : Value -> Shared -> Prop} {P : Option Int -> Shared -> Prop} (p : IsPart v k) (h : P k s) : wpAny C.M A (Builtin.Slice.slicePartIndex v) P E s := by
 cases p with
 | none => exact slicePart_none h
 | int i t => exact slicePart_int h
theorem sliced {sl : Addr} {vl vu : Value} {lo hi : Option Int} {a b n : Nat} {E : Value -> Shared -> Prop} {P : Int × Int × Nat -> Shared -> Prop} (hs : s.heap.IsSliceOf sl vl vu .none) (pl : IsPart vl lo) (pu : IsPart vu hi)
  (he : Builtin.Slice.sliceAdjust lo hi 1 (n : Int) = ((a : Int), (b : Int))) (h : P ((a : Int), 1, b - a) s) : wpAny C.M A (Builtin.Slice.sliceApplied (.ref sl) (pure (n : Int))) P E s := by
 refine Vc.xa_1_3 (id hs) fun os hos hcs hds => ?_
 unfold Builtin.Slice.sliceApplied Builtin.Slice.sliceFields
 refine wpAny_bind (wpAny_bind (wpAny_field hos hds (x := vl) rfl (wpAny_bind (wpAny_field hos hds (x := vu) rfl (wpAny_bind (wpAny_field hos hds (x := .none) rfl (wpAny_pure ?_)))))))
 refine wpAny_bind (slicePart_none ?_)
 show wpAny _ _ (if ((1 : Int) == 0) = true then _ else _) _ _ s
 rw [if_neg (by decide)]
 refine wpAny_bind (part_any pl (wpAny_bind (part_any pu (wpAny_bind (wpAny_pure ?_)))))
 show wpAny _ _ (match Builtin.Slice.sliceAdjust lo hi 1 (n : Int) with | (lo, hi) => pure (lo, (1 : Int), Builtin.Slice.slicePlaces lo hi 1)) _ _ s
 rw [he]
 show wpAny _ _ (pure ((a : Int), (1 : Int), Builtin.Slice.slicePlaces (a : Int) (b : Int) 1)) _ _ s
 rw [places_one a b]
 exact wpAny_pure h
theorem picked (xs : Array Value) (a n : Nat) : ((List.range n).filterMap fun (k : Nat) => xs[((a : Int) + (k : Int) * 1).toNat]?) = (xs.toList.drop a).take n := by
 have e : (fun (k : Nat) => xs[((a : Int) + (k : Int) * 1).toNat]?) = fun k => xs[a + k]? := by
  funext k
  have : ((a : Int) + (k : Int) * 1).toNat = a + k := by omega
  rw [this]
 rw [e]
 have := pick_run xs a n
 rw [List.filterMap_map] at this
 exact this
theorem sli_tup {l : List V} {vl vu : V} {lo hi : Option Int} {a b : Nat} (pl : Prt vl lo) (pu : Prt vu hi) (he : Builtin.Slice.sliceAdjust lo hi 1 (l.length : Int) = ((a : Int), (b : Int))) (hb : b <= l.length) (hl : l.length <= sizeLine)
  (q : Q (.tup ((l.drop a).take (b - a))) H) : SliW C d (.tup l) vl vu .none H Q X := fun A s co cl cu ct p ok ro rl ru rt hp => by
 have ro' := ro
 dsimp only [VR] at ro; dsimp only [VR] at rt; subst rt
 refine Vc.xa_2_3 ro fun t items ho48_2 ht rs => ?_
 try clear ro
 obtain ⟨rfl, nd⟩ := ho48_2
 have hn := rs.length
 simp only [Array.length_toList] at hn
 obtain ⟨o, ho, hc, n, hd⟩ := id ht
 have hT : IsTup s.heap t items := ⟨o, ho, hc, n, hd⟩
 have hs : s.heap.IsSliceOf p cl cu .none := ⟨_, hp, rfl, rfl⟩
 have hTs : s.TypeIs (.ref p) "slice" := ⟨_, hp, rfl⟩
 refine ⟨gip (T := "tuple") ⟨o, ho, hc⟩ slot_tuple_getitem.lookup, ?_⟩
 have hsz : sizeOk (.seq ((items.toList.drop a).take (b - a)).toArray) := by
  show ((items.toList.drop a).take (b - a)).toArray.size <= sizeLine
  rw [List.size_toArray, List.length_take, List.length_drop, Array.length_toList]
  (clear hb; omega)
 unfold getItem
 try with_reducible refine wpAny_holding ?_
 first | refine wpAny_bind (wpAny_pure ?_) | skip
 refine wpAny_bind (wpAny_sequenceKey hT.typeIs (by decide) ?_)
 refine wpAny_bind (wpAny_callSpecial?_slot (name := Str.ofString "__getitem__") hT.typeIs slot_tuple_getitem
  (wpAny_call_entry slot_tuple_getitem hT.typeIs entry_tuple_getitem ?_ (args_tuple_getitem _ _)))
 show wpAny _ _ (Builtin.Tuple.tupleItemsOf (.ref t) >>= _) _ _ s
 refine wpAny_bind (tupleItemsOf_ hT ?_)
 refine wpAny_bind (wpAny_typeOf hTs ?_)
 rw [if_pos (by decide)]
 refine wpAny_bind (sliced (C := C) (n := items.size) hs (pl.is rl) (pu.is ru) (by rw [<- hn]; exact he) ?_)
 have key : VRs C s.heap ((l.drop a).take (b - a)) ((items.toList.drop a).take (b - a)) := (rs.drop a).take _
 dsimp only
 rw [picked]
 by_cases hw : ((a : Int) == 0 && (1 : Int) == 1 && (b - a) == items.size) = true
 ·rw [if_pos hw]
  simp only [Bool.and_eq_true, beq_iff_eq] at hw
  refine Vc.xa_0_2 hw fun ho77_0 h1 => ?_
  try clear hw
  obtain ⟨h0, _⟩ := ho77_0
  have ha : a = 0 := by (clear hb hl hn h1; omega)
  subst ha
  have e : (l.drop 0).take (b - 0) = l := by rw [List.drop_zero]; exact List.take_of_length_le (by (clear hb hl h0; omega))
  rw [e] at q
  have fin : QP C H s Q (.ref t) s := qp ok.refl ro' q
  refine wpAny_bind (m := Builtin.Tuple.tupleIsExact (.ref t)) (wpAny_bind (wpAny_typeOf hT.typeIs (wpAny_pure ?_)))
  rw [if_pos (by decide)]
  exact wpAny_bind (wpAny_rule (wpAny_pure ⟨_, rfl, wpAny_pure fin⟩))
 ·rw [if_neg hw]
  generalize hP : ((items.toList.drop a).take (b - a)).toArray = P at hsz
  have fin : QP C H s Q (.ref s.heap.objs.size) { s with heap := s.heap.push { cls := .type "tuple", data := .seq P } } := by
   refine qp (Step.keeps ok.rel ok.top (fun b o e => Heap.get?_push_of_some _ e) rfl rfl) ?_ q
   dsimp only [VR]
   refine ⟨_, P, ⟨rfl, .of (Heap.get?_push_size _ rfl) rfl⟩, ⟨_, Heap.get?_push_size _ rfl, rfl, _, rfl⟩, ?_⟩
   rw [<- hP, List.toList_toArray]
   exact key.keep (.of_keeps fun b o e => Heap.get?_push_of_some _ e)
  first
   | exact wpAny_bind (m := Builtin.Tuple.tupleExact _) (wpAny_newObj_type (wpAny_pure ⟨_, rfl, wpAny_pure fin⟩) hsz)
   | exact wpAny_bind (m := Builtin.Tuple.tupleExact _) (wpAny_newObj_type (wpAny_bind (wpAny_pure (wpAny_pure ⟨_, rfl, wpAny_pure fin⟩))) hsz)
   | exact wpAny_bind (wpAny_bind (m := Builtin.Tuple.tupleExact _) (wpAny_newObj_type (wpAny_pure (wpAny_pure ⟨_, rfl, wpAny_pure fin⟩)) hsz))
   | exact wpAny_bind (wpAny_bind (m := Builtin.Tuple.tupleExact _) (wpAny_newObj_type (wpAny_pure ⟨_, rfl, wpAny_pure fin⟩) hsz))
end
end Vc
end
section
set_option maxRecDepth 100000
namespace Vc
open PySem PySem.W PyProof.Rows
noncomputable def nget (l : List (String × V)) (x : String) : Option V := (l.find? fun p => Str.ofString p.1 == Str.ofString x).map (·.2)
noncomputable def nput (l : List (String × V)) (x : String) (v : V) : List (String × V) := match l with
 | [] => [(x, v)]
 | p :: r => if (Str.ofString p.1 == Str.ofString x) = true then (p.1, v) :: r else p :: nput r x v
section
variable {C : Cx} {d : Md} {H : MH} {Q : V -> MH -> Prop} {X : XP} {K : Frag}
theorem isStr_key {e : DictEntry} {x y : String} (h : ∃ t, e.key = .str (Str.ofString x) t) : e.key.isStr (Str.ofString y) = (Str.ofString x == Str.ofString y) := by
 obtain ⟨t, h⟩ := h; rw [h]; first | rfl | (simp [Value.isStr]; done) | (simp [Value.isStr, eq_comm])
theorem nse_get {h : Heap} {x : String} : ∀ {l : List (String × V)} {es : List DictEntry}, NsE C h l es -> (∀ v, nget l x = some v -> ∃ e, es.find? (·.key.isStr (Str.ofString x)) = some e /\ VR C h v e.val) /\ (nget l x = none -> es.find? (·.key.isStr (Str.ofString x)) = none) /\ es.any (·.refKey) = false
 | [], [], _ => ⟨(fun v e => by cases e), (fun zz => rfl), rfl⟩
 | (y, v) :: l, e :: es, r => by
  refine Vc.xa_0_4 r fun hk zz hv ht => ?_
  try clear r
  have ih := nse_get (x := x) ht
  have hr : e.refKey = false := by obtain ⟨t, hk⟩ := hk; simp [DictEntry.refKey, hk]
  refine ⟨fun u hu => ?_, fun hu => ?_, by rw [List.any_cons, hr, ih.2.2]; rfl⟩
  ·rw [List.find?_cons, isStr_key hk]
   unfold nget at hu
   rw [List.find?_cons] at hu
   cases q : (Str.ofString y == Str.ofString x) with
   | true => rw [q] at hu; cases hu; exact ⟨e, rfl, hv⟩
   | false => rw [q] at hu; exact ih.1 u hu
  ·rw [List.find?_cons, isStr_key hk]
   unfold nget at hu
   rw [List.find?_cons] at hu
   cases q : (Str.ofString y == Str.ofString x) with
   | true => rw [q] at hu; cases hu
   | false => rw [q] at hu; exact ih.2.1 hu
 | [], _ :: _, r => r.elim
 | _ :: _, [], r => r.elim
theorem nse_put {h h' : Heap} {x : String} {v : V} {cv : Value} {t : Tok} (k : VK h h') (hv : VR C h' v cv) : ∀ {l : List (String × V)} {es : List DictEntry}, NsE C h l es -> NsE C h' (nput l x v) (putL (Str.ofString x) (PyData.keyHash C.w.params (Str.ofString x)) (.str (Str.ofString x) t) cv es)
 | [], [], _ => ⟨⟨t, rfl⟩, rfl, hv, trivial⟩
 | (y, u) :: l, e :: es, r => by
  refine Vc.xa_0_4 r fun hk hh hu ht => ?_
  try clear r
  unfold nput putL
  rw [isStr_key hk]
  cases q : (Str.ofString y == Str.ofString x) with
  | true => rw [if_pos rfl, if_pos rfl]; exact ⟨hk, hh, hv, ht.keepS k.s⟩
  | false => rw [if_neg (by decide), if_neg (by decide)]; exact ⟨hk, hh, hu.keep k, nse_put k hv ht⟩
 | [], _ :: _, r => r.elim
 | _ :: _, [], r => r.elim
noncomputable def plainIn (K : Frag) (D : Addr) : Bool := plainGet K D "" && hasDictIn K D && findIn K (.ref D) "__setattr__" == some (some (.builtin "object.__setattr__")) && plainOver K D
structure At (C : Cx) (cn x : String) : Prop where
 ex : ∃ (K : Frag) (D : Addr), K.In C.h0 /\ C.G cn (.ref D) /\ plainIn K D = true /\ findIn K (.ref D) (Str.ofString x) = some none
theorem plain_of {D : Addr} (e : plainIn K D = true) : findIn K (.ref D) "__getattribute__" = some (some (.builtin "object.__getattribute__")) /\ findIn K (.ref D) "__getattr__" = some none /\ hasDictIn K D = true /\ findIn K (.ref D) "__setattr__" = some (some (.builtin "object.__setattr__")) /\ plainOver K D = true := by
 unfold plainIn at e
 refine Vc.xa_0_2 (Bool.and_eq_true_iff.mp e) fun e e4 => ?_
 refine Vc.xa_0_2 (Bool.and_eq_true_iff.mp e) fun e e3 => ?_
 refine Vc.xa_0_2 (Bool.and_eq_true_iff.mp e) fun e1 e2 => ?_
 exact ⟨(plainGet_of e1).1, (plainGet_of e1).2, e2, beq_iff_eq.mp e3, e4⟩
theorem inst_of {A : Around} {s : Shared} {a dx : Addr} {cn : String} {l : List (String × V)} {D : Addr} (ok : Ok C d H A s) (g : C.G cn (.ref D)) (h1 : H a = some (.ins cn dx)) (h2 : H dx = some (.nsd l)) :
  ∃ es n, InstAt s.heap a { cls := .ref D, dict := some dx, data := .plain } D (some { cls := .type "dict", data := .dict es n }) /\ NsE C s.heap l es.toList /\ s.heap.get? dx = some { cls := .type "dict", data := .dict es n } /\ C.h0.get? dx = none := by
 obtain ⟨_, r, g', ho⟩ := ok.rel _ _ h1
 obtain ⟨z, es, n, hd, hn⟩ := ok.rel _ _ h2
 cases g'.uniq g
 exact ⟨es, n, ⟨ho, rfl, rfl, hd⟩, hn, hd, z⟩
theorem handed_vr {h : Heap} {v : V} {cv : Value} (r : VR C h v cv) (hg : ∀ x, v ≠ .glb x) : handedIn cv = true := by
 cases v with
 | none => dsimp only [VR] at r; subst r; rfl
 | bool b => dsimp only [VR] at r; subst r; rfl
 | int i => dsimp only [VR] at r; obtain ⟨t, rfl⟩ := r; rfl
 | str i => dsimp only [VR] at r; obtain ⟨t, rfl⟩ := r; rfl
 | tup l => dsimp only [VR] at r; obtain ⟨_, _, ⟨rfl, _⟩, _⟩ := r; rfl
 | ref a => dsimp only [VR] at r; subst r; rfl
 | exc c => dsimp only [VR] at r; obtain ⟨_, _, _, _, rfl, _⟩ := r; rfl
 | glb x => exact (hg x rfl).elim
 | rng a b c => dsimp only [VR] at r; obtain ⟨_, _, _, _, rfl, _⟩ := r; rfl
theorem att_own {a dx : Addr} {cn x : String} {l : List (String × V)} {v : V} (P : At C cn x) (h1 : H a = some (.ins cn dx)) (h2 : H dx = some (.nsd l)) (hv : nget l x = some v) (hg : ∀ y, v ≠ .glb y) (q : Q v H) : AttW C d (.ref a) x H Q X := fun A s co ok r => by
 dsimp only [VR] at r; subst r
 refine Vc.xa_2_4 P.ex fun K D KX gC hp hf => ?_
 refine Vc.xa_0_5 (plain_of hp) fun p1 p2 p3 p4 p5 => ?_
 refine Vc.xa_2_4 (inst_of ok gC h1 h2) fun es n I hn hd zz => ?_
 refine Vc.xa_1_2 ((nse_get (x := x) hn).1 v hv) fun e he vr => ?_
 have hl : lookIn (Str.ofString x) { cls := .type "dict", data := .dict es n } = some (some e.val) := by unfold lookIn; dsimp only; rw [he]
 exact get_value (KX.keeps ok.top) I p1 (findObj_own p3 hf rfl hl) (handed_vr vr hg) (qp (ok.toks _) vr q)
theorem mget_own {a dx : Addr} {cn m : String} {l : List (String × V)} {D f : Addr} (KX : K.In C.h0) (gC : C.G cn (.ref D)) (hp : plainIn K D = true) (hf : findIn K (.ref D) (Str.ofString m) = some (some (.ref f))) (ht : typeIn K (.ref f) = some (.type "function"))
  (h1 : H a = some (.ins cn dx)) (h2 : H dx = some (.nsd l)) (hv : nget l m = none) : MGet C d (.ref a) m (.ref f) H := fun A s co pl Q E ok r q => by
 dsimp only [VR] at r; subst r
 refine Vc.xa_0_5 (plain_of hp) fun p1 p2 p3 p4 p5 => ?_
 refine Vc.xa_2_4 (inst_of ok gC h1 h2) fun es n I hn hd zz => ?_
 refine Vc.xa_0_3 (nse_get (x := m) hn) fun zz hno hr => ?_
 have hl : lookIn (Str.ofString m) { cls := .type "dict", data := .dict es n } = some none := by
  unfold lookIn; dsimp only; rw [hno hv]; dsimp only; rw [hr]; rfl
 exact method_fn (KX.keeps ok.top) I p1 p2 hf ht (by unfold shadowIn; dsimp only; rw [hl]; rfl) q
theorem seta_own {a dx : Addr} {cn x : String} {l : List (String × V)} {v : V} {Q : MH -> Prop} (P : At C cn x) (h1 : H a = some (.ins cn dx)) (h2 : H dx = some (.nsd l)) (hl : l.length <= 900) (q : Q (upd H dx (.nsd (nput l x v)))) : SetAW C d (.ref a) x v H Q X := fun A s co cv ok r rv => by
 dsimp only [VR] at r; subst r
 refine Vc.xa_2_4 P.ex fun K D KX gC hp hf => ?_
 refine Vc.xa_0_5 (plain_of hp) fun p1 p2 p3 p4 p5 => ?_
 refine Vc.xa_2_4 (inst_of ok gC h1 h2) fun es n I hn hd hz => ?_
 have KS := KX.keeps ok.top
 refine set_plain KS I p4 ?_
 refine osa_open (s := { s with toks := s.toks + 1 }) KS I p5 (by unfold takerIn; rw [hf]; rfl) fun b => ?_
 refine Vc.xa_1_2 (any_some p3) fun cd hc hd' => ?_
 refine wpAny_bind (wpAny_pure (wpAny_bind (wpAny_bind (wpAny_loadPart I.at_ (wpAny_bind (looks_clsIn KS hc _ _ _ _ (fun zz zz e => e) ?_))))))
 rw [hd']
 refine wpAny_pure (a := some dx) (wpAny_bind (wpAny_pure (wpAny_bind ?_)))
 unfold nsSet
 refine wpAny_bind (wpAny_bind (wpAny_askSetting (wpAny_pure (wpAny_bind (wpAny_mkText (wpAny_bind (wpAny_loadPart hd ?_)))))))
 have hr := (nse_get (x := x) hn).2.2
 have c : (!es.any (·.key.isStr (Str.ofString x)) && es.any (·.refKey)) = false := by rw [<- Array.any_toList, <- Array.any_toList, hr, Bool.and_false]
 dsimp only
 rw [aRefKeyMayBeTheName_at, c]
 have ed : ({ cls := .type "dict", data := .dict es n } : Obj) = dictOf es.toList n := by unfold dictOf; simp
 have ef := putName_dict (Str.ofString x) (PyData.keyHash C.w.params (Str.ofString x)) (.str (Str.ofString x) (s.toks + 1)) cv es.toList n
 rw [<- ed] at ef
 have D' := Heap.get?_update_self (Obj.putName (Str.ofString x) (PyData.keyHash C.w.params (Str.ofString x)) (.str (Str.ofString x) (s.toks + 1)) cv) hd (by rw [ef]; rfl)
 rw [ef] at D'
 have hlen : ∀ {l : List (String × V)} {es : List DictEntry} {h : Heap}, NsE C h l es -> l.length = es.length := by
  intro l
  induction l with
  | nil => intro es h r; cases es with | nil => rfl | cons _ _ => exact r.elim
  | cons p l ih => intro es h r; cases es with | nil => exact r.elim | cons e es => simp [ih r.2.2.2]
 have hle := hlen hn
 have hlp : ∀ es : List DictEntry, (putL (Str.ofString x) (PyData.keyHash C.w.params (Str.ofString x)) (.str (Str.ofString x) (s.toks + 1)) cv es).length <= es.length + 1 := by
  intro es
  induction es with
  | nil => simp [putL]
  | cons e es ih => unfold putL; split <;> simp; (clear hl hle; omega)
 have hz1 : 1000 < sizeLine := by decide
 refine wpAny_updatePart hd (wpAny_bind (wpAny_lookBehind D' (pastItsLine_dict (by rw [List.size_toArray]; have := hlp es.toList; omega)) ?_))
 refine wpAny_pure ⟨upd H dx (.nsd (nput l x v)), ?_, q⟩
 refine Step.mut (s' := { s with heap := _, toks := _ }) ok.rel ok.top (by rw [h2]; rfl) hz (Heap.SameBut.update ..) (fun ob hob => ?_) (fun ob es' ep hob hdd => ?_) (fun vk => ?_) rfl rfl
 ·rw [hd] at hob; cases hob; exact .inl ⟨_, _, rfl⟩
 ·exact ⟨_, _, _, D', rfl⟩
 ·exact ⟨hz, _, _, D', by rw [List.toList_toArray]; exact nse_put vk (rv.keep vk) hn⟩
end
end Vc
end
section
namespace Vc
open PySem
noncomputable def Tk (t : SetTable) : Prop := t.dummies = #[] /\ t.place.toList.Pairwise (· < ·)
section
variable {xs : Array Nat} {j : Nat}
theorem below_go (hp : xs.toList.Pairwise (· < ·)) : ∀ (fuel lo hi : Nat), hi <= xs.size -> lo <= hi -> hi - lo <= fuel -> (∀ i, i < lo -> xs.getD i 0 < j) -> (∀ i, hi <= i -> i < xs.size -> j <= xs.getD i 0) ->
  SetTable.below.go xs j fuel lo hi <= xs.size /\ (∀ i, i < SetTable.below.go xs j fuel lo hi -> xs.getD i 0 < j) /\ ∀ i, SetTable.below.go xs j fuel lo hi <= i -> i < xs.size -> j <= xs.getD i 0 := by
 have mono : ∀ a b, a <= b -> b < xs.size -> xs.getD a 0 <= xs.getD b 0 := fun a b h1 h2 => by
  rcases Nat.lt_or_ge a b with h | h
  ·have := List.pairwise_iff_getElem.mp hp a b (by simpa using Nat.lt_trans h h2) (by simpa using h2) h
   simp only [Array.getElem_toList] at this
   rw [Array.getD_eq_getD_getElem?, Array.getD_eq_getD_getElem?, Array.getElem?_eq_getElem (Nat.lt_trans h h2), Array.getElem?_eq_getElem h2]
   exact Nat.le_of_lt this
  ·rw [Nat.le_antisymm h1 h]; exact Nat.le_refl _
 intro fuel
 induction fuel with
 | zero =>
  intro lo hi h1 h2 h3 hl hh
  unfold SetTable.below.go
  exact ⟨by (clear h3; omega), hl, fun i hi1 hi2 => hh i (by (clear h1 h2 hi2; omega)) hi2⟩
 | succ n ih =>
  intro lo hi h1 h2 h3 hl hh
  unfold SetTable.below.go
  by_cases h : lo < hi
  ·rw [if_pos h]
   dsimp only
   have hm : (lo + hi) / 2 < hi := by (clear h1 h2 h3; omega)
   have hs : (lo + hi) / 2 < xs.size := by (clear h2 h3 h; omega)
   have e : xs.getD ((lo + hi) / 2) j = xs.getD ((lo + hi) / 2) 0 := by
    rw [Array.getD_eq_getD_getElem?, Array.getD_eq_getD_getElem?, Array.getElem?_eq_getElem hs]; rfl
   rw [e]
   by_cases q : xs.getD ((lo + hi) / 2) 0 < j
   ·rw [if_pos q]
    exact ih _ _ h1 (by (clear h1 h2 h3 h hs e q; omega)) (by (clear h1 h2 h hm hs e q; omega)) (fun i hi1 => Nat.lt_of_le_of_lt (mono i _ (by (clear h1 h2 h3 h hm hs e q; omega)) hs) q) hh
   ·rw [if_neg q]
    exact ih _ _ (by (clear h1 h2 h3 h hm e q; omega)) (by (clear h1 h2 h3 h hs e q; omega)) (by (clear h1 h2 h hm hs e q; omega)) hl (fun i hi1 hi2 => Nat.le_trans (Nat.le_of_not_lt q) (mono _ i hi1 hi2))
  ·rw [if_neg h]
   exact ⟨by (clear h3 h; omega), hl, fun i hi1 hi2 => hh i (by (clear h1 h2 h3 hi2; omega)) hi2⟩
theorem below_spec (hp : xs.toList.Pairwise (· < ·)) : SetTable.below xs j <= xs.size /\ (∀ i, i < SetTable.below xs j -> xs.getD i 0 < j) /\ ∀ i, SetTable.below xs j <= i -> i < xs.size -> j <= xs.getD i 0 :=
 below_go hp _ _ _ (Nat.le_refl _) (Nat.zero_le _) (by omega) (fun i h => absurd h (Nat.not_lt_zero _)) fun i h1 h2 => by omega
theorem below_at (hp : xs.toList.Pairwise (· < ·)) {i : Nat} (hi : i <= xs.size) (h0 : i = 0 -> j = 0) (h1 : 0 < i -> j = xs.getD (i - 1) 0 + 1) : SetTable.below xs j = i := by
 refine Vc.xa_0_3 (below_spec (j := j) hp) fun a b c => ?_
 have mono : ∀ a b, a < b -> b < xs.size -> xs.getD a 0 < xs.getD b 0 := fun a b h h2 => by
  have := List.pairwise_iff_getElem.mp hp a b (by simpa using Nat.lt_trans h h2) (by simpa using h2) h
  simp only [Array.getElem_toList] at this
  rw [Array.getD_eq_getD_getElem?, Array.getD_eq_getD_getElem?, Array.getElem?_eq_getElem (Nat.lt_trans h h2), Array.getElem?_eq_getElem h2]
  exact this
 rcases Nat.lt_trichotomy (SetTable.below xs j) i with q | q | q
 ·exfalso
  have h3 := h1 (by (clear hi a; omega))
  have h2 := c (SetTable.below xs j) (Nat.le_refl _) (by (clear a h3; omega))
  rcases Nat.lt_or_ge (SetTable.below xs j) (i - 1) with r | r
  ·have := mono _ _ r (by (clear a q h3 h2; omega)); (clear hi a q h3; omega)
  ·have e : SetTable.below xs j = i - 1 := by (clear hi a h3 h2; omega)
   rw [e] at h2; (clear hi a q r e; omega)
 ·exact q
 ·exfalso
  have h2 := b i q
  rcases Nat.eq_zero_or_pos i with e | e
  ·rw [h0 e] at h2; (clear hi a q e; omega)
  ·have := mono (i - 1) i (by (clear hi a q h2; omega)) (by (clear hi h2 e; omega))
   rw [h1 e] at h2; (clear hi a q e; omega)
theorem insert_rising (hp : xs.toList.Pairwise (· < ·)) (hn : xs[SetTable.below xs j]? ≠ some j) : (SetTable.insertAt xs (SetTable.below xs j) j).toList.Pairwise (· < ·) := by
 refine Vc.xa_0_3 (below_spec (j := j) hp) fun a b c => ?_
 rw [SetTable.toList_insertAt]
 have gd : ∀ i (h : i < xs.size), xs.getD i 0 = xs[i] := fun i h => by rw [Array.getD_eq_getD_getElem?, Array.getElem?_eq_getElem h]; rfl
 have lt : ∀ x ∈ xs.toList.take (SetTable.below xs j), x < j := fun x hx => by
  obtain ⟨i, h1, h2⟩ := List.mem_take_iff_getElem.mp hx
  have h3 : i < xs.size := by simp at h1; (clear a h2; omega)
  have := b i (by simp at h1; (clear a h2 h3; omega))
  rw [gd i h3] at this
  rw [<- h2]; simpa using this
 have gt : ∀ x ∈ xs.toList.drop (SetTable.below xs j), j < x := fun x hx => by
  obtain ⟨i, h1, h2⟩ := List.mem_drop_iff_getElem.mp hx
  have h3 : i + SetTable.below xs j < xs.size := by simpa using h1
  have h4 := c (i + SetTable.below xs j) (by (clear a h2 h3; omega)) h3
  rw [gd _ h3] at h4
  have e : x = xs[i + SetTable.below xs j] := by rw [<- h2]; simp [Nat.add_comm]
  rw [e]
  rcases Nat.eq_zero_or_pos i with q | q
  ·subst q
   have : xs[0 + SetTable.below xs j] ≠ j := fun z => hn (by rw [Array.getElem?_eq_getElem (by (clear a h2 h4 e z; omega))]; simpa using z)
   (clear a h2 e; omega)
  ·have h5 := c (SetTable.below xs j) (Nat.le_refl _) (by (clear a h2 h4 e q; omega))
   rw [gd _ (by (clear a h2 h4 e q h5; omega))] at h5
   have := List.pairwise_iff_getElem.mp hp (SetTable.below xs j) (i + SetTable.below xs j) (by simp; (clear h2 h4 e h5; omega)) (by simpa using h3) (by (clear h2 h4 e h5; omega))
   simp only [Array.getElem_toList] at this
   (clear h2 h4 e; omega)
 refine List.pairwise_append.mpr ⟨hp.take, List.pairwise_cons.mpr ⟨gt, hp.drop⟩, fun x hx y hy => ?_⟩
 rcases List.mem_cons.mp hy with rfl | hy
 ·exact lt x hx
 ·exact Nat.lt_trans (lt x hx) (gt y hy)
end
theorem has_nil (j : Nat) : SetTable.has #[] j = false := by simp [SetTable.has]
theorem Tk.fresh (f m : Nat) (l : Bool) : Tk (SetTable.fresh f m l) := ⟨rfl, by simp [SetTable.fresh]⟩
theorem Tk.standIn {t : SetTable} (n : Nat) : Tk (t.standIn n) := ⟨rfl, by simp [SetTable.standIn]; exact List.pairwise_lt_range⟩
theorem Tk.orStandIn {t : SetTable} (h : Tk t) (n : Nat) : Tk (t.orStandIn n) := by
 unfold SetTable.orStandIn
 split
 ·exact h
 ·exact Tk.standIn n
theorem probe_go {t : SetTable} (hd : t.dummies = #[]) {g : Nat -> Int} {h : Int} (hg : ∀ i, (g i == h) = false) : ∀ (fuel : Nat) (p : SetTable.Probe), p.dummy = none -> ∀ m, SetTable.probe.go t g h fuel p = some m -> ∃ j, m = .empty j none /\ t.place[SetTable.below t.place j]? ≠ some j := by
 intro fuel
 induction fuel with
 | zero => intro p _ m e; simp [SetTable.probe.go] at e
 | succ n ih =>
  intro p hp m e
  unfold SetTable.probe.go at e
  have adv : (t.advance p).dummy = none := by unfold SetTable.advance; split <;> simp [hp]
  cases hs : t.slot p.j with
  | empty =>
   rw [hs] at e
   simp only [Option.some.injEq] at e
   refine ⟨p.j, by rw [<- e, hp], fun q => ?_⟩
   unfold SetTable.slot at hs
   dsimp only at hs
   rw [q] at hs
   simp at hs
  | dummy =>
   exfalso
   unfold SetTable.slot at hs
   rw [hd, has_nil] at hs
   dsimp only at hs
   split at hs <;> simp at hs
  | live i =>
   rw [hs] at e
   dsimp only at e
   rw [hg i] at e
   exact ih _ adv m e
theorem free_spec {t : SetTable} (hk : Tk t) {h : Int} {slot : Nat} {wd : Bool} (e : t.freeSlot h = some (slot, wd)) : t.place[SetTable.below t.place slot]? ≠ some slot := by
 unfold SetTable.freeSlot at e
 cases q : t.probe (fun zz => h + 1) h (t.probeStart h) with
 | none => rw [q] at e; simp at e
 | some m =>
  obtain ⟨j, rfl, hj⟩ := probe_go hk.1 (g := fun zz => h + 1) (h := h) (fun zz => by simp; omega) _ _ rfl m q
  rw [q] at e
  simp at e
  rw [<- e.1]; exact hj
theorem Tk.put {t : SetTable} (hk : Tk t) {j : Nat} (hn : t.place[SetTable.below t.place j]? ≠ some j) : Tk (t.put j).1 := by
 refine ⟨?_, insert_rising hk.2 hn⟩
 show (if SetTable.has t.dummies j then _ else t.dummies) = #[]
 rw [hk.1, has_nil]; rfl
theorem Tk.layNew {t : SetTable} (hk : Tk t) (es : Array (Int × Value)) (h : Int) (x : Value) : Tk (layNew t es h x).2.1 /\ (layNew t es h x).2.1.led = t.led := by
 unfold PySem.layNew
 cases q : t.freeSlot h with
 | none => exact ⟨Tk.standIn _, rfl⟩
 | some p =>
  obtain ⟨slot, wd⟩ := p
  refine ⟨(hk.put (free_spec hk q)).orStandIn _, ?_⟩
  show (SetTable.orStandIn (t.put slot).1 _).led = t.led
  unfold SetTable.orStandIn
  split <;> rfl
theorem laid_rising {mask f m : Nat} {led plain : Bool} {hs : Array Int} {r : SetTable × Array Nat} (e : SetTable.laid mask f m led plain hs = some r) : Tk r.1 /\ r.1.led = led := by
 unfold SetTable.laid at e
 cases q : SetTable.layClean mask hs with
 | none => rw [q] at e; simp at e
 | some ow =>
  rw [q] at e
  simp only [Option.bind_eq_bind, Option.bind_some, Option.pure_def, Option.some.injEq] at e
  subst e
  refine ⟨⟨rfl, ?_⟩, rfl⟩
  show ((List.map (·.1) ((List.range (mask + 1)).filterMap fun j => (ow.getD j none).map (j, ·))).toArray).toList.Pairwise (· < ·)
  rw [List.toList_toArray, List.pairwise_map]
  refine List.Pairwise.filterMap (R := (· < ·)) _ (fun a b hab x hx y hy => ?_) List.pairwise_lt_range
  simp only [Option.map_eq_some_iff] at hx hy
  refine Vc.xa_1_2 hx fun zz zz hr180_2 => ?_
  try clear hx
  subst hr180_2
  refine Vc.xa_1_2 hy fun zz zz hr181_2 => ?_
  try clear hy
  subst hr181_2
  exact hab
theorem Tk.relay {t : SetTable} (hk : Tk t) (es : Array (Int × Value)) (n : Nat) : Tk (relayAll t es n).2.1 /\ (relayAll t es n).2.1.led = t.led := by
 unfold relayAll
 cases q : t.relaid (es.map (·.1)) n with
 | none => exact ⟨Tk.standIn _, rfl⟩
 | some r =>
  obtain ⟨t', ord⟩ := r
  unfold SetTable.relaid at q
  have := laid_rising q
  dsimp only
  split
  ·exact this
  ·exact ⟨Tk.standIn _, rfl⟩
end Vc
end
section
namespace Vc
open PySem
noncomputable def keyI (e : Int × Value) : Int := match e.2 with | .int k _ => k | _ => 0
noncomputable def byT (w : World) : Bool := w.params.followText "set-order"
noncomputable def setObj (es : Array (Int × Value)) (ep : Nat) (t : SetTable) : Obj := { cls := .type "set", dict := none, data := .set es ep t }
structure SetE (prog : Program) (w : World) (es : Array (Int × Value)) (t : SetTable) (l : List Int) : Prop where
 ent : ∀ e ∈ es.toList, ∃ u, e = ((intKind prog w).hash (keyI e), .int (keyI e) u)
 nod : (es.toList.map keyI).Nodup
 mem : ∀ k, k ∈ es.toList.map keyI ↔ k ∈ l
 len : es.size <= l.length
 fit : t.fits es.size = true
 tk : Tk t
 led : t.led = !byT w
noncomputable def SetI (prog : Program) (w : World) (h : Heap) (a : Addr) (l : List Int) : Prop := ∃ es ep t, h.get? a = some (setObj es ep t) /\ SetE prog w es t l
section
variable {prog : Program} {w : World} {A : Around} {E : Value -> Shared -> Prop} {s : Shared} {es : Array (Int × Value)} {t : SetTable} {l : List Int} {a : Addr}
theorem is_int (k : Int) (u : Tok) : (intKind prog w).is k (.int k u) = true := by simp [intKind, Value.isInt]
theorem is_keyI {k : Int} {e : Int × Value} {u : Tok} (h : e = ((intKind prog w).hash (keyI e), .int (keyI e) u)) : (intKind prog w).is k e.2 = decide (k = keyI e) := by
 rw [h]
 exact KeyKind.is_eq_decide (is_int (keyI e) u) k
theorem SetE.elems (x : SetE prog w es t l) : ElemsOf (intKind prog w) es.toList := fun e he => by
 refine Vc.xa_1_1 (x.ent e he) fun u hu => ?_
 refine ⟨⟨keyI e, by rw [hu]; exact is_int _ _, by rw [hu]; rfl⟩, by rw [hu]; rfl⟩
theorem store_at {h : Heap} {ep : Nat} {es' : Array (Int × Value)} {t' : SetTable} (ho : h.get? a = some (setObj es ep t)) : (h.update a (Obj.putSet es' t')).get? a = some (setObj es' (ep + 1) t') := by
 have := Heap.get?_update_self (Obj.putSet es' t') ho rfl
 exact this
theorem SetE.perm {es' : Array (Int × Value)} {t' : SetTable} (x : SetE prog w es t l) (p : List.Perm es'.toList es.toList) (f : t'.fits es'.size = true) (k : Tk t') (d : t'.led = !byT w) : SetE prog w es' t' l where
 ent := fun e he => x.ent e (p.mem_iff.mp he)
 nod := (p.map keyI).nodup_iff.mpr x.nod
 mem := fun k => ((p.map keyI).mem_iff).trans (x.mem k)
 len := by have := p.length_eq; simp at this; rw [this]; exact x.len
 fit := f
 tk := k
 led := d
theorem add_tail {g : Bool -> Sem Unit} (hg : ∀ (b : Bool) (s₁ : Shared) (Q' : Unit -> Shared -> Prop), Q' () s₁ -> wpAny (model prog w) A (g b) Q' E s₁)
  {ep : Nat} {es1 : Array (Int × Value)} {t2 : SetTable} {m : List Int} (ho : s.heap.get? a = some (setObj es ep t)) (x : SetE prog w es1 t2 m) (hb1 : es1.size < scanBound) {wasDummy : Bool} {R : Option Bool -> Shared -> Prop}
  (h : ∀ h', Heap.SameBut a s.heap h' -> SetI prog w h' a m -> R (some true) { s with heap := h' }) :
  wpAny (model prog w) A (do
    storeSet a es1 t2
    if (!wasDummy && t2.tooFull) = true then do
      g (relayAll t2 es1 (SetTable.grown es1.size)).2.2
      storeSet a (relayAll t2 es1 (SetTable.grown es1.size)).1 (relayAll t2 es1 (SetTable.grown es1.size)).2.1
      pure (some true)
     else pure (some true)) R E s := by
 refine wpAny_bind (wpAny_storeSet_of ho rfl ?_ (fits_of_scanBound hb1))
 have ho1 : (s.heap.update a (Obj.putSet es1 t2)).get? a = some (setObj es1 (ep + 1) t2) := store_at ho
 have hsb1 := Heap.SameBut.update s.heap a (Obj.putSet es1 t2)
 split
 ·have hp := relayAll_perm t2 es1 (SetTable.grown es1.size)
  have hfr := relayAll_fits t2 es1 (SetTable.grown es1.size)
  have hk := x.tk.relay es1 (SetTable.grown es1.size)
  generalize relayAll t2 es1 (SetTable.grown es1.size) = Rl at hp hfr hk ⊢
  obtain ⟨es2, t3, gave2⟩ := Rl
  dsimp only at hp hfr hk ⊢
  have hsz : es2.size = es1.size := by rw [<- Array.length_toList, hp.length_eq, Array.length_toList]
  refine wpAny_bind (hg _ _ _ ?_)
  refine wpAny_bind (wpAny_storeSet_of ho1 rfl ?_ (fits_of_scanBound (by rw [hsz]; exact hb1)))
  exact wpAny_pure (h _ (hsb1.trans (Heap.SameBut.update _ a _)) ⟨es2, _, t3, store_at ho1, x.perm hp hfr hk.1 (hk.2.trans x.led)⟩)
 ·exact wpAny_pure (h _ hsb1 ⟨es1, _, t2, ho1, x⟩)
theorem add_hashed {k : Int} {u : Tok} {Q : Bool -> Shared -> Prop} (hS : SetI prog w s.heap a l) (hroom : l.length + 1 < scanBound)
  (h : ∀ b h', Heap.SameBut a s.heap h' -> SetI prog w h' a (l ++ [k]) -> Q b { s with heap := h' }) :
  wpAny (model prog w) A (setAddHashed a (.int k u) ((intKind prog w).hash k)) Q E s := by
 refine Vc.xa_3_2 hS fun es ep t ho x => ?_
 try clear hS
 have hlen := x.len
 have hb : es.size < scanBound := by omega
 unfold setAddHashed setAddHashedIn
 refine wpAny_holding (wpAny_bind (wpAny_setState_of ho rfl x.fit ?_))
 dsimp only
 rw [byScan_of rfl hb x.elems]
 simp only [↓reduceIte]
 unfold setAddByScan
 refine wpAny_bind ?_
 refine wpAny_bind (wpAny_rule ?_)
 refine wpAny_bind (wpAny_setScan_of (is_int k u) ho rfl x.fit x.elems ?_)
 cases hr : List.findIdx? (fun e => (intKind prog w).is k e.2) es.toList with
 | some j =>
  dsimp only
  refine Vc.xa_1_2 (List.findIdx?_eq_some_iff_getElem.mp hr) fun hj hpj zz => ?_
  refine Vc.xa_1_1 (x.ent _ (List.getElem_mem hj)) fun u' hu => ?_
  rw [is_keyI hu] at hpj
  have hk : k ∈ l := (x.mem k).mp (List.mem_map.mpr ⟨_, List.getElem_mem hj, (of_decide_eq_true hpj).symm⟩)
  refine wpAny_pure (wpAny_pure ?_)
  have e : s = { s with heap := s.heap } := by cases s; rfl
  rw [e]
  refine h _ s.heap (Heap.SameBut.refl a s.heap) ⟨es, ep, t, ho, { x with mem := fun k' => (x.mem k').trans ?_, len := by simp; (clear hroom hb; omega) }⟩
  simp only [List.mem_append, List.mem_singleton]
  exact ⟨.inl, fun q => q.elim id fun e => e ▸ hk⟩
 | none =>
  dsimp only
  have hnk : k ∉ es.toList.map keyI := fun q => by
   refine Vc.xa_1_2 (List.mem_map.mp q) fun e he q => ?_
   refine Vc.xa_1_1 (x.ent e he) fun u' hu => ?_
   have := List.findIdx?_eq_none_iff.mp hr e he
   rw [is_keyI hu, decide_eq_true q.symm] at this
   cases this
  have hgw : ∀ (b : Bool) {s₁ : Shared} {Q' : Unit -> Shared -> Prop}, Q' () s₁ -> wpAny (model prog w) A (match b with | true => rule "set.scan.the-table-gave-way" | false => pure ()) Q' E s₁ :=
   fun b s₁ Q' hq => by cases b <;> first | exact wpAny_pure hq | exact wpAny_rule hq
  have hperm := layNew_perm t es ((intKind prog w).hash k) (.int k u)
  have hfits := layNew_fits t es ((intKind prog w).hash k) (.int k u)
  have hk1 := x.tk.layNew es ((intKind prog w).hash k) (.int k u)
  generalize layNew t es ((intKind prog w).hash k) (.int k u) = L at hperm hfits hk1 ⊢
  obtain ⟨es1, t1, wasDummy, gave⟩ := L
  dsimp only at hperm hfits hk1 ⊢
  rw [Array.toList_push] at hperm
  have hmap := hperm.map keyI
  rw [List.map_append] at hmap
  have hsz : es1.size = es.size + 1 := by have := hperm.length_eq; simpa using this
  have x1 : SetE prog w es1 t1 (l ++ [k]) :=
   { ent := fun e he => by
       rcases List.mem_append.mp (hperm.mem_iff.mp he) with he | he
       · exact x.ent e he
       · rw [List.mem_singleton] at he; subst he; exact ⟨u, rfl⟩
     nod := by
       refine hmap.nodup_iff.mpr (List.nodup_append.mpr ⟨x.nod, by simp, fun p hp q hq => ?_⟩)
       simp only [List.map_cons, List.map_nil, List.mem_singleton] at hq
       rintro rfl
       exact hnk (by rw [show k = p from hq.symm]; exact hp)
     mem := fun k' => by
       rw [hmap.mem_iff]
       simp only [List.mem_append, x.mem k']
       exact Iff.rfl
     len := by rw [hsz]; simp; (clear hroom hb hnk hk1 hsz; omega)
     fit := hfits
     tk := hk1.1
     led := hk1.2.trans x.led }
  have hb1 : es1.size < scanBound := by (clear hb hnk hk1; omega)
  refine wpAny_bind (hgw _ ?_)
  split
  ·refine wpAny_bind ?_
   rw [hashByValue_scannable 8 rfl]
   refine wpAny_pure ?_
   refine add_tail (m := l ++ [k]) ?_ ho (by exact x1) hb1 ?_
   ·intro b s₁ Q' hq; cases b <;> first | exact wpAny_pure hq | exact wpAny_rule hq
   ·intro h' hsb hS'; dsimp only; exact wpAny_pure (h _ h' hsb hS')
  ·refine wpAny_bind (wpAny_pure ?_)
   simp only [↓reduceIte]
   refine add_tail ?_ ho x1 hb1 ?_
   ·intro b s₁ Q' hq; cases b <;> first | exact wpAny_pure hq | exact wpAny_rule hq
   ·intro h' hsb hS'; dsimp only; exact wpAny_pure (h _ h' hsb hS')
theorem set_add {k : Int} {u : Tok} {Q : Bool -> Shared -> Prop} (hS : SetI prog w s.heap a l) (hroom : l.length + 1 < scanBound)
  (h : ∀ b h', Heap.SameBut a s.heap h' -> SetI prog w h' a (l ++ [k]) -> Q b { s with heap := h', toks := s.toks + 1 }) :
  wpAny (model prog w) A (setAdd a (.int k u)) Q E s := by
 unfold setAdd
 refine wpAny_holding ?_
 refine wpAny_bind ((intKind prog w).pyHash (is_int k u) ?_)
 exact add_hashed (s := { s with toks := s.toks + 1 }) hS hroom h
end
end Vc
end
section
set_option maxRecDepth 100000
namespace Vc
open PySem
theorem entry_supd : entryFor table "set.update.loop" = some Builtin.«set.update.loop» := entryFor_of_tree (by kernel_rfl)
theorem plain_supd : plainId "set.update.loop" = true := by decide +kernel
theorem typeCall_set_1 (a : Addr) : checkTypeCall "set" ⟨[.ref a], []⟩ = pure () := by kernel_rfl
theorem newCall_set_1 (a : Addr) : checkBuiltinCall "set.__new__" ⟨[.type "set", .ref a], []⟩ = pure () := by kernel_rfl
theorem list_not_set : isSubtype (.type "list") (.type "set") = pure false := by rw [isSubtype_type]; kernel_rfl
theorem list_not_fset : isSubtype (.type "list") (.type "frozenset") = pure false := by rw [isSubtype_type]; kernel_rfl
section
variable {prog : Program} {w : World} {A : Around} {E : Value -> Shared -> Prop} {s : Shared} {a : Addr}
theorem SetI.at {h h' : Heap} {l : List Int} (x : SetI prog w h a l) (e : ∀ o, h.get? a = some o -> h'.get? a = some o) : SetI prog w h' a l :=
 let ⟨es, ep, t, ho, r⟩ := x; ⟨es, ep, t, e _ ho, r⟩
theorem supd_loop {R : Result -> Shared -> Prop} (hh : A.in1.handled = none) (S I L : Addr) (hSI : S ≠ I) (hSL : S ≠ L) (hLI : L ≠ I) (items : Array Value) (ns : List Int) (hv : ∀ (i : Nat) v, items[i]? = some v -> ∃ u, v = .int (ns.getD i 0) u)
  (hn : ns.length = items.size) (hb : ns.length + 1 < scanBound) :
  ∀ (k i : Nat) (s : Shared), items.size - i = k -> i <= items.size -> s.heap.IsListIter I L i -> s.heap.IsList L items -> SetI prog w s.heap S (ns.take i) ->
  (∀ h' tk, SetI prog w h' S ns -> (∀ b o, b ≠ S -> b ≠ I -> s.heap.get? b = some o -> h'.get? b = some o) -> R (.ok (.ret .none)) { s with heap := h', toks := tk }) ->
  codeAny (model prog w) A (.builtin "set.update.loop" ⟨[.ref S, .ref I], []⟩) R s := by
 have W := Walks.list (prog := prog) (w := w) hh I L hLI items
 intro k
 induction k with
 | zero =>
  intro i s hk hi hit hl hS hR
  have hin : i = items.size := by (clear hSI hSL hLI hn hb; omega)
  refine codeAny_builtin entry_supd ?_
  rw [Around.under_plainId plain_supd _]
  show wpAny _ A.in1 (pyNext (.ref I) >>= _) _ _ s
  refine wpAny_bind (W.done s _ _ (hin ▸ ⟨hit, hl⟩) fun h' tk hk' => ?_)
  refine wpAny_pure (hR h' tk ?_ fun b o zz h2 e => hk' b o (by simpa using h2) e)
  have e : ns.take i = ns := List.take_of_length_le (by (clear hSI hSL hLI hb hk hi; omega))
  rw [e] at hS
  exact hS.at fun o e => hk' S o (by simpa using hSI) e
 | succ k ih =>
  intro i s hk hi hit hl hS hR
  have hlt : i < items.size := by (clear hSI hSL hLI hn hb hi; omega)
  refine codeAny_builtin entry_supd ?_
  rw [Around.under_plainId plain_supd _]
  show wpAny _ A.in1 (pyNext (.ref I) >>= _) _ _ s
  refine wpAny_bind (W.item i s _ _ hlt ⟨hit, hl⟩ fun v h' tk hP hst' hm => ?_)
  refine Vc.xa_1_1 (hv i v hP) fun u hr48_1 => ?_
  subst hr48_1
  have hS' : SetI prog w h' S (ns.take i) := hS.at fun o e => hm S o (by simpa using hSI) e
  refine wpAny_bind (wpAny_holding (set_add (s := { s with heap := h', toks := tk }) hS' (by simp; (clear hSI hSL hLI hn hk hi hlt hst'; omega)) fun b h'' hsb hS'' => ?_))
  refine wpAny_pure ⟨plainId_quiet plain_supd _, ?_⟩
  have et : ns.take i ++ [ns.getD i 0] = ns.take (i + 1) := by
   rw [List.take_add_one, List.getD_eq_getElem?_getD, List.getElem?_eq_getElem (by (clear hSI hSL hLI hb hk hi hst'; omega))]; rfl
  rw [et] at hS''
  refine ih (i + 1) _ (by (clear hSI hSL hLI hn hb hi hlt hst'; omega)) hlt (hst'.1.at fun o e => ?_) (hst'.2.at fun o e => ?_) hS'' fun h3 tk3 hS3 hk3 => hR h3 tk3 hS3 fun b o h1 h2 e => hk3 b o h1 h2 ?_
  ·exact (hsb.2 I (fun q => hSI q.symm)).trans e
  ·exact (hsb.2 L (fun q => hSL q.symm)).trans e
  ·exact (hsb.2 b h1).trans (hm b o (by simpa using h2) e)
end
end Vc
end
section
set_option maxRecDepth 100000
namespace Vc
open PySem
section
variable {prog : Program} {w : World} {A : Around} {E : Value -> Shared -> Prop} {s : Shared} {L : Addr}
theorem set_new1 {Q₁ : Value -> Shared -> Prop}
  (h : Q₁ (.ref s.heap.objs.size) { s with heap := s.heap.push (setObj #[] 0 (.fresh 0 0 (!byT w))) }) :
  codeAny (model prog w) A (.call (.builtin "set.__new__") ⟨[.type "set", .ref L], []⟩) (wants Q₁ E) s := by
 refine codeAny_of_tree ?_
 show wpAny _ A.in1 (do checkBuiltinCall "set.__new__" ⟨[.type "set", .ref L], []⟩; again (.builtin "set.__new__" ⟨[.type "set", .ref L], []⟩)) _ _ s
 refine wpAny_bind (wpAny_of_eq (newCall_set_1 L) (wpAny_pure ⟨plainId_quiet F.plain_set_new _, codeAny_builtin F.entry_set_new ?_⟩))
 rw [Around.under_plainId F.plain_set_new _]
 unfold Builtin.«set.__new__» Builtin.Frozenset.newClass
 have hsub := sub_set_self
 obtain ⟨hp, g, d, tk, os⟩ := s
 dsimp only
 wp_walk
 refine wpAny_askSetting (wpAny_pure ?_)
 dsimp only
 simp only [newObj]
 refine wpAny_bind (wpAny_alloc (wpAny_pure ?_))
 exact wpAny_pure h
theorem check_init1 {M : Model} {self x : Value} {Q : Unit -> Shared -> Prop} (hT : s.TypeIs self "set") (hQ : Q () s) :
  wpAny M A (checkBuiltinCall "set.__init__" ⟨[self, x], []⟩) Q E s := by
 simp only [checkBuiltinCall, kind_set_init, split_set_init, sig_set_init]
 refine wpAny_bind (wpAny_isInstance hT sub_set_self ?_)
 simp only [Bool.not_true, Bool.false_eq_true, if_false]
 unfold Bind.checkArgs
 dsimp only
 refine wpAny_bind (m := Bind.printed "set" true _ _) (PyProof.Rows.printed_name (by decide) ?_)
 refine wpAny_bind (m := Bind.printed "*" false _ _) (PyProof.Rows.printed_star (self := self) rfl hT fun short => ?_)
 have hrn : (Manifest.Receiver.self == Manifest.Receiver.none) = false := by decide
 have hn : (if (Manifest.Receiver.self == Manifest.Receiver.none) = true then [self, x].length else [self, x].length - 1) = 1 := by simp [hrn]
 rw [hn]
 simp only [List.map_nil]
 have hc : Bind.check ⟨.positional, "set", "*", .self, [⟨"iterable", .posOnly, false⟩]⟩ "set" short 1 [] = pure () := by
  first | kernel_rfl | rfl | simp +decide [Bind.check, Bind.checkCount, Bind.isPositional]
 rw [hc]
 exact wpAny_pure hQ
theorem init_body {S : Addr} {items : Array Value} {ns : List Int} {P : Fin -> Shared -> Prop} (hh : A.handled = none) (hS : s.heap.get? S = some (setObj #[] 0 (.fresh 0 0 (!byT w)))) (hL : s.heap.IsList L items) (hSL : S ≠ L)
  (hv : ∀ (i : Nat) v, items[i]? = some v -> ∃ u, v = .int (ns.getD i 0) u) (hn : ns.length = items.size) (hb : ns.length + 1 < scanBound)
  (hR : ∀ h' tk, SetI prog w h' S ns -> (∀ b o, b ≠ S -> s.heap.get? b = some o -> h'.get? b = some o) -> P (.done (.ret .none)) { s with heap := h', toks := tk }) :
  wpAny (model prog w) A (Builtin.«set.__init__» ⟨[.ref S, .ref L], []⟩) P E s := by
 have hT : s.TypeIs (.ref S) "set" := ⟨_, hS, rfl⟩
 have hTL := hL.typeIs
 unfold Builtin.«set.__init__» noKeywords
 have n1 := list_not_set
 have n2 := list_not_fset
 obtain ⟨hp, g, d, tk, os⟩ := s
 wp_walk using wpAny_pyIter_list hL
 have hIn : hp.get? hp.objs.size = none := by simp [Heap.get?]
 have hne : ∀ b o, hp.get? b = some o -> b ≠ hp.objs.size := fun b o e q => by rw [q, hIn] at e; cases e
 refine Vc.xa_1_2 (id hL) fun oL hoL qL => ?_
 have kp : ∀ b o, hp.get? b = some o -> (hp.push { cls := .type "list_iterator", data := .fields #[.ref L, .int 0 0] }).get? b = some o := fun b o e => Heap.get?_push_of_some _ e
 refine supd_loop (s := { heap := hp.push { cls := .type "list_iterator", data := .fields #[.ref L, .int 0 0] }, gens := g, drawn := d, toks := tk, os := os }) hh S hp.objs.size L (hne S _ hS) hSL (hne L _ hoL) items ns hv hn hb items.size 0 (by (clear hSL hn hb qL; omega)) (Nat.zero_le _)
  ⟨_, Heap.get?_push_size _ rfl, rfl, rfl⟩ ⟨oL, kp _ _ hoL, qL⟩ ⟨#[], 0, _, kp _ _ hS, ⟨fun e he => by simp at he, by simp, fun k => by simp, by simp, by rfl, Tk.fresh _ _ _, rfl⟩⟩ fun h' tk' hS' hk' => ?_
 exact wpAny_pure (wpAny_pure (hR h' tk' hS' fun b o h1 e => hk' b o h1 (hne b o e) (kp b o e)))
set_option maxHeartbeats 1000000 in
theorem call_set1 {items : Array Value} {ns : List Int} {Q : Value -> Shared -> Prop} (hh : A.handled = none) (hL : s.heap.IsList L items)
  (hv : ∀ (i : Nat) v, items[i]? = some v -> ∃ u, v = .int (ns.getD i 0) u) (hn : ns.length = items.size) (hb : ns.length + 1 < scanBound)
  (h : ∀ h' tk, SetI prog w h' s.heap.objs.size ns -> (∀ b o, s.heap.get? b = some o -> h'.get? b = some o) -> Q (.ref s.heap.objs.size) { s with heap := h', toks := tk }) :
  wpAny (model prog w) A (call (.type "set") [.ref L]) Q E s := by
 refine Vc.xa_2_1 F.called_set.mro fun c tl hmro => ?_
 have hmade := F.called_set.made
 have hsub := F.called_set.sub
 refine wpAny_call (codeAny_of_tree ?_)
 show wpAny _ _ (callAny (.type "set") _) _ _ _
 refine wpAny_pure ⟨Code.quiet_builtin _ (by decide +kernel), codeAny_builtin F.entry_type_call ?_⟩
 rw [Around.under_plain (weight_type_call_type "set" [.ref L] []) rfl]
 have h1 := F.called_set.notType
 have h2 := F.called_set.canCreate
 have hct := typeCall_set_1 L
 repeat (any_goals (first | assumption | wp_step))
 refine codeAny_mono (set_new1 (E := E) (Q₁ := fun obj s₁ => obj = .ref s.heap.objs.size /\ s₁ = { s with heap := s.heap.push (setObj #[] 0 (.fresh 0 0 (!byT w))) }) ⟨rfl, rfl⟩) fun r s₁ hr => ?_
 cases r with
 | error e => exact hr
 | ok fl =>
  cases fl with
  | ret obj =>
   refine Vc.xa_0_2 hr fun hr87_0 hr87_1 => ?_
   try clear hr
   subst hr87_0
   subst hr87_1
   have hS : (s.heap.push (setObj #[] 0 (.fresh 0 0 (!byT w)))).get? s.heap.objs.size = some (setObj #[] 0 (.fresh 0 0 (!byT w))) := Heap.get?_push_size _ rfl
   have hT : Shared.TypeIs { s with heap := s.heap.push (setObj #[] 0 (.fresh 0 0 (!byT w))) } (.ref s.heap.objs.size) "set" := ⟨_, hS, rfl⟩
   have hli := F.called_set.init.lookup
   have hbi := F.called_set.init.bind (.ref s.heap.objs.size)
   repeat (any_goals (first | assumption | wp_step))
   have hLn : s.heap.objs.size ≠ L := fun q => by obtain ⟨o, ho, _⟩ := hL; rw [<- q] at ho; simp [Heap.get?] at ho
   refine codeAny_mono (codeAny_call_builtin (R := wants (fun r s₂ => r = .none /\ Q (.ref s.heap.objs.size) s₂) E) F.called_set.init.plain F.entry_set_init (check_init1 hT ?_)) fun r₂ s₂ hr₂ => ?_
   ·have hlt : ∀ b o, s.heap.get? b = some o -> b ≠ s.heap.objs.size := fun b o e q => by rw [q] at e; simp [Heap.get?] at e
    refine Vc.xa_1_2 (id hL) fun oL hoL qL => ?_
    refine init_body (s := { s with heap := s.heap.push (setObj #[] 0 (.fresh 0 0 (!byT w))) }) (by exact hh) hS ⟨oL, Heap.get?_push_of_some _ hoL, qL⟩ hLn hv hn hb fun h' tk hS' hk => ?_
    exact ⟨rfl, h h' tk hS' fun b o e => hk b o (hlt b o e) (Heap.get?_push_of_some _ e)⟩
   ·cases r₂ with
    | error e => exact hr₂
    | ok fl₂ =>
     cases fl₂ with
     | ret r =>
      refine Vc.xa_0_2 hr₂ fun hr104_0 hq => ?_
      try clear hr₂
      subst hr104_0
      repeat (any_goals (first | assumption | wp_step))
     | _ => exact hr₂.elim
  | _ => exact hr.elim
end
end Vc
end
section
set_option maxRecDepth 100000
namespace Vc
open PySem
theorem slot_setit_next : Slot "set_iterator" "__next__" "set_iterator.__next__" :=
 .of (owner := "set_iterator") (n := "__next__") (by rw [typeLookup_type, builtinLookup_eq_fast]; kernel_rfl) (by decide +kernel) (by decide +kernel) (by decide +kernel)
  (by first | exact .inl (by decide +kernel) | exact .inr (by decide +kernel)) (by rw [isSubtype_type]; kernel_rfl)
theorem slot_setit_iter : Slot "set_iterator" "__iter__" "set_iterator.__iter__" :=
 .of (owner := "set_iterator") (n := "__iter__") (by rw [typeLookup_type, builtinLookup_eq_fast]; kernel_rfl) (by decide +kernel) (by decide +kernel) (by decide +kernel)
  (by first | exact .inl (by decide +kernel) | exact .inr (by decide +kernel)) (by rw [isSubtype_type]; kernel_rfl)
theorem entry_setit_next : entryFor table "set_iterator.__next__" = some Builtin.«set_iterator.__next__» := entryFor_of_tree (by kernel_rfl)
theorem entry_setit_iter : entryFor table "set_iterator.__iter__" = some Builtin.«dict_keyiterator.__iter__» :=
 entryFor_alias (id' := "dict_keyiterator.__iter__") (by kernel_rfl) rfl (by decide +kernel) (by kernel_rfl)
theorem entry_set_iter : entryFor table "set.__iter__" = some Builtin.«frozenset.__iter__» :=
 entryFor_alias (id' := "frozenset.__iter__") (by kernel_rfl) rfl (by decide +kernel) (by kernel_rfl)
theorem args_setit_next (a : Value) : argsOk "set_iterator.__next__" ⟨[a], []⟩ := by unfold argsOk; kernel_rfl
theorem args_setit_iter (a : Value) : argsOk "set_iterator.__iter__" ⟨[a], []⟩ := by unfold argsOk; kernel_rfl
end Vc
end
section
set_option maxRecDepth 100000
namespace Vc
open PySem
theorem erase_perm {α : Type} : ∀ (l : List α) (i : Nat) (h : i < l.length), (l[i] :: l.eraseIdx i).Perm l
 | [], i, h => by simp at h
 | x :: l, 0, h => .refl _
 | x :: l, i + 1, h => by
  simp only [List.getElem_cons_succ, List.eraseIdx_cons_succ]
  exact (List.Perm.swap _ _ _).trans ((erase_perm l i (by simpa using h)).cons x)
theorem pick_go {α : Type} (next : Nat -> Nat) : ∀ (fuel k : Nat) (left : List α) (out : Array α), left.length = fuel -> (pickOrder.go next fuel k left out).toList.Perm (out.toList ++ left) := by
 intro fuel
 induction fuel with
 | zero => intro k left out h; rw [List.length_eq_zero_iff.mp h]; simp [pickOrder.go]
 | succ n ih =>
  intro k left out h
  unfold pickOrder.go
  have hlt : next k % left.length < left.length := Nat.mod_lt _ (by omega)
  rw [List.getElem?_eq_getElem hlt]
  dsimp only
  refine (ih _ _ _ (by rw [List.length_eraseIdx_of_lt hlt]; (clear hlt; omega))).trans ?_
  rw [Array.toList_push, List.append_assoc, List.singleton_append]
  exact (List.Perm.refl _).append (erase_perm _ _ hlt)
theorem pick_perm {α : Type} (next : Nat -> Nat) (xs : Array α) : (pickOrder next xs).toList.Perm xs.toList := by
 have := pick_go next xs.size 0 xs.toList #[] (by simp)
 simpa [pickOrder] using this
section
variable {prog : Program} {w : World} {A : Around} {E : Value -> Shared -> Prop} {s : Shared}
theorem choose_any {M : Model} {src : Source} {n : Nat} {Q : Nat -> Shared -> Prop} (hn : n ≠ 0) (h : ∀ i dr, i < n -> Q i { s with drawn := dr }) : wpAny M A (choose src n) Q E s :=
 fun zz zz zz => ⟨hn, h _ _ (Nat.mod_lt _ (Nat.pos_of_ne_zero hn))⟩
theorem draw_any {M : Model} {α : Type} : ∀ (n : Nat) (xs : List α) (s : Shared) {Q : List α -> Shared -> Prop}, xs.length = n -> (∀ ys dr, ys.Perm xs -> Q ys { s with drawn := dr }) -> wpAny M A (drawOrder n xs) Q E s := by
 intro n
 induction n with
 | zero => intro xs s Q h hQ; rw [List.length_eq_zero_iff.mp h] at hQ ⊢; unfold drawOrder; exact wpAny_pure (by have := hQ [] s.drawn (.refl _); exact this)
 | succ n ih =>
  intro xs s Q h hQ
  cases xs with
  | nil => simp at h
  | cons x xs =>
   unfold drawOrder
   refine wpAny_bind (choose_any (by simp) fun i dr hi => ?_)
   rw [List.getElem?_eq_getElem hi]
   dsimp only
   refine wpAny_bind (ih _ _ (by rw [List.length_eraseIdx_of_lt hi]; simp at h ⊢; (clear hi; omega)) fun ys dr' hp => ?_)
   exact wpAny_pure (hQ _ dr' ((hp.cons _).trans (erase_perm _ _ hi)))
noncomputable def itObj (first : Value) (i : Nat) (a : Addr) (n ep : Nat) : Obj := { cls := .type "set_iterator", data := .fields #[first, .int i 0, .ref a, .int n 0, .int ep 0] }
noncomputable def Ordr (w : World) (es : Array (Int × Value)) (ep : Nat) (t : SetTable) (a : Addr) (h : Heap) (ord : List Value) (i : Nat) (first : Value) : Prop :=
 (byT w = true /\ (∃ sl : Nat, first = .int sl 0) /\ ord = (pickOrder (w.params.setOrder a ep) es).toList.map (·.2)) ∨
 (byT w = false /\ (!t.plain && decide (es.size > 1)) = false /\ ord = es.toList.map (·.2) /\ ∃ sl : Nat, first = .int sl 0 /\ (i = 0 -> sl = 0) /\ (0 < i -> sl = t.place.getD (i - 1) 0 + 1)) ∨
 (byT w = false /\ (∃ T o items m, first = .ref T /\ h.get? T = some o /\ o.cls = .type "tuple" /\ o.data = .seq items m /\ items.size = ord.length /\ ∀ (j : Nat) v, ord[j]? = some v -> ∃ p : Nat, items[j]? = some (Value.int p 0) /\ (es[p]?).map (·.2) = some v))
theorem byText_any {Q : Bool -> Shared -> Prop} (h : Q (byT w) s) : wpAny (model prog w) A setsByText Q E s := wpAny_bind (wpAny_askSetting (wpAny_pure h))
section
variable {a : Addr} {es : Array (Int × Value)} {ep : Nat} {t : SetTable} {l : List Int}
theorem walk_text {Q : Array (Int × Value) -> Shared -> Prop} (ha : s.heap.get? a = some (setObj es ep t)) (x : SetE prog w es t l) (hb : byT w = true) (h : Q (pickOrder (w.params.setOrder a ep) es) s) : wpAny (model prog w) A (setWalk a) Q E s := by
 unfold setWalk
 refine wpAny_bind (wpAny_setState_of ha rfl x.fit ?_)
 dsimp only
 refine wpAny_bind (byText_any ?_)
 rw [hb]
 simp only [if_true]
 exact wpAny_bind (wpAny_askSetting (wpAny_pure h))
theorem setNext_text {Q : Option (Value × Nat) -> Shared -> Prop} {sl i : Nat} (ha : s.heap.get? a = some (setObj es ep t)) (x : SetE prog w es t l) (hb : byT w = true)
  (h : Q (((pickOrder (w.params.setOrder a ep) es)[i]?).map fun e => (e.2, sl)) s) : wpAny (model prog w) A (setNext a sl i ep) Q E s := by
 unfold setNext
 refine wpAny_bind (wpAny_setState_of ha rfl x.fit ?_)
 dsimp only
 refine wpAny_bind (byText_any ?_)
 rw [hb]
 simp only [if_true, bne_self_eq_false, Bool.false_eq_true, if_false]
 exact wpAny_bind (walk_text ha x hb (wpAny_pure h))
theorem setNext_plain {Q : Option (Value × Nat) -> Shared -> Prop} {sl i g : Nat} (ha : s.heap.get? a = some (setObj es ep t)) (x : SetE prog w es t l) (hb : byT w = false) (hd : (!t.plain && decide (es.size > 1)) = false)
  (hi : SetTable.below t.place sl = i) (h : Q (match es[i]?, t.place[i]? with | some (_, x), some j => some (x, j + 1) | _, _ => none) s) : wpAny (model prog w) A (setNext a sl g ep) Q E s := by
 have hl : t.led = true := by rw [x.led, hb]; rfl
 unfold setNext
 refine wpAny_bind (wpAny_setState_of ha rfl x.fit ?_)
 dsimp only
 refine wpAny_bind (byText_any ?_)
 rw [hb]
 simp only [Bool.false_eq_true, if_false]
 show wpAny _ _ (if (!t.plain && decide (es.size > 1)) = true then _ else _) _ _ _
 rw [hd]
 simp only [Bool.false_eq_true, if_false]
 show wpAny _ _ ((if (!t.led && !es.isEmpty) = true then unsupported "set:maker-not-led" else pure ()) >>= _) _ _ _
 rw [hl]
 simp only [Bool.not_true, Bool.false_and, Bool.false_eq_true, if_false]
 rw [hi]
 exact wpAny_bind (wpAny_pure (wpAny_pure h))
end
theorem next_item_ {I a : Addr} {es : Array (Int × Value)} {ep : Nat} {t : SetTable} {l : List Int} {ord : List Value} {i : Nat} {first v : Value} {Q : Option Value -> Shared -> Prop} (hI : s.heap.get? I = some (itObj first i a es.size ep)) (ha : s.heap.get? a = some (setObj es ep t))
  (x : SetE prog w es t l) (hne : a ≠ I) (O : Ordr w es ep t a s.heap ord i first) (hv : ord[i]? = some v) (hT : ∀ T, first = .ref T -> T ≠ I)
  (hQ : ∀ h' first', h'.get? I = some (itObj first' (i + 1) a es.size ep) -> Heap.SameBut I s.heap h' -> Ordr w es ep t a h' ord (i + 1) first' -> (∀ T, first' = .ref T -> first = .ref T) -> Q (some v) { s with heap := h' }) :
  wpAny (model prog w) A (pyNext (.ref I)) Q E s := by
 have hTI : s.TypeIs (.ref I) "set_iterator" := ⟨_, hI, rfl⟩
 unfold pyNext
 refine wpAny_bind (wpAny_attempt (wpAny_callSpecial?_slot (name := Str.ofString "__next__") hTI slot_setit_next
  (wpAny_call_entry slot_setit_next hTI entry_setit_next ?_ (args_setit_next _))))
 show wpAny _ _ (fieldsOf (.ref I) >>= _) _ _ s
 refine wpAny_bind (wpAny_fieldsOf hI rfl ?_)
 dsimp only
 refine wpAny_bind (wpAny_setEntries_of ha rfl x.fit ?_)
 rw [if_neg (by simp)]
 rcases O with ⟨hb, ⟨sl, rfl⟩, ho⟩ | ⟨hb, hd, ho, sl, rfl, h0, h1⟩ | ⟨hb, T, oT, items, m, rfl, hoT, hcT, hdT, hsz, hall⟩
 ·dsimp only
  have hv' : ((pickOrder (w.params.setOrder a ep) es)[i]?).map (·.2) = some v := by rw [ho] at hv; simpa using hv
  refine Vc.xa_1_2 (Option.map_eq_some_iff.mp hv') fun e he hr115_2 => ?_
  subst hr115_2
  refine wpAny_bind (setNext_text ha x hb ?_)
  simp only [Int.toNat_natCast, he, Option.map_some]
  refine wpAny_bind (wpAny_setField_rec hI (by simp) fun h1 e1 s1 => ?_)
  refine wpAny_bind (wpAny_setField_rec (s := { s with heap := h1 }) e1 (by simp) fun h2 e2 s2 => ?_)
  refine wpAny_pure ⟨_, rfl, wpAny_pure (hQ h2 (.int sl 0) ?_ (s1.trans s2) (.inl ⟨hb, ⟨sl, rfl⟩, ho⟩) fun T e => nomatch e)⟩
  rw [e2]; rfl
 ·dsimp only
  have hsz : t.place.size = es.size := by have := x.fit; simp [SetTable.fits] at this; exact this.1
  have hi : i < es.size := by rw [ho] at hv; have := (List.getElem?_eq_some_iff.mp hv).1; simpa using this
  have hb' : SetTable.below t.place sl = i := below_at x.tk.2 (by (clear hne; omega)) h0 h1
  refine wpAny_bind (setNext_plain ha x hb hd hb' ?_)
  rw [Array.getElem?_eq_getElem hi, Array.getElem?_eq_getElem (show i < t.place.size by (clear hne hb'; omega))]
  have hv2 : es[i].2 = v := by rw [ho] at hv; simpa [hi] using hv
  dsimp only
  refine wpAny_bind (wpAny_setField_rec hI (by simp) fun h1 e1 s1 => ?_)
  refine wpAny_bind (wpAny_setField_rec (s := { s with heap := h1 }) e1 (by simp) fun h2 e2 s2 => ?_)
  rw [hv2]
  refine wpAny_pure ⟨_, rfl, wpAny_pure (hQ h2 (.int ((t.place[i] + 1 : Nat) : Int) 0) ?_ (s1.trans s2) (.inr (.inl ⟨hb, hd, ho, _, rfl, fun q => by (clear hne; omega), fun zz => ?_⟩)) fun T e => nomatch e)⟩
  ·rw [e2]; rfl
  ·simp [Array.getD_eq_getD_getElem?, Array.getElem?_eq_getElem (show i < t.place.size by (clear hne; omega))]
 ·dsimp only
  refine Vc.xa_1_2 (hall i v hv) fun p hp hpe => ?_
  refine Vc.xa_1_2 (Option.map_eq_some_iff.mp hpe) fun e he hr138_2 => ?_
  subst hr138_2
  refine wpAny_bind (wpAny_seqItems hoT hdT ?_)
  simp only [Int.toNat_natCast, hp]
  have hnd : wpAny (model prog w) A.in1 (setNextDrawn a p ep) (fun y s' => y = e.2 /\ s' = s) (fun zz zz => False) s := by
   unfold setNextDrawn
   refine wpAny_bind (wpAny_setState_of ha rfl x.fit ?_)
   dsimp only
   simp only [bne_self_eq_false, Bool.false_eq_true, if_false]
   rw [he]
   exact wpAny_pure ⟨rfl, rfl⟩
  refine wpAny_bind (wpAny_mono hnd (fun y s' q => ?_) fun zz zz q => q.elim)
  refine Vc.xa_0_2 q fun hr149_0 hr149_1 => ?_
  try clear q
  subst hr149_0
  subst hr149_1
  refine wpAny_bind (wpAny_setField_rec hI (by simp) fun h1 e1 s1 => ?_)
  refine wpAny_pure ⟨_, rfl, wpAny_pure (hQ h1 (.ref T) ?_ s1 (.inr (.inr ⟨hb, T, oT, items, m, rfl, (s1.2 T (hT T rfl)).trans hoT, hcT, hdT, hsz, hall⟩)) fun T e => e)⟩
  rw [e1]; rfl
theorem sit_stop {I : Addr} {vs : Array Value} {k : Nat} {Q : Option Value -> Shared -> Prop} {P : Fin -> Shared -> Prop} (hh : A.handled = none) 
  (hQ : ∀ h', Heap.ExtBut I s.heap h' -> Q none { s with heap := h' }) :
  wpAny (model prog w) A.in1 (newExc (.type "StopIteration") [] >>= fun x => (raiseNew x : Sem Fin)) P (fun e s' => wpAny (model prog w) A (do if <- isInstance e (.type "StopIteration") then pure none else throw e) Q E s') s := by
 refine wpAny_bind ?_
 simp only [newExc, newTuple]
 refine wpAny_bind (wpAny_newObj_type ?_ (by size_fits))
 refine wpAny_bind (m := firstArgMember _ _) (wpAny_of_eq (a := Value.none) (by first | rfl | (simp only [firstArgMember]; rfl)) ?_)
 refine wpAny_newObj_type ?_ (by size_fits)
 simp only [raiseNew]
 refine wpAny_bind (wpAny_handled ?_)
 rw [show A.in1.handled = none from hh]
 refine wpAny_bind (wpAny_pure (wpAny_throw ?_))
 refine wpAny_bind (wpAny_isInstance (T := "StopIteration") (b := true) ⟨_, Heap.get?_push_size _ rfl, rfl⟩ isSubtype_stop ?_)
 exact wpAny_pure (hQ _ (((Heap.SameBut.refl I s.heap).extBut.push _).push _))
theorem next_end_ {I a : Addr} {es : Array (Int × Value)} {ep : Nat} {t : SetTable} {l : List Int} {ord : List Value} {first : Value} {Q : Option Value -> Shared -> Prop} (hh : A.handled = none) (hI : s.heap.get? I = some (itObj first ord.length a es.size ep)) (ha : s.heap.get? a = some (setObj es ep t))
  (x : SetE prog w es t l) (hne : a ≠ I) (O : Ordr w es ep t a s.heap ord ord.length first) (hlen : ord.length = es.size)
  (hQ : ∀ h', Heap.ExtBut I s.heap h' -> Q none { s with heap := h' }) :
  wpAny (model prog w) A (pyNext (.ref I)) Q E s := by
 have hTI : s.TypeIs (.ref I) "set_iterator" := ⟨_, hI, rfl⟩
 unfold pyNext
 refine wpAny_bind (wpAny_attempt (wpAny_callSpecial?_slot (name := Str.ofString "__next__") hTI slot_setit_next
  (wpAny_call_entry slot_setit_next hTI entry_setit_next ?_ (args_setit_next _))))
 show wpAny _ _ (fieldsOf (.ref I) >>= _) _ _ s
 refine wpAny_bind (wpAny_fieldsOf hI rfl ?_)
 dsimp only
 refine wpAny_bind (wpAny_setEntries_of ha rfl x.fit ?_)
 rw [if_neg (by simp)]
 rcases O with ⟨hb, ⟨sl, rfl⟩, ho⟩ | ⟨hb, hd, ho, sl, rfl, h0, h1⟩ | ⟨hb, T, oT, items, m, rfl, hoT, hcT, hdT, hsz, hall⟩
 ·dsimp only
  refine wpAny_bind (setNext_text ha x hb ?_)
  have hn : (pickOrder (w.params.setOrder a ep) es)[ord.length]? = none := by rw [ho]; simp
  simp only [Int.toNat_natCast, hn, Option.map_none]
  refine wpAny_bind (wpAny_setField_rec hI (by simp) fun h1 e1 s1 => ?_)
  exact sit_stop (s := { s with heap := h1 }) (vs := #[]) (k := 0) hh fun h' e' => hQ h' fun b o hb he => e' b o hb ((s1.2 b hb).trans he)
 ·dsimp only
  have hsz : t.place.size = es.size := by have := x.fit; simp [SetTable.fits] at this; exact this.1
  have hb' : SetTable.below t.place sl = ord.length := below_at x.tk.2 (by (clear hne; omega)) h0 h1
  refine wpAny_bind (setNext_plain ha x hb hd hb' ?_)
  rw [Array.getElem?_eq_none (by (clear hne hsz hb'; omega))]
  dsimp only
  refine wpAny_bind (wpAny_setField_rec hI (by simp) fun h1 e1 s1 => ?_)
  exact sit_stop (s := { s with heap := h1 }) (vs := #[]) (k := 0) hh fun h' e' => hQ h' fun b o hb he => e' b o hb ((s1.2 b hb).trans he)
 ·dsimp only
  refine wpAny_bind (wpAny_seqItems hoT hdT ?_)
  have hn : items[ord.length]? = none := Array.getElem?_eq_none (by (clear hne hlen; omega))
  simp only [Int.toNat_natCast, hn]
  refine wpAny_bind (wpAny_setField_rec hI (by simp) fun h1 e1 s1 => ?_)
  refine wpAny_bind (wpAny_setField_rec (s := { s with heap := h1 }) e1 (by simp) fun h2 e2 s2 => ?_)
  exact sit_stop (s := { s with heap := h2 }) (vs := #[]) (k := 0) hh fun h' e' => hQ h' fun b o hb he => e' b o hb ((s2.2 b hb).trans ((s1.2 b hb).trans he))
theorem sit_self {I : Addr} {o : Obj} {Q : Value -> Shared -> Prop} (hI : s.heap.get? I = some o) (hc : o.cls = .type "set_iterator") (h : Q (.ref I) s) : wpAny (model prog w) A (pyIter (.ref I)) Q E s := by
 have hT : s.TypeIs (.ref I) "set_iterator" := ⟨o, hI, hc⟩
 refine wpAny_pyIter_slot hT slot_setit_iter (wpAny_call_entry slot_setit_iter hT entry_setit_iter ?_ (args_setit_iter _))
 show wpAny _ _ (ret (.ref I)) _ _ s
 exact wpAny_pure ⟨_, rfl, "set_iterator", _, hT, slot_setit_next.lookup, h⟩
theorem sit_set {a : Addr} {es : Array (Int × Value)} {ep : Nat} {t : SetTable} {l : List Int} {Q : Value -> Shared -> Prop} (ha : s.heap.get? a = some (setObj es ep t)) (x : SetE prog w es t l) (hz : es.size <= sizeLine)
  (hQ : ∀ I first ord h' dr, h'.get? I = some (itObj first 0 a es.size ep) -> s.heap.get? I = none -> (∀ b o, s.heap.get? b = some o -> h'.get? b = some o) -> Ordr w es ep t a h' ord 0 first -> (∀ T, first = .ref T -> T ≠ I) -> ord.Perm (es.toList.map (·.2)) -> Q (.ref I) { s with heap := h', drawn := dr }) :
  wpAny (model prog w) A (pyIter (.ref a)) Q E s := by
 have hT : s.TypeIs (.ref a) "set" := ⟨_, ha, rfl⟩
 have hin : ∀ h : Heap, h.get? h.objs.size = none := fun h => by simp [Heap.get?]
 refine wpAny_pyIter_slot hT F.slot_set_iter (wpAny_call_entry F.slot_set_iter hT entry_set_iter ?_ (F.args_set_iter_1 _))
 unfold Builtin.«frozenset.__iter__»
 show wpAny _ _ (Builtin.Frozenset.sizeOf a >>= _) _ _ s
 unfold Builtin.Frozenset.sizeOf
 refine wpAny_bind (wpAny_bind (wpAny_setEntries_of ha rfl x.fit (wpAny_pure ?_)))
 unfold setDrawn
 refine wpAny_bind (wpAny_bind (wpAny_setState_of ha rfl x.fit ?_))
 dsimp only
 refine wpAny_bind (byText_any (wpAny_pure ?_))
 show wpAny _ _ (if (!byT w && (!t.plain && decide (es.size > 1))) = true then _ else _) _ _ _
 cases hc : (!byT w && (!t.plain && decide (es.size > 1))) with
 | false =>
  rw [if_neg (by simp)]
  refine wpAny_bind (wpAny_pure ?_)
  unfold setEpoch
  refine wpAny_bind (wpAny_bind (wpAny_setState_of ha rfl x.fit (wpAny_pure ?_)))
  refine wpAny_bind (wpAny_newObj_type ?_)
  have hI : (s.heap.push (itObj (.int 0 0) 0 a es.size ep)).get? s.heap.objs.size = some (itObj (.int 0 0) 0 a es.size ep) := Heap.get?_push_size _ rfl
  refine wpAny_pure ⟨_, rfl, "set_iterator", _, ⟨_, hI, rfl⟩, slot_setit_next.lookup, ?_⟩
  cases hb : byT w with
  | true => exact hQ s.heap.objs.size (.int 0 0) _ _ s.drawn hI (hin _) (fun b o e => Heap.get?_push_of_some _ e) (.inl ⟨hb, ⟨0, rfl⟩, rfl⟩) (fun T e => nomatch e) ((pick_perm _ _).map _)
  | false =>
   rw [hb] at hc
   exact hQ s.heap.objs.size (.int 0 0) _ _ s.drawn hI (hin _) (fun b o e => Heap.get?_push_of_some _ e) (.inr (.inl ⟨hb, by simpa using hc, rfl, 0, rfl, fun zz => rfl, fun q => absurd q (Nat.lt_irrefl _)⟩)) (fun T e => nomatch e) (.refl _)
 | true =>
  rw [if_pos rfl]
  have hb : byT w = false := by simp at hc; exact hc.1
  refine wpAny_bind (draw_any es.size _ _ (by simp) fun ps dr hp => ?_)
  have hps : ps.length = es.size := by rw [hp.length_eq]; simp
  have hlt : ∀ p ∈ ps, p < es.size := fun p q => List.mem_range.mp (hp.mem_iff.mp q)
  refine wpAny_bind (wpAny_newObj_type ?_ (by show (_ : Array Value).size <= _; rw [List.size_toArray, List.length_map, hps]; exact hz))
  unfold setEpoch
  refine wpAny_bind (wpAny_bind (wpAny_setState_of (Heap.get?_push_of_some _ ha) rfl x.fit (wpAny_pure ?_)))
  refine wpAny_bind (wpAny_newObj_type ?_)
  have hI := Heap.get?_push_size (s.heap.push { cls := .type "tuple", data := .seq (ps.map fun (i : Nat) => rawInt i).toArray }) (o := itObj (.ref s.heap.objs.size) 0 a es.size ep) rfl
  have hTp : ((s.heap.push { cls := .type "tuple", data := .seq (ps.map fun (i : Nat) => rawInt i).toArray }).push (itObj (.ref s.heap.objs.size) 0 a es.size ep)).get? s.heap.objs.size = some { cls := .type "tuple", data := .seq (ps.map fun (i : Nat) => rawInt i).toArray } :=
   Heap.get?_push_of_some _ (Heap.get?_push_size _ rfl)
  have kp : ∀ b o, s.heap.get? b = some o -> ((s.heap.push { cls := .type "tuple", data := .seq (ps.map fun (i : Nat) => rawInt i).toArray }).push (itObj (.ref s.heap.objs.size) 0 a es.size ep)).get? b = some o := fun b o e => Heap.get?_push_of_some _ (Heap.get?_push_of_some _ e)
  have hnI : s.heap.get? (s.heap.push { cls := .type "tuple", data := .seq (ps.map fun (i : Nat) => rawInt i).toArray }).objs.size = none := by
   cases q : s.heap.get? (s.heap.push { cls := .type "tuple", data := .seq (ps.map fun (i : Nat) => rawInt i).toArray }).objs.size with
   | none => rfl
   | some o => have := Heap.get?_push_of_some { cls := .type "tuple", data := .seq (ps.map fun (i : Nat) => rawInt i).toArray } q; rw [hin] at this; cases this
  refine wpAny_pure ⟨_, rfl, "set_iterator", _, ⟨_, hI, rfl⟩, slot_setit_next.lookup, ?_⟩
  refine hQ _ (.ref s.heap.objs.size) (ps.map fun p => ((es[p]?).map (·.2)).getD .none) _ dr hI hnI kp (.inr (.inr ⟨hb, s.heap.objs.size, _, _, _, rfl, hTp, rfl, rfl, by simp, fun j v hv => ?_⟩)) (fun T e q => ?_) ?_
  ·rw [List.getElem?_map] at hv
   refine Vc.xa_1_2 (Option.map_eq_some_iff.mp hv) fun p hp1 hr263_2 => ?_
   subst hr263_2
   have hp2 := hlt p (List.mem_of_getElem? hp1)
   refine ⟨p, by simp [hp1, rawInt], ?_⟩
   rw [Array.getElem?_eq_getElem hp2]; rfl
  ·injection e with e
   have := Heap.get?_push_size s.heap (o := { cls := .type "tuple", data := .seq (ps.map fun (i : Nat) => rawInt i).toArray }) rfl
   rw [e, q, hin] at this; cases this
  ·refine (hp.map _).trans ?_
   have e : (List.range es.size).map (fun p => ((es[p]?).map (·.2)).getD Value.none) = es.toList.map (·.2) := by
    refine List.ext_getElem (by simp) fun i h1 h2 => ?_
    simp at h1
    simp [h1]
   rw [e]
end
end Vc
end
section
set_option maxRecDepth 100000
namespace Vc
open PySem
section
variable {prog : Program} {w : World} {A : Around} {E : Value -> Shared -> Prop} {s : Shared}
theorem Ordr.keep {es : Array (Int × Value)} {ep : Nat} {t : SetTable} {a : Addr} {h h' : Heap} {ord : List Value} {i : Nat} {first : Value} (O : Ordr w es ep t a h ord i first) (k : ∀ T, first = .ref T -> ∀ o, h.get? T = some o -> h'.get? T = some o) : Ordr w es ep t a h' ord i first := by
 rcases O with x | x | ⟨hb, T, oT, items, m, hf, hoT, r⟩
 ·exact .inl x
 ·exact .inr (.inl x)
 ·exact .inr (.inr ⟨hb, T, oT, items, m, hf, k T hf _ hoT, r⟩)
theorem setWalks {I a T0 : Addr} {es : Array (Int × Value)} {ep : Nat} {t : SetTable} {l : List Int} {ord : List Value} (hh : A.handled = none) (x : SetE prog w es t l) (hne : a ≠ I) (hT0 : T0 ≠ I) (hlen : ord.length = es.size) :
  WalksS prog w A I [I, a, T0] [I] (fun a b => b = a) ord.length (fun i v => ord[i]? = some v)
   (fun i s => ∃ first, s.heap.get? I = some (itObj first i a es.size ep) /\ s.heap.get? a = some (setObj es ep t) /\ Ordr w es ep t a s.heap ord i first /\ ∀ T, first = .ref T -> T = T0) where
 sub := fun b hb => by simp at hb; simp [hb]
 grefl := fun zz => rfl
 gtrans := fun zz zz zz h1 h2 => h2.trans h1
 frame := fun i s h' tk ⟨first, h1, h2, O, hT⟩ _ hk => ⟨first, hk I (by simp) _ h1, hk a (by simp) _ h2, O.keep fun T e o ho => hk T (by simp [hT T e]) o ho, hT⟩
 item := fun i s Q E hi ⟨first, h1, h2, O, hT⟩ hQ => by
  refine next_item_ (v := ord[i]) h1 h2 x hne O (by simp [hi]) (fun T e => hT T e ▸ hT0) fun h' first' e1 sb O' hT' => ?_
  exact hQ _ _ (by simp [hi]) ⟨first', e1, (sb.2 a hne).trans h2, O', fun T e => hT T (hT' T e)⟩ ⟨fun b o hb e => (sb.2 b (by simpa using hb)).trans e, rfl, rfl, rfl, Nat.le_refl _⟩
 done := fun s Q E ⟨first, h1, h2, O, hT⟩ hQ => next_end_ hh h1 h2 x hne O hlen fun h' e => hQ _ ⟨fun b o hb q => e b o (by simpa using hb) q, rfl, rfl, rfl, Nat.le_refl _⟩
 self := fun i s Q E ⟨first, h1, h2, O, hT⟩ hQ => sit_self h1 rfl hQ
theorem if_w {α : Type} {c : Prop} [Decidable c] {M : Model} {a b : Sem α} {Q : α -> Shared -> Prop} (h : c) (k : wpAny M A a Q E s) : wpAny M A (if c then a else b) Q E s := by rw [if_pos h]; exact k
theorem if_wn {α : Type} {c : Prop} [Decidable c] {M : Model} {a b : Sem α} {Q : α -> Shared -> Prop} (h : ¬ c) (k : wpAny M A b Q E s) : wpAny M A (if c then a else b) Q E s := by rw [if_neg h]; exact k
theorem llh_set {a : Addr} {Q : Bool -> Shared -> Prop} (hT2 : s.TypeIs (.ref a) "set") (hQ : Q false s) : wpAny (model prog w) A (Builtin.List.listLengthHint (.ref a)) Q E s := by
 refine wpAny_bind (m := specialOf (.ref a) "__len__") (wpAny_specialOf hT2 F.slot_set_len.lookup ?_)
 have e : splitId "set.__len__" = some ("set", "__len__") := by decide +kernel
 dsimp only
 rw [e]
 refine wpAny_bind (wpAny_isInstance (b := true) hT2 (by rw [isSubtype_type]; kernel_rfl) ?_)
 refine if_wn (by decide) ?_
 refine if_w (by decide +kernel) ?_
 refine wpAny_bind (wpAny_typeOf hT2 ?_)
 exact wpAny_pure hQ
theorem collect_set {a : Addr} {es : Array (Int × Value)} {ep : Nat} {t : SetTable} {l : List Int} {Q : List Value -> Shared -> Prop} (hh : A.handled = none) (ha : s.heap.get? a = some (setObj es ep t)) (x : SetE prog w es t l) (hz : es.size <= sizeLine)
  (hQ : ∀ ord h' dr tk, ord.Perm (es.toList.map (·.2)) -> (∀ b o, s.heap.get? b = some o -> h'.get? b = some o) -> Q ord { s with heap := h', drawn := dr, toks := tk }) : wpAny (model prog w) A (collect (.ref a)) Q E s := by
 have hin : ∀ h : Heap, h.get? h.objs.size = none := fun h => by simp [Heap.get?]
 have hSa : s.heap.objs.size ≠ a := fun q => by rw [<- q, hin] at ha; cases ha
 have hT : s.TypeIs (.ref a) "set" := ⟨_, ha, rfl⟩
 unfold collect
 refine wpAny_bind (wpAny_runValue (codeAny_builtin F.entry_proto_collect ?_))
 rw [Around.under_plainId F.plain_proto_collect _]
 show wpAny _ A.in1 (newList [] >>= fun l => again (.builtin "list.__iadd__" ⟨[l, .ref a], []⟩)) _ _ s
 refine wpAny_bind (wpAny_newObj_type ?_)
 refine wpAny_pure ⟨plainId_quiet F.plain_list_iadd _, codeAny_builtin F.entry_list_iadd ?_⟩
 rw [Around.under_plainId F.plain_list_iadd _]
 have ha1 : (s.heap.push { cls := .type "list", data := .seq ([] : List Value).toArray }).get? a = some (setObj es ep t) := Heap.get?_push_of_some _ ha
 have hS₁ : (s.heap.push { cls := .type "list", data := .seq ([] : List Value).toArray }).get? s.heap.objs.size = some { cls := .type "list", data := .seq ([] : List Value).toArray } := Heap.get?_push_size _ rfl
 have h1 : Builtin.List.listSameRef (.ref s.heap.objs.size) (.ref a) = false := by simp [Builtin.List.listSameRef, hSa]
 show wpAny _ A.in1 (Builtin.List.listExtendWith (.ref s.heap.objs.size) (.ref a) (.ref s.heap.objs.size)) _ _ _
 unfold Builtin.List.listExtendWith
 refine wpAny_bind (wpAny_typeOf (T := "set") ⟨_, ha1, rfl⟩ ?_)
 rw [if_neg (by rw [h1]; decide)]
 refine wpAny_bind (sit_set (s := { s with heap := s.heap.push { cls := .type "list", data := .seq ([] : List Value).toArray } }) ha1 x hz fun I first ord h' dr hI hnI hk O hTI hp => ?_)
 have hT2 : Shared.TypeIs { s with heap := h', drawn := dr } (.ref a) "set" := ⟨_, hk _ _ ha1, rfl⟩
 refine wpAny_bind (wpAny_holding ?_)
 refine llh_set hT2 ?_
 rw [if_pos (by decide +kernel)]
 have hS2 : h'.get? s.heap.objs.size = some { cls := .type "list", data := .seq ([] : List Value).toArray } := hk _ _ hS₁
 have hne : a ≠ I := fun q => by rw [<- q, ha1] at hnI; cases hnI
 have hSI : s.heap.objs.size ≠ I := fun q => by rw [<- q, hS₁] at hnI; cases hnI
 refine wpAny_bind (wpAny_rule ?_)
 show wpAny _ _ ((updateSeq s.heap.objs.size (·.push .none) >>= fun zz => updateSeq s.heap.objs.size (·.pop)) >>= _) _ _ _
 refine wpAny_bind (wpAny_bind (wpAny_updateSeq hS2 rfl ?_))
 have hS3 := Heap.get?_update_self (Obj.mapSeq (·.push .none)) hS2 rfl
 refine wpAny_updateSeq hS3 rfl ?_ (by size_fits) (by simp)
 have hS4 := Heap.get?_update_self (Obj.mapSeq (·.pop)) hS3 rfl
 have sb : Heap.SameBut s.heap.objs.size h' ((h'.update s.heap.objs.size (Obj.mapSeq (·.push .none))).update s.heap.objs.size (Obj.mapSeq (·.pop))) := (Heap.SameBut.update _ _ _).trans (Heap.SameBut.update _ _ _)
 generalize hH : (h'.update s.heap.objs.size (Obj.mapSeq (·.push .none))).update s.heap.objs.size (Obj.mapSeq (·.pop)) = h2 at hS4 sb ⊢
 have hlen : ord.length = es.size := by rw [hp.length_eq]; simp
 obtain ⟨T0, hT0I, hT0S, hTT⟩ : ∃ T0, T0 ≠ I /\ T0 ≠ s.heap.objs.size /\ ∀ T, first = .ref T -> T = T0 := by
  rcases id O with ⟨_, ⟨sl, e⟩, _⟩ | ⟨_, _, _, sl, e, _⟩ | ⟨_, T, oT, _, _, e, hoT, hcT, _⟩
  ·exact ⟨a, hne, hSa.symm, fun T q => by rw [e] at q; cases q⟩
  ·exact ⟨a, hne, hSa.symm, fun T q => by rw [e] at q; cases q⟩
  ·refine ⟨T, hTI T e, fun q => ?_, fun T' q => by rw [e] at q; injection q with q; exact q.symm⟩
   rw [q, hS2] at hoT; cases hoT; simp at hcT
 have W := setWalks (prog := prog) (w := w) (A := A.in1) (I := I) (a := a) (T0 := T0) (es := es) (ep := ep) (t := t) (l := l) (ord := ord) hh x hne hT0I hlen
 refine wpAny_pure ⟨plainId_quiet F.plain_extend_loop _, codeAny_extend_loopS W (by (clear hSa hne hSI hT0I hT0S; omega)) s.heap.objs.size (by simp [hSI, hSa, hT0S.symm]) _ ord.length 0 _ _ _ rfl (Nat.zero_le _)
  ⟨first, (sb.2 I hSI.symm).trans hI, (sb.2 a hSa.symm).trans (hk _ _ ha1), O.keep fun T e o ho => (sb.2 T (by rw [hTT T e]; exact hT0S)).trans ho, hTT⟩ hS4 (ItemsOf.nil _) fun s' acc' c' hm hS' hacc => ?_⟩
 show wpAny _ A (load s.heap.objs.size >>= _) _ _ s'
 refine wpAny_bind (wpAny_load hS' ?_)
 refine wpAny_pure ?_
 have e : acc'.toList = ord := List.ext_getElem (by rw [Array.length_toList, hacc.1]) fun i h1 h2 => by
  have := hacc.2 i acc'[i] (by simp at h1; simp [h1])
  dsimp only at this
  rw [List.getElem?_eq_getElem h2] at this
  simpa using (Option.some.inj this).symm
 rw [e]
 obtain ⟨hp', g', d', t', o'⟩ := s'
 obtain ⟨m1, m2, m3, m4, m5⟩ := hm
 cases m2; cases m4
 refine hQ ord hp' d' t' hp fun b o q => m1 b o ?_ ?_
 ·have b1 : b ≠ s.heap.objs.size := fun z => by rw [z, hin] at q; cases q
  have b2 : b ≠ I := fun z => by rw [z] at q; rw [Heap.get?_push_of_some _ q] at hnI; cases hnI
  simp [b1, b2]
 ·exact (sb.2 b fun z => by rw [z, hin] at q; cases q).trans (hk b o (Heap.get?_push_of_some _ q))
end
end Vc
end
section
set_option maxRecDepth 100000
namespace Vc
open PySem PyProof.Rows
theorem nodup_bound : ∀ (m : Nat) (ks : List Int), ks.Nodup -> (∀ k ∈ ks, 0 <= k /\ k < m) -> ks.length <= m
 | 0, ks, _, h => by
  cases ks with
  | nil => exact Nat.le_refl _
  | cons k ks => have := h k (by simp); omega
 | m + 1, ks, hn, h => by
  have h1 : (ks.filter (fun k => decide (k ≠ (m : Int)))).length <= m := nodup_bound m _ (hn.filter _) fun k hk => by
   refine Vc.xa_0_2 (List.mem_filter.mp hk) fun a b => ?_
   have := h k a
   simp at b
   omega
  by_cases q : (m : Int) ∈ ks
  ·have h2 : ks.Perm ((m : Int) :: ks.filter (fun k => decide (k ≠ (m : Int)))) := by
    have h3 := List.perm_cons_erase q
    rwa [hn.erase_eq_filter, List.filter_congr (q := fun k => decide (k ≠ (m : Int))) (fun x zz => by simp [bne]; rfl)] at h3
   rw [h2.length_eq]; simp; simpa using h1
  ·have h2 : ks.filter (fun k => decide (k ≠ (m : Int))) = ks := List.filter_eq_self.mpr fun k hk => by simp; rintro rfl; exact q hk
   rw [h2] at h1; (clear q; omega)
section
variable {prog : Program} {w : World} {A : Around} {E : Value -> Shared -> Prop} {s : Shared}
theorem ints_of {l : List (Int × Value)} (h : ∀ e ∈ l, ∃ u, e = ((intKind prog w).hash (keyI e), .int (keyI e) u)) : IntsAre (l.map (·.2)) (l.map keyI) := by
 induction l with
 | nil => exact .nil
 | cons e l ih =>
  refine Vc.xa_1_1 (h e (by simp)) fun u hu => ?_
  have : e.2 = .int (keyI e) u := by rw [hu]; rfl
  rw [List.map_cons, List.map_cons, this]
  exact .cons _ _ (ih fun x hx => h x (by simp [hx]))
theorem ints_perm {vs ord : List Value} (p : ord.Perm vs) : ∀ {ns : List Int}, IntsAre vs ns -> ∃ ms, IntsAre ord ms /\ ms.Perm ns := by
 induction p with
 | nil => intro ns h; exact ⟨ns, h, .refl _⟩
 | cons x p ih =>
  intro ns h
  cases h with
  | cons n t h => obtain ⟨ms, h1, h2⟩ := ih h; exact ⟨n :: ms, .cons _ _ h1, h2.cons n⟩
 | swap x y l =>
  intro ns h
  cases h with
  | cons n t h =>
   cases h with
   | cons n' t' h => exact ⟨_, .cons _ _ (.cons _ _ h), List.Perm.swap _ _ _⟩
 | trans p q ih1 ih2 =>
  intro ns h
  refine Vc.xa_1_2 (ih2 h) fun ms h1 h2 => ?_
  refine Vc.xa_1_2 (ih1 h1) fun ks h3 h4 => ?_
  exact ⟨ks, h3, h4.trans h2⟩
theorem sorted_set {a : Addr} {l : List Int} {Q : Value -> Shared -> Prop} (hh : A.handled = none) (hS : SetI prog w s.heap a l) (hb : ∀ ks : List Int, ks.Nodup -> (∀ k ∈ ks, k ∈ l) -> ks.length < 64)
  (h : ∀ (r : Addr) (out : Array Value) (ks : List Int) (h' : Heap) dr tk n, s.heap.get? r = none -> h'.get? r = some (seqObj "list" out n) -> IntsAre out.toList ks -> ks.Nodup -> (∀ k, k ∈ ks ↔ k ∈ l) -> ks.Pairwise (· <= ·) ->
   (∀ b o, s.heap.get? b = some o -> h'.get? b = some o) -> Q (.ref r) { s with heap := h', drawn := dr, toks := tk }) :
  wpAny (model prog w) A (call (.builtin "sorted") [.ref a]) Q E s := by
 refine Vc.xa_3_2 hS fun es ep t ha x => ?_
 try clear hS
 have hin : ∀ h : Heap, h.get? h.objs.size = none := fun h => by simp [Heap.get?]
 have hsz : es.size < 64 := by have := hb _ x.nod fun k hk => (x.mem k).mp hk; simpa using this
 refine Calls.call_function_entry kind_sorted plain_sorted entry_sorted (args_sorted1 _) ?_
 unfold Builtin.«sorted»
 refine wpAny_bind (m := checkCount "sorted" 1 1 _) (wpAny_pure ?_)
 refine wpAny_bind (collect_set hh ha x (by rw [sizeLine_eq]; omega) fun ord h' dr tk hp hk => ?_)
 refine Vc.xa_1_2 (ints_perm hp (ints_of x.ent)) fun ms hms hmp => ?_
 have hl : ord.length < 64 := by rw [hp.length_eq]; simpa using hsz
 refine wpAny_bind (wpAny_newList ?_ (by rw [sizeLine_eq]; (clear hsz; omega)))
 have hoL : (h'.push (seqObj "list" ord.toArray 0)).get? h'.objs.size = some (seqObj "list" ord.toArray 0) := Heap.get?_push_size _ rfl
 refine wpAny_bind (wpAny_holding (wpAny_call_entry slot_list_sort ⟨_, hoL, rfl⟩ entry_list_sort (list_sort_tree (s := { s with heap := h'.push (seqObj "list" ord.toArray 0), drawn := dr, toks := tk }) hoL hms hl fun out ns' a1 a2 a3 => ⟨_, rfl, ?_⟩) (args_list_sort _)))
 refine Vc.xa_1_1 (sortedHeap_at (h := h'.push (seqObj "list" ord.toArray 0)) (a := h'.objs.size) (vs := ord) (out := out) hoL) fun e he => ?_
 have hn : s.heap.get? h'.objs.size = none := by
  cases q : s.heap.get? h'.objs.size with
  | none => rfl
  | some o => have := hk _ _ q; rw [hin] at this; cases this
 refine wpAny_pure ⟨_, rfl, h _ out ns' _ dr tk _ hn he a1 ((a2.trans hmp).nodup_iff.mpr x.nod) (fun k => (a2.trans hmp).mem_iff.trans (x.mem k)) a3 fun b o q => ?_⟩
 have q1 := hk b o q
 have hb1 : b ≠ h'.objs.size := fun z => by rw [z, hin] at q1; cases q1
 have q2 := Heap.get?_push_of_some (seqObj "list" ord.toArray 0) q1
 rw [sortedHeap_old hb1 (Heap.lt_size q2)]; exact q2
end
end Vc
end
section
namespace Vc
open PySem PyProof.Rows
noncomputable def stiP (l : List Int) : Pr where
 P p w h a := SetI p w h a l
 keep := fun v e x => x.at e
 there := fun ⟨es, ep, t, ho, _⟩ => ⟨_, ho, fun vs e => by cases e⟩
section
variable {C : Cx} {d : Md} {A : Around} {H : MH} {s : Shared} {Q : V -> MH -> Prop} {X : XP}
theorem vrs_ints {h : Heap} : ∀ {ns : List Int} {vs : List Value}, VRs C h (ns.map .int) vs -> IntsAre vs ns
 | [], vs, r => by rw [VRs.inv_nil r]; exact .nil
 | n :: ns, vs, r => by
  refine Vc.xa_2_3 (VRs.inv_cons r) fun v vs' hr20_2 r1 r2 => ?_
  subst hr20_2
  dsimp only [VR] at r1
  refine Vc.xa_1_1 r1 fun t hr22_1 => ?_
  try clear r1
  subst hr22_1
  exact .cons _ _ (vrs_ints r2)
theorem ints_vr {h : Heap} {ns : List Int} {vs : List Value} (x : IntsAre vs ns) : VRs C h (ns.map .int) vs := by
 induction x with
 | nil => exact .nil
 | cons n t r ih => exact VRs.cons .int_ ih
theorem intsA_get : ∀ {ns : List Int} {vs : List Value}, IntsAre vs ns -> ns.length = vs.length /\ ∀ (i : Nat) v, vs[i]? = some v -> ∃ u, v = .int (ns.getD i 0) u
 | _, _, .nil => ⟨rfl, fun i v h => by simp at h⟩
 | _, _, .cons n t r => ⟨by simp [(intsA_get r).1], fun i v h => by
   cases i with
   | zero => simp at h; exact ⟨t, h.symm⟩
   | succ i => simpa using (intsA_get r).2 i v (by simpa using h)⟩
theorem cv_set {b : Addr} {ns : List Int} (hq : d.q = true) (h : itemsOf H (.ref b) = some (ns.map .int)) (hl : ns.length + 1 < scanBound) (q : ∀ a, H a = none -> Q (.ref a) (upd H a (.prd (stiP ns)))) : CallV C d (.type "set") [.ref b] H Q X := fun A s cs ok rs => by
 refine Vc.xa_1_2 (args1 rs) fun c hr36_1 r => ?_
 subst hr36_1
 dsimp only [VR] at r; subst r
 refine Vc.xa_1_2 (list_at ok.rel h) fun items hL rs => ?_
 refine Vc.xa_0_2 (intsA_get (vrs_ints rs)) fun e1 e2 => ?_
 refine call_set1 (ns := ns) (ok.none hq) hL (fun i v hv => e2 i v (by simpa using hv)) (by simpa using e1) hl fun h' tk hS k => ?_
 exact qp' (Step.grow (o := .prd (stiP ns)) (s' := { s with heap := h', toks := tk }) ok k ⟨fresh0 ok, hS⟩ rfl rfl) .ref_ (q _ (ok.rel.fresh (fresh_size _)))
theorem cv_sorted {a : Addr} {l : List Int} (hq : d.q = true) (h : H a = some (.prd (stiP l))) (hb : ∀ ks : List Int, ks.Nodup -> (∀ k ∈ ks, k ∈ l) -> ks.length < 64)
  (q : ∀ r (ks : List Int), H r = none -> ks.Nodup -> (∀ k, k ∈ ks ↔ k ∈ l) -> ks.Pairwise (· <= ·) -> Q (.ref r) (upd H r (.lst (ks.map .int)))) : CallV C d (.builtin "sorted") [.ref a] H Q X := fun A s cs ok rs => by
 refine Vc.xa_1_2 (args1 rs) fun c hr45_1 r => ?_
 subst hr45_1
 dsimp only [VR] at r; subst r
 refine Vc.xa_0_2 (ok.rel _ _ h) fun h0 hS => ?_
 refine sorted_set (ok.none hq) hS hb fun r out ks h' dr tk n hn hr hi k1 k2 k3 k => ?_
 have h0r : C.h0.get? r = Option.none := by
  cases e : C.h0.get? r with
  | none => rfl
  | some o => have := ok.top _ _ e; rw [hn] at this; cases this
 refine qp' ((Step.keeps (s' := { s with heap := h', drawn := dr, toks := tk }) ok.rel ok.top k rfl rfl).adopt (o := .lst (ks.map .int)) hn ⟨h0r, out, ⟨n, hr⟩, ints_vr hi⟩) .ref_ (q r ks (ok.rel.fresh hn) k1 k2 k3)
noncomputable def kv (k : Int × List Int) : V := .tup [.int k.1, .tup (k.2.map .int)]
theorem ints_items {p : Program} {w : World} : ∀ {ns : List Int} {vs : List Value}, IntsAre vs ns -> ItemsAre (intKind p w) ns vs
 | _, _, .nil => .nil
 | _, _, .cons n t r => .cons (is_int n t) (ints_items r)
theorem kv_is {h : Heap} {k : Int × List Int} {cv : Value} (r : VR C h (kv k) cv) : ∃ a, cv = .ref a /\ IsNest C.prog C.w h k a := by
 unfold kv at r
 dsimp only [VR] at r
 refine Vc.xa_2_3 r fun a items ho63_2 ho63_3 rs => ?_
 try clear r
 obtain ⟨rfl, nd⟩ := ho63_2
 obtain ⟨o, ho, hc, n, hd⟩ := ho63_3
 refine Vc.xa_2_3 (VRs.inv_cons rs) fun v1 vs1 e1 r1 rs1 => ?_
 refine Vc.xa_2_3 (VRs.inv_cons rs1) fun v2 vs2 e2 r2 rs2 => ?_
 rw [VRs.inv_nil rs2] at e2
 dsimp only [VR] at r1 r2
 refine Vc.xa_1_1 r1 fun t hr68_1 => ?_
 try clear r1
 subst hr68_1
 refine Vc.xa_2_3 r2 fun b it2 ho69_2 ho69_3 rs2 => ?_
 try clear r2
 obtain ⟨rfl, nd2⟩ := ho69_2
 obtain ⟨o2, ho2, hc2, n2, hd2⟩ := ho69_3
 exact ⟨a, rfl, o, items, n, b, t, ho, hc, hd, by rw [e1, e2], o2, it2, n2, ho2, hc2, hd2, ints_items (vrs_ints rs2)⟩
theorem atKey_mem {K : Type} [DecidableEq K] {xs : List (K × Addr × Value)} {k : K} : (atKey xs k).isSome = true ↔ k ∈ xs.map (·.1) := by
 unfold atKey
 rw [Option.isSome_map, List.find?_isSome]
 simp only [decide_eq_true_eq, List.mem_map]
theorem in1_room (ok : Ok C d H A s) : (nestKind C.prog C.w).room A.in1 := by
 have := ok.units
 show A.in1.units + 1 < cLine
 first | (have e : A.in1.units <= A.units + 1 := by first | exact Nat.le_refl _ | exact Nat.le_succ _ | simp [Around.in1]); omega | omega
theorem in_dck {a : Addr} {ks : List (Int × List Int)} {k : Int × List Int} (h : H a = some (.prd (dckP ks))) (q : ∀ b : Bool, (b = true ↔ k ∈ ks) -> Q (.bool b) H) : CmpW C d .In (kv k) (.ref a) H Q X := fun A s ca cb ok ra rb => by
 dsimp only [VR] at rb; subst rb
 refine Vc.xa_1_2 (kv_is ra) fun b hr82_1 hk => ?_
 subst hr82_1
 obtain ⟨h0, hs, xs, hD, rfl⟩ := ok.rel _ _ h
 exact wpAny_in_heap (knd := nestKind C.prog C.w) (k := k) (in1_room ok) hk (ne_mod hs) hD (qp (ok.toks _) .bool_ (q _ atKey_mem))
theorem stored_keys {xs : List ((Int × List Int) × Addr × Value)} {k : Int × List Int} {b : Addr} {v : Value} : (∀ x, x ∈ (storedH xs k b v).map (·.1) ↔ x ∈ xs.map (·.1) ∨ x = k) /\ (storedH xs k b v).length <= xs.length + 1 := by
 unfold storedH
 cases e : (atKey xs k).isSome with
 | true =>
  rw [if_pos rfl]
  refine ⟨fun x => ?_, by simp⟩
  rw [keys_map_putAt]
  exact ⟨.inl, fun q => q.elim id fun z => z ▸ atKey_mem.mp e⟩
 | false => rw [if_neg (by decide)]; exact ⟨fun x => by simp, by simp⟩
theorem seti_dck {a : Addr} {ks : List (Int × List Int)} {k : Int × List Int} {x : V} {Q : MH -> Prop} (h : H a = some (.prd (dckP ks))) (hl : ks.length <= sizeLine) (q : ∀ ks' : List (Int × List Int), (∀ x, x ∈ ks' ↔ x ∈ ks ∨ x = k) -> ks'.length <= ks.length + 1 -> Q (upd H a (.prd (dckP ks')))) : SetIW C d (.ref a) (kv k) x H Q X := fun A s co ci cv ok ro ri rx => by
 dsimp only [VR] at ro; subst ro
 refine Vc.xa_1_2 (kv_is ri) fun b hr96_1 hk => ?_
 subst hr96_1
 obtain ⟨h0, hs, xs, hD, rfl⟩ := ok.rel _ _ h
 refine wpAny_setItem_heap (knd := nestKind C.prog C.w) (k := k) (in1_room ok) hk hD (fun h' hD' hsb => ?_) (by simpa using hl)
 have sk := stored_keys (xs := xs) (k := k) (b := b) (v := cv)
 refine ⟨_, Step.mut (o := .prd (dckP ((storedH xs k b cv).map (·.1)))) (s' := { s with heap := h', toks := s.toks + (nestKind C.prog C.w).draws k }) ok.rel ok.top (by rw [h]; rfl) h0 hsb (fun ob hob => ?_) (fun ob es ep hob hd => ?_) (fun vk => ?_) rfl rfl, q _ sk.1 (by simpa using sk.2)⟩
 ·refine Vc.xa_3_4 hD fun o es ep ho ho101_4 hd zz => ?_
  try clear hD
  obtain ⟨hc, _⟩ := ho101_4
  rw [ho] at hob; cases hob
  exact .inl ⟨es, ep, hd⟩
 ·refine Vc.xa_3_4 hD' fun o' es' ep' ho' ho104_4 hd' zz => ?_
  try clear hD'
  obtain ⟨hc', _⟩ := ho104_4
  exact ⟨o', es', ep', ho', hd'⟩
 ·exact ⟨h0, hs, _, hD', rfl⟩
theorem isnot_none_none' (q : Q (.bool false) H) : CmpW C d .IsNot .none .none H Q X := fun A s ca cb ok ra rb => by
 dsimp only [VR] at ra rb; subst ra rb
 exact isnot_none_none (qp ok.refl .bool_ q)
theorem isnot_none_ref {a : Addr} (q : Q (.bool true) H) : CmpW C d .IsNot (.ref a) .none H Q X := fun A s ca cb ok ra rb => by
 dsimp only [VR] at ra rb; subst ra rb
 exact isnot_none_ne (by simp) (qp ok.refl .bool_ q)
theorem cv_list_rng {n : Nat} (hq : d.q = true) (hn : n <= 1000) (q : ∀ b, H b = none -> Q (.ref b) (upd H b (.lst ((List.range n).map fun (k : Nat) => V.int k)))) : CallV C d (.type "list") [.rng 0 n 1] H Q X := fun A s cs ok rs => by
 refine Vc.xa_1_2 (args1 rs) fun c hr122_1 r => ?_
 subst hr122_1
 dsimp only [VR] at r
 refine Vc.xa_4_2 r fun r t u v hr124_4 hr => ?_
 subst hr124_4
 have h1 : Builtin.Range.rangeSize 0 (n : Int) 1 = n := by rw [rangeSize_one]; (clear hn r; omega)
 refine call_list_range (ok.none hq) hr (small_one (by (clear hn r h1; omega)) (by (clear hn r h1; omega)) (by (clear hn r h1; omega)) (by (clear r h1; omega))) h1 (by (clear r h1; omega)) fun h' tk acc c' k e hi => ?_
 refine qp' (Step.grow (o := .lst ((List.range n).map fun (k : Nat) => V.int k)) (s' := { s with heap := h', toks := tk }) ok k ⟨fresh0 ok, acc, ⟨c', e⟩, ?_⟩ rfl rfl) .ref_ (q _ (ok.rel.fresh (fresh_size _)))
 have hz : ∀ (l : List Value) (k : Nat), l.length + k = n -> (∀ (j : Nat) x, l[j]? = some x -> ∃ t, x = .int (0 + ((j + k : Nat) : Int) * 1) t) -> VRs C h' ((List.range' k l.length).map fun (k : Nat) => V.int k) l := by
  intro l
  induction l with
  | nil => intro k _ _; exact VRs.nil
  | cons x l ih =>
   intro k hk hx
   rw [List.length_cons, List.range'_succ, List.map_cons]
   refine VRs.cons ?_ (ih (k + 1) (by simp at hk; (clear hn r h1; omega)) fun j y hy => ?_)
   ·refine Vc.xa_1_1 (hx 0 x rfl) fun t e => ?_
    rw [e]; simp; exact .int_
   ·refine Vc.xa_1_1 (hx (j + 1) y (by simpa using hy)) fun t e => ?_
    exact ⟨t, by rw [e, show j + 1 + k = j + (k + 1) by (clear hn r h1 hk; omega)]⟩
 have := hz acc.toList 0 (by simp [hi.1]) fun j x hx => hi.2 j x (by simpa using hx)
 rw [Array.length_toList, hi.1, <- List.range_eq_range'] at this
 exact this
end
end Vc
end
section
set_option maxRecDepth 100000
namespace Vc
open PySem
theorem lk_tuple_keys : typeLookup (.type "tuple") "keys" = pure none := by rw [typeLookup_type, builtinLookup_eq_fast]; kernel_rfl
theorem keys_none {prog : Program} {w : World} {A : Around} {E : Value -> Shared -> Prop} {s : Shared} {a : Addr} {o : Obj} {xs : Array Value} {k : Nat} {Q : Option Value -> Shared -> Prop} (hh : A.handled = none)
  (hx : s.heap.get? a = some o) (hc : o.cls = .type "tuple") (hdat : o.data = .seq xs k) (hd : o.dict = none)
  (h : ∀ h' tk, (∀ b ob, s.heap.get? b = some ob -> h'.get? b = some ob) -> Q none { s with heap := h', toks := tk }) :
  wpAny (model prog w) A (getAttr? (.ref a) "keys") Q E s := by
 obtain ⟨c, dct, dat, sl⟩ := o
 simp only at hc hdat hd
 subst hc hdat hd
 obtain ⟨hp, g, d, tk, os⟩ := s
 have hT : ∀ tk', (⟨hp, g, d, tk', os⟩ : Shared).TypeIs (.ref a) "tuple" := fun zz => ⟨_, hx, rfl⟩
 have f1 := sub_AttributeError
 have f3 := F.slot_tuple_getattribute.lookup
 have f4 := F.slot_tuple_getattribute.bind (.ref a)
 have f5 := am_tuple_getattr_none
 unfold getAttr? getAttrBy? getAttrBy
 repeat (any_goals (first | assumption | exact hT _ | ((with_reducible show wpAny _ _ (call (Value.builtin "tuple.__getattribute__") _ _) _ _ _); refine call_meets F.slot_tuple_getattribute (hT _) am_entry_tuple_getattribute (F.args_tuple_getattribute_2 _ _) (meets_getattribute_miss_tuple a xs k sl "keys" _ lk_tuple_keys (by decide +kernel) (by size_fits)) ⟨hx, hh, fun h' tk' e hx' => ?_⟩) | wp_step))
 refine Vc.xa_2_1 hx'.there fun t' u' he => ?_
 show wpAny _ _ (getattributeRaised _ _ _ _ _ _ _) _ _ _
 unfold getattributeRaised
 repeat (any_goals (first | assumption | wp_step))
 exact h _ _ hx'.keeps
theorem entry_dupd : entryFor table "dict.update.loop" = some Builtin.«dict.update.loop» := entryFor_of_tree (by kernel_rfl)
theorem plain_dupd : plainId "dict.update.loop" = true := by decide +kernel
section
variable {prog : Program} {w : World} {A : Around} {E : Value -> Shared -> Prop} {s : Shared}
theorem dupd_loop {R : Result -> Shared -> Prop} (hh : A.in1.handled = none) (D I L : Addr) (hDI : D ≠ I) (hDL : D ≠ L) (hLI : L ≠ I) (items : Array Value) (ps : List (Int × Value))
  (hn : ps.length = items.size) (hb : ps.length <= sizeLine) (T : Nat -> Addr) (hTI : ∀ i, T i ≠ I) (hTD : ∀ i, T i ≠ D) (hv : ∀ (i : Nat) v, items[i]? = some v -> v = .ref (T i)) :
  ∀ (k i : Nat) (s : Shared) (j : Nat), items.size - i = k -> i <= items.size -> s.heap.IsTupleIter I L i -> s.heap.IsTuple L items -> s.heap.DictOf (intKind prog w) D ((ps.take i).foldl (fun m p => stored m p.1 p.2) []) ->
  (∀ i p, ps[i]? = some p -> ∃ u its, s.heap.IsTuple (T i) its /\ its.toList = [.int p.1 u, p.2]) ->
  (∀ h' tk, h'.DictOf (intKind prog w) D (ps.foldl (fun m p => stored m p.1 p.2) []) -> (∀ b o, b ≠ D -> b ≠ I -> s.heap.get? b = some o -> h'.get? b = some o) -> R (.ok (.ret .none)) { s with heap := h', toks := tk }) ->
  codeAny (model prog w) A (.builtin "dict.update.loop" ⟨[.ref D, .ref I, .int j 0, .none], []⟩) R s := by
 have W := Walks.tuple (prog := prog) (w := w) hh I L hLI items
 intro k
 induction k with
 | zero =>
  intro i s j hk hi hit hl hS hp hR
  have hin : i = items.size := by (clear hDI hDL hLI hn hb; omega)
  refine codeAny_builtin entry_dupd ?_
  rw [Around.under_plainId plain_dupd _]
  show wpAny _ A.in1 (pyNext (.ref I) >>= _) _ _ s
  refine wpAny_bind (W.done s _ _ (hin ▸ ⟨hit, hl⟩) fun h' tk hk' => ?_)
  have e : ps.take i = ps := List.take_of_length_le (by (clear hDI hDL hLI hb hk hi; omega))
  rw [e] at hS
  refine Vc.xa_3_2 hS fun o es ep ho r => ?_
  try clear hS
  refine wpAny_bind (wpAny_pure ?_)
  exact wpAny_pure (hR h' tk ⟨o, es, ep, hk' D o (by simpa using hDI) ho, r⟩ fun b o zz h2 e => hk' b o (by simpa using h2) e)
 | succ k ih =>
  intro i s j hk hi hit hl hS hp hR
  have hlt : i < items.size := by (clear hDI hDL hLI hn hb hi; omega)
  refine codeAny_builtin entry_dupd ?_
  rw [Around.under_plainId plain_dupd _]
  show wpAny _ A.in1 (pyNext (.ref I) >>= _) _ _ s
  refine wpAny_bind (W.item i s _ _ hlt ⟨hit, hl⟩ fun v h' tk hP hst' hm => ?_)
  have hvT := hv i v hP
  subst hvT
  have hip : i < ps.length := by (clear hDI hDL hLI hb hk hi hst'; omega)
  refine Vc.xa_2_2 (hp i ps[i] (by simp [hip])) fun u its ho69_2 hits => ?_
  obtain ⟨oT, hoT, hcT, nT, hdT⟩ := ho69_2
  have hoT' := hm (T i) oT (by simpa using hTI i) hoT
  dsimp only
  refine wpAny_bind (wpAny_holding ?_)
  have hpi : wpAny (model prog w) A.in1 (Builtin.Dict.pairItems (.ref (T i))) (fun l s' => l = [.int ps[i].1 u, ps[i].2] /\ s' = { s with heap := h', toks := tk }) (fun zz zz => False) { s with heap := h', toks := tk } := by
   unfold Builtin.Dict.pairItems
   refine wpAny_bind (wpAny_typeOf (T := "tuple") ⟨oT, hoT', hcT⟩ ?_)
   rw [if_pos (by decide)]
   refine wpAny_bind (wpAny_seqItems hoT' hdT (wpAny_pure ⟨?_, rfl⟩))
   exact hits
  refine wpAny_bind (wpAny_tryCatch (wpAny_mono hpi (fun l s' q => ?_) fun zz zz q => q.elim))
  refine Vc.xa_0_2 q fun hr80_0 hr80_1 => ?_
  try clear q
  subst hr80_0
  subst hr80_1
  dsimp only
  refine wpAny_holding ?_
  have hD' : h'.DictOf (intKind prog w) D ((ps.take i).foldl (fun m p => stored m p.1 p.2) []) := by
   refine Vc.xa_3_2 hS fun o es ep ho r => ?_
   try clear hS
   exact ⟨o, es, ep, hm D o (by simpa using hDI) ho, r⟩
  have hlen : ∀ (l : List (Int × Value)) (m : List (Int × Value)), (l.foldl (fun m p => stored m p.1 p.2) m).length <= m.length + l.length := by
   intro l
   induction l with
   | nil => intro m; simp
   | cons p l ih2 =>
    intro m
    have : (stored m p.1 p.2).length <= m.length + 1 := by unfold stored; split <;> simp
    have := ih2 (stored m p.1 p.2)
    simp only [List.foldl_cons, List.length_cons] at this ⊢
    (clear hDI hDL hLI hn hb hk hi hlt hst'; omega)
  have hl1 := hlen (ps.take i) []
  simp at hl1
  refine wpAny_dictSet_pairs (s := { s with heap := h', toks := tk }) (knd := intKind prog w) (k := ps[i].1) (by simp [intKind, Value.isInt]) hD' (fun h2 hD2 hsb => ?_) (by (clear hDI hDL hLI hn hk hi hlt hst'; omega))
  refine wpAny_pure ⟨plainId_quiet plain_dupd _, ?_⟩
  have et : stored ((ps.take i).foldl (fun m p => stored m p.1 p.2) []) ps[i].1 ps[i].2 = (ps.take (i + 1)).foldl (fun m p => stored m p.1 p.2) [] := by
   rw [List.take_add_one, List.getElem?_eq_getElem hip, List.foldl_append]; rfl
  rw [et] at hD2
  refine ih (i + 1) _ (j + 1) (by (clear hDI hDL hLI hn hb hi hlt hst' hl1; omega)) hlt (hst'.1.at fun o e => ?_) (hst'.2.at fun o e => ?_) hD2 (fun i' p' hp' => ?_) fun h3 tk3 hS3 hk3 => hR h3 tk3 hS3 fun b o h1 h2 e => hk3 b o h1 h2 ?_
  ·exact (hsb.2 I (fun q => hDI q.symm)).trans e
  ·exact (hsb.2 L (fun q => hDL q.symm)).trans e
  ·refine Vc.xa_2_2 (hp i' p' hp') fun u' its' ho106_2 h5 => ?_
   obtain ⟨o', ho', r'⟩ := ho106_2
   exact ⟨u', its', ⟨o', (hsb.2 _ (hTD i')).trans (hm _ o' (by simpa using hTI i') ho'), r'⟩, h5⟩
  ·exact (hsb.2 b h1).trans (hm b o (by simpa using h2) e)
theorem call_dict_pairs {L : Addr} {items : Array Value} {ps : List (Int × Value)} {T : Nat -> Addr} {oL : Obj} {nL : Nat} {Q : Value -> Shared -> Prop} (hh : A.handled = none) (hL : s.heap.get? L = some oL) (hcL : oL.cls = .type "tuple") (hdL : oL.data = .seq items nL) (hnL : oL.dict = none)
  (hn : ps.length = items.size) (hb : ps.length <= sizeLine) (hv : ∀ (i : Nat) v, items[i]? = some v -> v = .ref (T i)) (hT : ∀ i, ∃ o, s.heap.get? (T i) = some o) (hp : ∀ i p, ps[i]? = some p -> ∃ u its, s.heap.IsTuple (T i) its /\ its.toList = [.int p.1 u, p.2])
  (h : ∀ h' tk, h'.DictOf (intKind prog w) s.heap.objs.size (ps.foldl (fun m p => stored m p.1 p.2) []) -> (∀ b o, s.heap.get? b = some o -> h'.get? b = some o) -> Q (.ref s.heap.objs.size) { s with heap := h', toks := tk }) :
  wpAny (model prog w) A (call (.type "dict") [.ref L]) Q E s := by
 have hin : ∀ h : Heap, h.get? h.objs.size = none := fun h => by simp [Heap.get?]
 have hne : ∀ b o, s.heap.get? b = some o -> b ≠ s.heap.objs.size := fun b o e q => by rw [q, hin] at e; cases e
 refine callType_codes (Q₁ := fun obj s₁ => obj = .ref s.heap.objs.size /\ s₁ = { s with heap := s.heap.push { cls := .type "dict", data := .dict #[] } }) F.kt_called_dict (F.kt_typeCall_dict_1 _) F.entry_dict_init (kt_code_dict_new _ ⟨rfl, rfl⟩) ?_
 rintro obj s₁ ⟨rfl, rfl⟩
 have hnew : (s.heap.push { cls := .type "dict", data := .dict #[] }).DictOf (intKind prog w) s.heap.objs.size [] := Heap.DictOf.new s.heap
 have hL1 := Heap.get?_push_of_some { cls := .type "dict", data := .dict #[] } hL
 refine ⟨hnew.typeIs, F.args_dict_init_2 _ _, ?_⟩
 unfold Builtin.«dict.__init__»
 refine wpAny_bind ?_
 unfold Builtin.Dict.selfAndRest
 refine wpAny_bind (wpAny_notOrdered_dict hnew.typeIs ?_)
 show wpAny _ _ (pure (s.heap.objs.size, [Value.ref L])) _ _ _
 refine wpAny_pure ?_
 show wpAny _ _ (Builtin.Dict.updateFrom "dict.__init__" s.heap.objs.size (.ref L) [] .none) _ _ _
 unfold Builtin.Dict.updateFrom
 refine wpAny_bind (wpAny_typeOf (T := "tuple") ⟨_, hL1, hcL⟩ ?_)
 rw [if_pos (by decide)]
 refine wpAny_bind (keys_none (by exact hh) hL1 hcL hdL hnL fun h1 tk1 k1 => ?_)
 rw [if_pos (by rfl)]
 refine wpAny_bind (wpAny_rule ?_)
 refine wpAny_bind (wpAny_pyIter_tuple (items := items) ⟨_, k1 _ _ hL1, hcL, _, hdL⟩ ?_)
 have hne1 : ∀ b o, h1.get? b = some o -> b ≠ h1.objs.size := fun b o e q => by rw [q, hin] at e; cases e
 have kp : ∀ b o, s.heap.get? b = some o -> h1.get? b = some o := fun b o e => k1 b o (Heap.get?_push_of_some _ e)
 have kq : ∀ b o, h1.get? b = some o -> (h1.push { cls := .type "tuple_iterator", data := .fields #[.ref L, .int 0 0] }).get? b = some o := fun b o e => Heap.get?_push_of_some _ e
 refine Vc.xa_3_2 hnew fun oD esD epD hoD rD => ?_
 try clear hnew
 refine wpAny_pure ⟨plainId_quiet plain_dupd _, ?_⟩
 refine dupd_loop (A := A.in1) (by exact hh) s.heap.objs.size h1.objs.size L (hne1 _ _ (k1 _ _ hoD)) (hne L _ hL).symm (hne1 _ _ (k1 _ _ hL1)) items ps hn hb T (fun i => ?_) (fun i => ?_) hv items.size 0
  { heap := h1.push { cls := .type "tuple_iterator", data := .fields #[.ref L, .int 0 0] }, gens := s.gens, drawn := s.drawn, toks := tk1, os := s.os } 0 (by (clear hn hb rD; omega)) (Nat.zero_le _)
  ⟨_, Heap.get?_push_size _ rfl, rfl, rfl⟩ ⟨_, kq _ _ (k1 _ _ hL1), hcL, _, hdL⟩ ⟨oD, esD, epD, kq _ _ (k1 _ _ hoD), rD⟩ (fun i p hp' => ?_) fun h' tk hD' hk' => ⟨rfl, h h' tk hD' fun b o e => hk' b o (hne b o e) (hne1 b o (kp b o e)) (kq b o (kp b o e))⟩
 ·refine Vc.xa_1_1 (hT i) fun o ho => ?_
  exact hne1 _ _ (kp _ _ ho)
 ·refine Vc.xa_1_1 (hT i) fun o ho => ?_
  exact hne _ _ ho
 ·refine Vc.xa_2_2 (hp i p hp') fun u its ho147_2 e => ?_
  obtain ⟨o, ho, r⟩ := ho147_2
  exact ⟨u, its, ⟨o, kq _ _ (kp _ _ ho), r⟩, e⟩
end
end Vc
end
section
namespace Vc
open PySem PyProof.Rows
section
variable {C : Cx} {d : Md} {A : Around} {H : MH} {s : Shared} {Q : V -> MH -> Prop} {X : XP}
noncomputable def prs (ps : List (Int × V)) : List V := ps.map fun p => .tup [.int p.1, p.2]
noncomputable def dof (ps : List (Int × V)) : List (Int × V) := ps.foldl (fun m p => dset m p.1 p.2) []
theorem prs_vr {h : Heap} : ∀ {ps : List (Int × V)} {vs : List Value}, VRs C h (prs ps) vs -> ∃ ps' : List (Int × Value), ps'.length = vs.length /\ ps'.map (·.1) = ps.map (·.1) /\ VRs C h (ps.map (·.2)) (ps'.map (·.2)) /\ (∀ (i : Nat) v, vs[i]? = some v -> ∃ a, v = Value.ref a) /\
  ∀ (i : Nat) (p : Int × Value), ps'[i]? = some p -> ∃ u its a, vs[i]? = some (Value.ref a) /\ h.IsTuple a its /\ its.toList = [.int p.1 u, p.2]
 | [], vs, r => by rw [VRs.inv_nil r]; exact ⟨[], rfl, rfl, VRs.nil, fun i v h => by simp at h, fun i p h => by simp at h⟩
 | p :: ps, vs, r => by
  refine Vc.xa_2_3 (VRs.inv_cons r) fun v vs' hr17_2 r1 r2 => ?_
  subst hr17_2
  refine Vc.xa_1_5 (prs_vr r2) fun ps' e1 e2 e3 e4 e5 => ?_
  dsimp only [VR] at r1
  refine Vc.xa_2_3 r1 fun a items ho20_2 ht rs => ?_
  try clear r1
  obtain ⟨rfl, nd⟩ := ho20_2
  refine Vc.xa_2_3 (VRs.inv_cons rs) fun v1 vs1 f1 g1 rs1 => ?_
  refine Vc.xa_2_3 (VRs.inv_cons rs1) fun v2 vs2 f2 g2 rs2 => ?_
  rw [VRs.inv_nil rs2] at f2
  dsimp only [VR] at g1
  refine Vc.xa_1_1 g1 fun u hr25_1 => ?_
  try clear g1
  subst hr25_1
  refine ⟨(p.1, v2) :: ps', by simp [e1], by simp [e2], VRs.cons g2 e3, fun i v hv => ?_, fun i q hq => ?_⟩
  ·cases i with
   | zero => simp at hv; exact ⟨a, hv.symm⟩
   | succ i => exact e4 i v (by simpa using hv)
  ·cases i with
   | zero => simp at hq; subst hq; exact ⟨u, items, a, rfl, ht, by rw [f1, f2]⟩
   | succ i => exact e5 i q (by simpa using hq)
theorem fold_rel {h : Heap} : ∀ {ps : List (Int × V)} {ps' : List (Int × Value)} {l : List (Int × V)} {kvs : List (Int × Value)}, ps'.map (·.1) = ps.map (·.1) -> VRs C h (ps.map (·.2)) (ps'.map (·.2)) -> kvs.map (·.1) = l.map (·.1) -> VRs C h (l.map (·.2)) (kvs.map (·.2)) ->
  (ps'.foldl (fun m p => stored m p.1 p.2) kvs).map (·.1) = (ps.foldl (fun m p => dset m p.1 p.2) l).map (·.1) /\ VRs C h ((ps.foldl (fun m p => dset m p.1 p.2) l).map (·.2)) ((ps'.foldl (fun m p => stored m p.1 p.2) kvs).map (·.2))
 | [], [], _, _, _, _, m, r => ⟨m, r⟩
 | [], _ :: _, _, _, e, _, _, _ => by simp at e
 | _ :: _, [], _, _, e, _, _, _ => by simp at e
 | p :: ps, p' :: ps', l, kvs, e, rs, m, r => by
  simp only [List.map_cons, List.cons.injEq] at e
  have := stored_rel (k := p.1) rs.head m r
  simp only [List.foldl_cons]
  rw [e.1]
  exact fold_rel e.2 rs.tail this.1 this.2
theorem cv_dict_pairs {ps : List (Int × V)} (G : C.Good) (hq : d.q = true) (hl : ps.length <= sizeLine) (q : ∀ b, H b = none -> Q (.ref b) (upd H b (.dci (dof ps)))) : CallV C d (.type "dict") [.tup (prs ps)] H Q X := fun A s cs ok rs => by
 obtain ⟨c, rfl, r⟩ := args1 rs
 dsimp only [VR] at r
 obtain ⟨L, items, ⟨rfl, nd⟩, ⟨oL, hL, hcL, nL, hdL⟩, rs⟩ := r
 obtain ⟨ps', e1, e2, e3, e4, e5⟩ := prs_vr rs
 have hlen : ps'.length = ps.length := by rw [<- List.length_map (f := (·.1)), e2, List.length_map]
 let T : Nat -> Addr := fun i => match items[i]? with | some (.ref a) => a | _ => L
 have hTv : ∀ (i : Nat) v, items[i]? = some v -> v = .ref (T i) := fun i v hv => by
  refine Vc.xa_1_1 (e4 i v (by simpa using hv)) fun a hr54_1 => ?_
  subst hr54_1
  show Value.ref a = .ref (match items[i]? with | some (.ref a) => a | _ => L)
  rw [hv]
 have hp : ∀ i p, ps'[i]? = some p -> ∃ u its, s.heap.IsTuple (T i) its /\ its.toList = [.int p.1 u, p.2] := fun i p hp => by
  refine Vc.xa_3_3 (e5 i p hp) fun u its a h1 h2 h3 => ?_
  have := hTv i (.ref a) (by simpa using h1)
  injection this with this
  exact ⟨u, its, this ▸ h2, h3⟩
 refine call_dict_pairs (T := T) (ps := ps') (ok.none hq) hL hcL hdL (nd _ hL) (by simpa using e1) (by (clear e1; omega)) hTv (fun i => ?_) hp fun h' tk hD k => ?_
 ·rcases Nat.lt_or_ge i ps'.length with hi | hi
  ·refine Vc.xa_2_2 (hp i ps'[i] (by simp [hi])) fun u its ho64_2 zz => ?_
   obtain ⟨o, ho, _⟩ := ho64_2
   exact ⟨o, ho⟩
  ·refine ⟨oL, ?_⟩
   have : items[i]? = none := Array.getElem?_eq_none (by simp at e1; (clear hl hlen; omega))
   show s.heap.get? (match items[i]? with | some (.ref a) => a | _ => L) = _
   rw [this]; exact hL
 ·have fr := fold_rel (l := []) (kvs := []) e2 e3 rfl VRs.nil
  refine qp' (Step.grow (o := .dci (dof ps)) (s' := { s with heap := h', toks := tk }) ok k ⟨fresh0 ok, not_sys G ok, _, hD, fr.1, fr.2.keep (.of_keeps k)⟩ rfl rfl) .ref_ (q _ (ok.rel.fresh (fresh_size _)))
end
end Vc
end
section
namespace Vc
open PySem PyProof.Rows PySem.W
section
variable {C : Cx} {d : Md} {H : MH} {A : Around} {s : Shared} {Q : V -> MH -> Prop} {X : XP}
theorem mget_l {a : Addr} {l : List V} {m id : String} (h : H a = some (.lst l)) (sl : Slot "list" (Str.ofString m) id) (ty : typeOf (.builtin id) = pure (.type "method_descriptor")) : MGet C d (.ref a) m (.builtin id) H := mget_list h sl ty
theorem seq_mut {a : Addr} {l l' : List V} {items : Array Value} {k : Nat} {f : Array Value -> Array Value} (ok : Ok C d H A s) (h : H a = some (.lst l)) (h0 : C.h0.get? a = none) (hL : s.heap.get? a = some { cls := .type "list", data := .seq items k }) (key : VRs C s.heap l' (f items).toList) :
  Step C No H s (upd H a (.lst l')) { s with heap := s.heap.update a (Obj.mapSeq f) } := by
 refine Step.mut (o := .lst l') ok.rel ok.top (by rw [h]; rfl) h0 (Heap.SameBut.update ..) (fun ob hob => ?_) (fun ob es ep hob hd => ?_) (fun vk => ⟨h0, f items, ⟨if (f items).size == items.size then k else k + 1, ?_⟩, key.keep vk⟩) rfl rfl
 ·rw [hL] at hob; cases hob; exact .inr (.inr ⟨"list", rfl, by decide, by decide⟩)
 ·rw [hL] at hob; cases hob; cases hd
 ·exact (Heap.get?_update_self (Obj.mapSeq f) hL rfl).trans rfl
theorem cv_extend {a b : Addr} {l m : List V} (h : H a = some (.lst l)) (h2 : H b = some (.lst m)) (hl : l.length + m.length <= sizeLine) (q : Q .none (upd H a (.lst (l ++ m)))) : CallV C d (.builtin "list.extend") [.ref a, .ref b] H Q X := fun A s cs ok rs => by
 refine Vc.xa_2_3 (args2 rs) fun c e hr26_2 r r' => ?_
 subst hr26_2
 dsimp only [VR] at r; dsimp only [VR] at r'; subst r r'
 obtain ⟨h0, items, ⟨k, hL⟩, rs⟩ := ok.rel _ _ h
 obtain ⟨_, items2, ⟨k2, hL2⟩, rs2⟩ := ok.rel _ _ h2
 have hn := rs.length; have hn2 := rs2.length
 simp only [Array.length_toList] at hn hn2
 refine call_meets PySem.F.slot_list_extend ⟨_, hL, rfl⟩ PySem.F.entry_list_extend (PySem.F.args_list_extend_2 _ _) (AutoSeq1.list_extend_list_list_0 a items k b items2 k2 (extend_door (by omega)) (by (clear hn2; omega)) (by omega)) ⟨hL, hL2, ?_⟩
 exact qp' (seq_mut (f := fun x => x ++ items2) ok h h0 hL (by rw [Array.toList_append]; exact rs.append rs2)) .none_ q
theorem cv_clear {a : Addr} {l : List V} (h : H a = some (.lst l)) (hl : l.length <= sizeLine) (q : Q .none (upd H a (.lst []))) : CallV C d (.builtin "list.clear") [.ref a] H Q X := fun A s cs ok rs => by
 refine Vc.xa_1_2 (args1 rs) fun c hr36_1 r => ?_
 subst hr36_1
 dsimp only [VR] at r; subst r
 obtain ⟨h0, items, ⟨k, hL⟩, rs⟩ := ok.rel _ _ h
 have hn := rs.length
 simp only [Array.length_toList] at hn
 refine call_meets PySem.F.slot_list_clear ⟨_, hL, rfl⟩ PySem.F.entry_list_clear (PySem.F.args_list_clear_1 _) (AutoSeq1.list_clear_list_0 a items k (by omega)) ⟨hL, ?_⟩
 exact qp' (seq_mut (f := fun zz => #[]) ok h h0 hL VRs.nil) .none_ q
end
end Vc
end
section
namespace Vc
open PySem PySem.W PyProof.Rows
structure Cls (C : Cx) (cn : String) (vs : Vs) (np : Nat) (body : List St) : Prop where
 fn : Fn C cn
 call : ∀ {n : Nat} {q : Bool} {H : MH} {Q : V -> MH -> Prop} {X : XP} {args : List V}, args.length + 1 = np ->
  (∀ a dx, H a = none -> H dx = none -> a ≠ dx -> wpSs C ⟨n, q⟩ body ((.ref a :: args).map some ++ List.replicate (vs.length - np) none) (upd (upd H dx (.nsd [])) a (.ins cn dx)) (fun f zz H' => match f with | .ret v => v = .none /\ Q (.ref a) H' | .next => V.none = .none /\ Q (.ref a) H') (fun c zz H' => X c H')) ->
  CallW C ⟨n + 2, q⟩ cn args H Q X
noncomputable def clsI (K : Frag) (vs : Vs) (np : Nat) (body : List St) (fI : Addr) : Bool := (typeIn K (.ref fI) == some (.type "function")) && (match K.lookup fI with | some ⟨_, _, .func fd, _⟩ => codeIn K fd.code fd.qualname && okFn fd vs np body | _ => false)
noncomputable def clsD (K : Frag) (vs : Vs) (np : Nat) (body : List St) (D : Addr) : Bool := makesIn K D && keepIn K (.ref D) && (match findIn K (.ref D) "__init__" with | some (some (.ref fI)) => clsI K vs np body fI | _ => false)
noncomputable def clsOk (K : Frag) (cn : String) (vs : Vs) (np : Nat) (body : List St) : Bool := match nsIn K mainGlobals (Str.ofString cn) with | some (some (.ref D)) => clsD K vs np body D | _ => false
theorem cls_of {C : Cx} {K : Frag} (G : C.Good) (KX : K.In C.h0) {cn : String} {vs : Vs} {np : Nat} {body : List St} (e : clsOk K cn vs np body = true) : Cls C cn vs np body := by
 unfold clsOk at e
 split at e
 ·rename_i D hD
  unfold clsD at e
  refine Vc.xa_0_2 (Bool.and_eq_true_iff.mp e) fun e1 e2 => ?_
  refine Vc.xa_0_2 (Bool.and_eq_true_iff.mp e1) fun e0 e1 => ?_
  split at e2
  ·rename_i fI hI
   unfold clsI at e2
   refine Vc.xa_0_2 (Bool.and_eq_true_iff.mp e2) fun e3 e4 => ?_
   split at e4
   ·rename_i c1 d1 fd s1 ho
    refine Vc.xa_0_2 (Bool.and_eq_true_iff.mp e4) fun e5 e6 => ?_
    have g := own_g G KX hD
    exact ⟨⟨_, g, callee_cls KX e1⟩, fun hl W => call_w g (make_of KX g e0 hI (beq_iff_eq.mp e3) G (KX _ _ ho) rfl (codeRec_of KX e5) e6 hl W)⟩
   ·exact (Bool.false_ne_true e4).elim
  ·exact (Bool.false_ne_true e2).elim
 ·exact (Bool.false_ne_true e).elim
structure Mth (C : Cx) (cn m : String) (vs : Vs) (np : Nat) (body : List St) : Prop where
 ex : ∃ f : Addr, (∀ {d : Md} {H : MH} {a dx : Addr} {l : List (String × V)}, H a = some (.ins cn dx) -> H dx = some (.nsd l) -> nget l m = none -> MGet C d (.ref a) m (.ref f) H) /\ Callee C (.ref f) /\
  ∀ {n : Nat} {q : Bool} {H : MH} {Q : V -> MH -> Prop} {X : XP} {args : List V}, args.length = np -> wpSs C ⟨n, q⟩ body (args.map some ++ List.replicate (vs.length - np) none) H (fun f zz H' => match f with | .ret v => Q v H' | .next => Q .none H') (fun c zz H' => X c H') ->
   CallV C ⟨n + 1, q⟩ (.ref f) args H Q X
noncomputable def mthD (K : Frag) (m : String) (vs : Vs) (np : Nat) (body : List St) (D : Addr) : Bool := plainIn K D && (match findIn K (.ref D) (Str.ofString m) with | some (some (.ref f)) => clsI K vs np body f | _ => false)
noncomputable def mthOk (K : Frag) (cn m : String) (vs : Vs) (np : Nat) (body : List St) : Bool := match nsIn K mainGlobals (Str.ofString cn) with | some (some (.ref D)) => mthD K m vs np body D | _ => false
theorem mth_of {C : Cx} {K : Frag} (G : C.Good) (KX : K.In C.h0) {cn m : String} {vs : Vs} {np : Nat} {body : List St} (e : mthOk K cn m vs np body = true) : Mth C cn m vs np body := by
 unfold mthOk at e
 split at e
 ·rename_i D hD
  unfold mthD at e
  refine Vc.xa_0_2 (Bool.and_eq_true_iff.mp e) fun e1 e2 => ?_
  split at e2
  ·rename_i f hI
   unfold clsI at e2
   refine Vc.xa_0_2 (Bool.and_eq_true_iff.mp e2) fun e3 e4 => ?_
   split at e4
   ·rename_i c1 d1 fd s1 ho
    refine Vc.xa_0_2 (Bool.and_eq_true_iff.mp e4) fun e5 e6 => ?_
    have g := own_g G KX hD
    exact ⟨f, fun h1 h2 hv => mget_own KX g e1 hI (beq_iff_eq.mp e3) h1 h2 hv, callee_fn (KX _ _ ho) rfl, fun hl W => fn_call G (KX _ _ ho) rfl (codeRec_of KX e5) e6 hl W⟩
   ·exact (Bool.false_ne_true e4).elim
  ·exact (Bool.false_ne_true e2).elim
 ·exact (Bool.false_ne_true e).elim
noncomputable def atOk (K : Frag) (cn x : String) : Bool := match nsIn K mainGlobals (Str.ofString cn) with | some (some (.ref D)) => plainIn K D && findIn K (.ref D) (Str.ofString x) == some none | _ => false
theorem at_of {C : Cx} {K : Frag} (G : C.Good) (KX : K.In C.h0) {cn x : String} (e : atOk K cn x = true) : At C cn x := by
 unfold atOk at e
 split at e
 ·rename_i D hD
  refine Vc.xa_0_2 (Bool.and_eq_true_iff.mp e) fun e1 e2 => ?_
  exact ⟨K, D, KX, own_g G KX hD, e1, beq_iff_eq.mp e2⟩
 ·exact (Bool.false_ne_true e).elim
end Vc
end
section
namespace Vc
open PySem PyProof.Rows
noncomputable def law_cell_vs : Vs := [locv "_law_script", locv "_law_k"]
noncomputable def law_cell_b : List St :=
  [.ret (.sub (.bin .Add (.sli (.nm 0) (.nm 1) (.bin .Add (.nm 1) (.ci 1)) .cn) (.lst [(.ci 0)])) (.ci 0))]
noncomputable def law_mixed_vs : Vs := [locv "_law_script", locv "_law_k"]
noncomputable def law_mixed_b : List St :=
  [.ret (.bin .Mod (.bin .Mult (.bin .Add (.call "_law_cell" [(.nm 0), (.nm 1)]) (.bin .Mult (.ci 101) (.nm 1))) (.ci 48271)) (.ci 2147483647))]
noncomputable def cell (ns : List Int) (k : Int) : Int := ns.getD k.toNat 0
noncomputable def mixed (ns : List Int) (k : Int) : Int := (cell ns k + 101 * k) * 48271 % 2147483647
theorem mixed_ge (ns : List Int) (k : Int) : 0 <= mixed ns k := Int.emod_nonneg _ (by decide)
section
variable {C : Cx} {H : MH} {Q : V -> MH -> Prop} {X : XP} {n : Nat} {q : Bool} {a : Addr} {ns : List Int} {k : Int}
theorem vsl_cell (hk : 0 <= k) : (vsl (ns.map .int) (some k) (some (k + 1)) ++ [V.int 0])[0]? = some (.int (cell ns k)) := by
 refine Vc.xa_1_1 (Int.eq_ofNat_of_zero_le hk) fun k hr26_1 => ?_
 subst hr26_1
 unfold vsl cell
 simp only [Option.elim, List.length_map]
 rw [clipAt_nat, show (k : Int) + 1 = ((k + 1 : Nat) : Int) by (clear hk; omega), clipAt_nat]
 by_cases h : k < ns.length
 ·rw [Nat.min_eq_left (by (clear hk; omega)), Nat.min_eq_left (by (clear hk; omega)), show k + 1 - k = 1 by (clear hk h; omega)]
  rw [List.drop_eq_getElem_cons (by simpa using h)]
  simp [List.getD_eq_getElem?_getD, h]
 ·rw [Nat.min_eq_right (by (clear hk; omega)), Nat.min_eq_right (by (clear hk; omega))]
  simp [List.getD_eq_getElem?_getD, h]
theorem cell_ct (G : C.Good) (D : Def C "_law_cell" law_cell_vs 2 law_cell_b) (ha : H a = some (.fro (ns.map .int))) (hl : ns.length <= 63) (hk : 0 <= k) (K : ∀ H', Ext H H' -> Q (.int (cell ns k)) H') : CallW C ⟨n + 1, q⟩ "_law_cell" [.ref a, .int k] H Q X := by
 have hz : 1000 < sizeLine := by decide
 have hv : ∀ lo hi, (vsl (ns.map .int) lo hi).length <= 63 := fun lo hi => by unfold vsl; simp; (clear hk hz; omega)
 refine D.call G rfl ?_
 unfold law_cell_b
 refine SS_ret (E_sub (E_bin (E_sli (E_nm rfl (E_nm rfl (E_bin (E_nm rfl (E_ci (bin_add (E_cn (sli_list (items_fro ha) (by simp; (clear hk; omega)) (.int _) (.int _) fun b hb => ?_)))))))))))
 refine E_lst (Es_cons (E_ci (Es_nil ⟨by simp; (clear hl hk; omega), fun c hc => ?_⟩)))
 refine bin_cat ((Ext.new hc).items items_new) items_new (by have := hv (some k) (some (k + 1)); simp; (clear hl hk; omega)) fun e he => ?_
 refine E_ci (sub_list (j := 0) items_new (by have := hv (some k) (some (k + 1)); simp; (clear hl hk; omega)) ?_ (vsl_cell hk) ?_)
 ·simp [seqIndex?]
 ·exact K _ ((((Ext.refl _).more hb).more hc).more he)
theorem mixed_ct (G : C.Good) (D : Def C "_law_cell" law_cell_vs 2 law_cell_b) (D' : Def C "_law_mixed" law_mixed_vs 2 law_mixed_b) (ha : H a = some (.fro (ns.map .int))) (hl : ns.length <= 63) (hk : 0 <= k) (K : ∀ H', Ext H H' -> Q (.int (mixed ns k)) H') : CallW C ⟨n + 2, q⟩ "_law_mixed" [.ref a, .int k] H Q X := by
 refine D'.call G rfl ?_
 unfold law_mixed_b
 refine SS_ret (E_bin (E_bin (E_bin (E_fn D.fn (Es_cons (E_nm rfl (Es_cons (E_nm rfl (Es_nil (cell_ct G D ha hl hk fun H' x => ?_)))))))))) 
 refine E_bin (E_ci (E_nm rfl (bin_mul (bin_add (E_ci (bin_mul (E_ci (bin_modp (by decide) (K _ x))) (.of_right (by decide)))))  (.of_left (by decide)))))
end
set_option genSizeOf false in
inductive Wd where
 | sum | stop | pick | nt
 deriving DecidableEq
noncomputable def Wd.name : Wd -> String
 | .sum => "sum"
 | .stop => "stop"
 | .pick => "pick"
 | .nt => "not"
noncomputable def Wd.ar : Wd -> Nat
 | .sum => 2
 | .stop => 2
 | .pick => 3
 | .nt => 1
structure Pt where
 w : Wd
 ls : List Nat
noncomputable def Pt.v (p : Pt) : V := .tup (.str (Str.ofString p.w.name) :: p.ls.map fun (l : Nat) => V.int l)
theorem len1 : ∀ {l : List Nat}, l.length = 1 -> ∃ x, l = [x]
 | [x], _ => ⟨x, rfl⟩
 | [], h => nomatch h
 | _ :: _ :: _, h => nomatch h
theorem len2 : ∀ {l : List Nat}, l.length = 2 -> ∃ x y, l = [x, y]
 | x :: r, h => (len1 (Nat.succ.inj h)).elim fun y e => ⟨x, y, e ▸ rfl⟩
 | [], h => nomatch h
theorem len3 : ∀ {l : List Nat}, l.length = 3 -> ∃ x y z, l = [x, y, z]
 | x :: r, h => (len2 (Nat.succ.inj h)).elim fun y e => e.elim fun z e => ⟨x, y, z, e ▸ rfl⟩
 | [], h => nomatch h
noncomputable def Pt.ok (p : Pt) (n : Nat) : Prop := p.ls.length = p.w.ar /\ ∀ l ∈ p.ls, l < n
noncomputable def given (p : Pt) (ds : List Int) (ring : Int) : Int :=
 let at' := fun i => ds.getD (p.ls.getD i 0) 0
 match p.w with
 | .nt => ring - 1 - at' 0
 | .sum => (at' 0 + at' 1) % ring
 | .stop => if at' 1 = 0 then at' 0 else 0
 | .pick => if at' 0 = 0 then at' 1 else at' 2
noncomputable def given_of_vs : Vs := [locv "part", locv "digits", locv "ring", locv "first", locv "second"]
noncomputable def given_of_b : List St :=
  [.asg 3 (.sub (.nm 1) (.sub (.nm 0) (.ci 1))),
  .ife (.cmp .Eq (.sub (.nm 0) (.ci 0)) (.cs "not")) [.ret (.bin .Sub (.bin .Sub (.nm 2) (.ci 1)) (.nm 3))] [],
  .asg 4 (.sub (.nm 1) (.sub (.nm 0) (.ci 2))),
  .ife (.cmp .Eq (.sub (.nm 0) (.ci 0)) (.cs "sum")) [.ret (.bin .Mod (.bin .Add (.nm 3) (.nm 4)) (.nm 2))] [],
  .ife (.cmp .Eq (.sub (.nm 0) (.ci 0)) (.cs "stop")) [.ret (.ife (.cmp .Eq (.nm 4) (.ci 0)) (.nm 3) (.ci 0))] [],
  .ret (.ife (.cmp .Eq (.nm 3) (.ci 0)) (.nm 4) (.sub (.nm 1) (.sub (.nm 0) (.ci 3))))]
noncomputable def law_due_b : List St :=
  [.asg 3 (.sub (.nm 1) (.sub (.nm 0) (.ci 1))),
  .ife (.cmp .Eq (.sub (.nm 0) (.ci 0)) (.cs "not")) [.ret (.bin .Sub (.bin .Sub (.nm 2) (.ci 1)) (.nm 3))] [],
  .ife (.cmp .Eq (.sub (.nm 0) (.ci 0)) (.cs "sum")) [.ret (.bin .Mod (.bin .Add (.nm 3) (.sub (.nm 1) (.sub (.nm 0) (.ci 2)))) (.nm 2))] [],
  .ife (.cmp .Eq (.sub (.nm 0) (.ci 0)) (.cs "stop")) [.ret (.bin .Mult (.nm 3) (.call "int" [(.cmp .Eq (.sub (.nm 1) (.sub (.nm 0) (.ci 2))) (.ci 0))]))] [],
  .ife (.cmp .Eq (.nm 3) (.ci 0)) [.ret (.sub (.nm 1) (.sub (.nm 0) (.ci 2)))] [],
  .ret (.sub (.nm 1) (.sub (.nm 0) (.ci 3)))]
section
variable {C : Cx} {H : MH} {Q : V -> MH -> Prop} {X : XP} {n : Nat} {q : Bool} {b : Addr} {ds : List Int} {ring : Int} {p : Pt}
theorem ints_get {i : Nat} (hi : i < ds.length) : (ds.map V.int)[i]? = some (.int (ds.getD i 0)) := by simp [List.getD_eq_getElem?_getD, hi]
theorem vds_ints {H : MH} : ∀ ds : List Int, VDs H (ds.map .int) (ds.map .int)
 | [] => .nil
 | _ :: ds => .cons (.int _) (vds_ints ds)
theorem lay_ints : ∀ ds : List Int, PyData.canLayAll0 (ds.map .int) = true
 | [] => rfl
 | _ :: ds => by simp only [List.map_cons, PyData.canLayAll0, PyData.canLay0, Bool.true_and]; exact lay_ints ds
theorem lay_intl (ds : List Int) : (PyData.list (ds.map .int)).canLay0 = true := by rw [PyData.canLay0]; exact lay_ints ds
theorem given_ct (G : C.Good) (D : Def C "given_of" given_of_vs 3 given_of_b) (hb : itemsOf H (.ref b) = some (ds.map .int)) (hl : ds.length <= 1000) (hp : p.ok ds.length) (hr : 0 < ring) (K : Q (.int (given p ds ring)) H) :
  CallW C ⟨n + 1, q⟩ "given_of" [p.v, .ref b, .int ring] H Q X := by
 have hz : 1000 < sizeLine := by decide
 have hL : (ds.map V.int).length <= sizeLine := by simp; (clear hr; omega)
 obtain ⟨w, ls⟩ := p
 refine Vc.xa_0_2 hp fun h1 h2 => ?_
 try clear hp
 refine D.call G rfl ?_
 unfold given_of_b
 cases w with
 | sum =>
  refine Vc.xa_2_1 (len2 h1) fun x y hr146_2 => ?_
  subst hr146_2
  have hx := h2 x (by simp)
  have hy := h2 y (by simp)
  rw [show Pt.v ⟨.sum, [x, y]⟩ = .tup [.str (Str.ofString "sum"), .int x, .int y] from rfl]
  refine SS_asg (E_sub (E_nm rfl (c_sub_nc rfl ?_)))
  refine sub_t1 rfl (sub_listn hb hL (ints_get hx) ?_)
  refine SS_ife (c_tcmp (c_sub_nc rfl ?_))
  refine sub_t0 rfl ?_
  refine E_cs (cmp_cs false (by decide +kernel) (tru_bool (if_f (SS_app0 (SS_asg (E_sub (E_nm rfl (c_sub_nc rfl ?_))))))))
  refine sub_t2 rfl (sub_listn hb hL (ints_get hy) ?_)
  refine SS_ife (c_tcmp (c_sub_nc rfl ?_))
  refine sub_t0 rfl ?_
  refine E_cs (cmp_cs true (by decide +kernel) (tru_bool (if_t (SS_app1 (SS_ret (E_bin (c_bin_nn rfl rfl (bin_add (E_nm rfl ?_)))))))))
  refine bin_modp hr ?_
  exact K
 | stop =>
  refine Vc.xa_2_1 (len2 h1) fun x y hr162_2 => ?_
  subst hr162_2
  have hx := h2 x (by simp)
  have hy := h2 y (by simp)
  rw [show Pt.v ⟨.stop, [x, y]⟩ = .tup [.str (Str.ofString "stop"), .int x, .int y] from rfl]
  refine SS_asg (E_sub (E_nm rfl (c_sub_nc rfl ?_)))
  refine sub_t1 rfl (sub_listn hb hL (ints_get hx) ?_)
  refine SS_ife (c_tcmp (c_sub_nc rfl ?_))
  refine sub_t0 rfl ?_
  refine E_cs (cmp_cs false (by decide +kernel) (tru_bool (if_f (SS_app0 (SS_asg (E_sub (E_nm rfl (c_sub_nc rfl ?_))))))))
  refine sub_t2 rfl (sub_listn hb hL (ints_get hy) ?_)
  refine SS_ife (c_tcmp (c_sub_nc rfl ?_))
  refine sub_t0 rfl ?_
  refine E_cs (cmp_cs false (by decide +kernel) (tru_bool (if_f (SS_app0 (SS_ife (c_tcmp (c_sub_nc rfl ?_)))))))
  refine sub_t0 rfl ?_
  refine E_cs (cmp_cs true (by decide +kernel) (tru_bool (if_t (SS_app1 (SS_ret (E_ife (c_tcmp_nc rfl (cmp_eq_int (tru_bool ?_)))))))))
  simp only [given, List.getD_cons_succ, List.getD_cons_zero] at K
  split
  ·rename_i h; rw [if_pos (by simpa using h)] at K
   refine E_nm rfl ?_
   exact K
  ·rename_i h; rw [if_neg (by simpa using h)] at K
   refine E_ci ?_
   exact K
 | pick =>
  refine Vc.xa_3_1 (len3 h1) fun x y z hr186_3 => ?_
  subst hr186_3
  have hx := h2 x (by simp)
  have hy := h2 y (by simp)
  have hz' := h2 z (by simp)
  rw [show Pt.v ⟨.pick, [x, y, z]⟩ = .tup [.str (Str.ofString "pick"), .int x, .int y, .int z] from rfl]
  refine SS_asg (E_sub (E_nm rfl (c_sub_nc rfl ?_)))
  refine sub_t1 rfl (sub_listn hb hL (ints_get hx) ?_)
  refine SS_ife (c_tcmp (c_sub_nc rfl ?_))
  refine sub_t0 rfl ?_
  refine E_cs (cmp_cs false (by decide +kernel) (tru_bool (if_f (SS_app0 (SS_asg (E_sub (E_nm rfl (c_sub_nc rfl ?_))))))))
  refine sub_t2 rfl (sub_listn hb hL (ints_get hy) ?_)
  refine SS_ife (c_tcmp (c_sub_nc rfl ?_))
  refine sub_t0 rfl ?_
  refine E_cs (cmp_cs false (by decide +kernel) (tru_bool (if_f (SS_app0 (SS_ife (c_tcmp (c_sub_nc rfl ?_)))))))
  refine sub_t0 rfl ?_
  refine E_cs (cmp_cs false (by decide +kernel) (tru_bool (if_f (SS_app0 (SS_ret (E_ife (c_tcmp_nc rfl (cmp_eq_int (tru_bool ?_)))))))))
  simp only [given, List.getD_cons_succ, List.getD_cons_zero] at K
  split
  ·rename_i h; rw [if_pos (by simpa using h)] at K
   refine E_nm rfl ?_
   exact K
  ·rename_i h; rw [if_neg (by simpa using h)] at K
   refine E_sub (E_nm rfl (c_sub_nc rfl ?_))
   refine sub_t3 rfl (sub_listn hb hL (ints_get hz') ?_)
   exact K
 | nt =>
  refine Vc.xa_1_1 (len1 h1) fun x hr212_1 => ?_
  subst hr212_1
  have hx := h2 x (by simp)
  rw [show Pt.v ⟨.nt, [x]⟩ = .tup [.str (Str.ofString "not"), .int x] from rfl]
  refine SS_asg (E_sub (E_nm rfl (c_sub_nc rfl ?_)))
  refine sub_t1 rfl (sub_listn hb hL (ints_get hx) ?_)
  refine SS_ife (c_tcmp (c_sub_nc rfl ?_))
  refine sub_t0 rfl ?_
  refine E_cs (cmp_cs true (by decide +kernel) (tru_bool (if_t (SS_app1 (SS_ret (E_bin (c_bin_nc rfl (bin_sub (E_nm rfl (bin_sub ?_))))))))))
  exact K
theorem due_ct {vs : Vs} (G : C.Good) (S : Std C) (D : Def C "_law_due" vs 3 law_due_b) (hv : vs.length = 4) (hb : itemsOf H (.ref b) = some (ds.map .int)) (hl : ds.length <= 1000) (hp : p.ok ds.length) (hr : 0 < ring) (K : Q (.int (given p ds ring)) H) :
  CallW C ⟨n + 1, q⟩ "_law_due" [p.v, .ref b, .int ring] H Q X := by
 have hz : 1000 < sizeLine := by decide
 have hL : (ds.map V.int).length <= sizeLine := by simp; (clear hv hr; omega)
 obtain ⟨w, ls⟩ := p
 refine Vc.xa_0_2 hp fun h1 h2 => ?_
 try clear hp
 refine D.call G rfl ?_
 rw [hv]
 unfold law_due_b
 cases w with
 | sum =>
  refine Vc.xa_2_1 (len2 h1) fun x y hr233_2 => ?_
  subst hr233_2
  have hx := h2 x (by simp)
  have hy := h2 y (by simp)
  rw [show Pt.v ⟨.sum, [x, y]⟩ = .tup [.str (Str.ofString "sum"), .int x, .int y] from rfl]
  refine SS_asg (E_sub (E_nm rfl (c_sub_nc rfl ?_)))
  refine sub_t1 rfl (sub_listn hb hL (ints_get hx) ?_)
  refine SS_ife (c_tcmp (c_sub_nc rfl ?_))
  refine sub_t0 rfl ?_
  refine E_cs (cmp_cs false (by decide +kernel) (tru_bool (if_f (SS_app0 (SS_ife (c_tcmp (c_sub_nc rfl ?_)))))))
  refine sub_t0 rfl ?_
  refine E_cs (cmp_cs true (by decide +kernel) (tru_bool (if_t (SS_app1 (SS_ret (E_bin (E_bin (E_nm rfl (E_sub (E_nm rfl (c_sub_nc rfl ?_)))))))))))
  refine sub_t2 rfl (sub_listn hb hL (ints_get hy) ?_)
  refine bin_add (E_nm rfl ?_)
  refine bin_modp hr ?_
  exact K
 | stop =>
  refine Vc.xa_2_1 (len2 h1) fun x y hr249_2 => ?_
  subst hr249_2
  have hx := h2 x (by simp)
  have hy := h2 y (by simp)
  rw [show Pt.v ⟨.stop, [x, y]⟩ = .tup [.str (Str.ofString "stop"), .int x, .int y] from rfl]
  refine SS_asg (E_sub (E_nm rfl (c_sub_nc rfl ?_)))
  refine sub_t1 rfl (sub_listn hb hL (ints_get hx) ?_)
  refine SS_ife (c_tcmp (c_sub_nc rfl ?_))
  refine sub_t0 rfl ?_
  refine E_cs (cmp_cs false (by decide +kernel) (tru_bool (if_f (SS_app0 (SS_ife (c_tcmp (c_sub_nc rfl ?_)))))))
  refine sub_t0 rfl ?_
  refine E_cs (cmp_cs false (by decide +kernel) (tru_bool (if_f (SS_app0 (SS_ife (c_tcmp (c_sub_nc rfl ?_)))))))
  refine sub_t0 rfl ?_
  refine E_cs (cmp_cs true (by decide +kernel) (tru_bool (if_t (SS_app1 (SS_ret (E_bin (E_nm rfl (E_call (Std.n_int (by assumption)) callee_type (Es_cons (E_cmp (E_sub (E_nm rfl (c_sub_nc rfl ?_)))))))))))))
  refine sub_t2 rfl (sub_listn hb hL (ints_get hy) ?_)
  refine E_ci (cmp_eq_int (Es_nil ?_))
  refine cv_int_bool (bin_mul ?_ (.of_right ?_))
  ·simp only [given, List.getD_cons_succ, List.getD_cons_zero] at K
   by_cases h : ds.getD y 0 = 0
   ·rw [if_pos h] at K; simp only [h, beq_self_eq_true, if_true, Int.mul_one]; exact K
   ·rw [if_neg h] at K
    have : (ds.getD y 0 == 0) = false := by simpa using h
    simp only [this, Bool.false_eq_true, if_false, Int.mul_zero]; exact K
  ·split <;> decide
 | pick =>
  refine Vc.xa_3_1 (len3 h1) fun x y z hr273_3 => ?_
  subst hr273_3
  have hx := h2 x (by simp)
  have hy := h2 y (by simp)
  have hz' := h2 z (by simp)
  rw [show Pt.v ⟨.pick, [x, y, z]⟩ = .tup [.str (Str.ofString "pick"), .int x, .int y, .int z] from rfl]
  refine SS_asg (E_sub (E_nm rfl (c_sub_nc rfl ?_)))
  refine sub_t1 rfl (sub_listn hb hL (ints_get hx) ?_)
  refine SS_ife (c_tcmp (c_sub_nc rfl ?_))
  refine sub_t0 rfl ?_
  refine E_cs (cmp_cs false (by decide +kernel) (tru_bool (if_f (SS_app0 (SS_ife (c_tcmp (c_sub_nc rfl ?_)))))))
  refine sub_t0 rfl ?_
  refine E_cs (cmp_cs false (by decide +kernel) (tru_bool (if_f (SS_app0 (SS_ife (c_tcmp (c_sub_nc rfl ?_)))))))
  refine sub_t0 rfl ?_
  refine E_cs (cmp_cs false (by decide +kernel) (tru_bool (if_f (SS_app0 (SS_ife (c_tcmp_nc rfl (cmp_eq_int (tru_bool ?_))))))))
  simp only [given, List.getD_cons_succ, List.getD_cons_zero] at K
  split
  ·rename_i h; rw [if_pos (by simpa using h)] at K
   refine SS_app1 (SS_ret (E_sub (E_nm rfl (c_sub_nc rfl ?_))))
   refine sub_t2 rfl (sub_listn hb hL (ints_get hy) ?_)
   exact K
  ·rename_i h; rw [if_neg (by simpa using h)] at K
   refine SS_app0 (SS_ret (E_sub (E_nm rfl (c_sub_nc rfl ?_))))
   refine sub_t3 rfl (sub_listn hb hL (ints_get hz') ?_)
   exact K
 | nt =>
  refine Vc.xa_1_1 (len1 h1) fun x hr298_1 => ?_
  subst hr298_1
  have hx := h2 x (by simp)
  rw [show Pt.v ⟨.nt, [x]⟩ = .tup [.str (Str.ofString "not"), .int x] from rfl]
  refine SS_asg (E_sub (E_nm rfl (c_sub_nc rfl ?_)))
  refine sub_t1 rfl (sub_listn hb hL (ints_get hx) ?_)
  refine SS_ife (c_tcmp (c_sub_nc rfl ?_))
  refine sub_t0 rfl ?_
  refine E_cs (cmp_cs true (by decide +kernel) (tru_bool (if_t (SS_app1 (SS_ret (E_bin (c_bin_nc rfl (bin_sub (E_nm rfl (bin_sub ?_))))))))))
  exact K
end
end Vc
end
section
namespace Vc
open PySem PyProof.Rows
theorem lt8 : ∀ n : Nat, n < 8 -> n = 0 ∨ n = 1 ∨ n = 2 ∨ n = 3 ∨ n = 4 ∨ n = 5 ∨ n = 6 ∨ n = 7 := by decide
theorem Ext.mut {H H' : MH} {a : Addr} {o : O} (x : Ext H H') (h : H a = none) : Ext H (upd H' a o) := fun b o' e => by
 rw [upd_ne]
 ·exact x b o' e
 ·rintro rfl; rw [h] at e; cases e
theorem Ext.gone {H H' : MH} {a : Addr} (x : Ext H H') (h : H' a = none) : H a = none := by
 cases e : H a with
 | none => rfl
 | some o => rw [x a o e] at h; cases h
theorem Ext.ne {H : MH} {a b : Addr} {o : O} (h : H a = some o) (h' : H b = none) : a ≠ b := by rintro rfl; rw [h] at h'; cases h'
noncomputable def law_part_b : List St :=
  [.asg 2 (.sub (.lst [(.cs "sum"), (.cs "stop"), (.cs "pick"), (.cs "not")]) (.bin .Mod (.nm 0) (.ci 4))),
  .asg 3 (.lst []),
  .for [4] (.pl (.call "range" [(.sub (.dct ["sum", "stop", "pick", "not"] [(.ci 2), (.ci 2), (.ci 3), (.ci 1)]) (.nm 2))])) [.asg 5 (.bin .FloorDiv (.bin .FloorDiv (.nm 0) (.ci 4)) (.sub (.lst [(.ci 1), (.ci 7), (.ci 49)]) (.nm 4))),
  .ife (.cmp .Eq (.bin .Mod (.nm 5) (.ci 2)) (.ci 0)) [.exp (.meth (.nm 3) "append" [(.bin .Sub (.bin .Sub (.nm 1) (.ci 1)) (.bin .Mod (.bin .FloorDiv (.nm 5) (.ci 2)) (.call "min" [(.nm 1), (.ci 3)])))])] [.exp (.meth (.nm 3) "append" [(.bin .Mod (.bin .FloorDiv (.nm 5) (.ci 2)) (.nm 1))])]],
  .ret (.call "tuple" [(.bin .Add (.lst [(.nm 2)]) (.nm 3))])]
noncomputable def law_work_vs : Vs := [celv "_law_script", locv "_law_most", locv "_law_first", locv "_law_ring", celv "_law_inputs", locv "_law_many", locv "_law_parts"]
noncomputable def law_work_b : List St :=
  [.asg 2 (.call "_law_mixed" [(.nm 0), (.ci 0)]),
  .asg 3 (.sub (.lst [(.ci 2), (.ci 2), (.ci 3), (.ci 2), (.ci 3), (.ci 4), (.ci 5), (.ci 2)]) (.bin .Mod (.nm 2) (.ci 8))),
  .asg 4 (.bin .Add (.ci 1) (.bin .Mod (.bin .FloorDiv (.nm 2) (.ci 8)) (.ci 3))),
  .ife (.cmp .Eq (.bin .Mod (.bin .FloorDiv (.nm 2) (.ci 24)) (.ci 8)) (.ci 1)) [.asg 4 (.bin .Add (.ci 1) (.bin .Mod (.bin .FloorDiv (.nm 2) (.ci 192)) (.ci 6)))] [],
  .asg 5 (.bin .Add (.ci 1) (.bin .Mod (.call "_law_mixed" [(.nm 0), (.ci 1)]) (.nm 1))),
  .ife (.bop .And [(.cmp .Gt (.nm 3) (.ci 3)), (.cmp .Lt (.nm 1) (.ci 8))]) [.asg 5 (.call "min" [(.nm 5), (.ci 4)])] [],
  .asg 6 (.comp 1 (.call "_law_part" [(.call "_law_mixed" [(.nm 0), (.bin .Add (.ci 2) (.nm 7))]), (.bin .Add (.nm 4) (.nm 7))]) (.call "range" [(.nm 5)]) []),
  .ret (.tup [(.nm 3), (.nm 4), (.nm 6)])]
section
variable {C : Cx} {H : MH} {Q : V -> MH -> Prop} {X : XP} {n : Nat} {c lines : Int}
theorem itq_rng {d : Md} {a b : Int} (hq : d.q = true) (ha : -1000000 <= a) (ha' : a <= 1000000) (hb : -1000000 <= b) (hb' : b <= 1000000) : Itq d (.rng a b 1) :=
 ⟨.inl hq, fun zz zz zz e => by cases e; exact small_one (by (clear ha' hb hb'; omega)) (by (clear ha hb hb'; omega)) (by (clear ha ha' hb'; omega)) (by (clear ha ha' hb; omega))⟩
theorem part_ct {vs : Vs} (G : C.Good) (S : Std C) (D : Def C "_law_part" vs 2 law_part_b) (hv : vs.length = 6) (hc : 0 <= c) (hl : 1 <= lines) (K : ∀ (p : Pt) H', p.ok lines.toNat -> Ext H H' -> Q p.v H') :
  CallW C ⟨n + 1, true⟩ "_law_part" [.int c, .int lines] H Q X := by
 have hz : 1000 < sizeLine := by decide
 refine D.call G rfl ?_
 rw [hv]
 unfold law_part_b
 refine SS_asg (E_sub (E_lst (Es_cons (E_cs (Es_cons (E_cs (Es_cons (E_cs (Es_cons (E_cs (Es_nil ?_)))))))))))
 refine ⟨by decide, fun t0 ht0 => ?_⟩
 refine c_bin_nc rfl ?_
 refine bin_modp (by decide) ?_
 have hw : ∃ w : Wd, ∀ (Q : V -> MH -> Prop), Q (.str (Str.ofString w.name)) (upd H t0 (.lst [V.str (Str.ofString "sum"), .str (Str.ofString "stop"), .str (Str.ofString "pick"), .str (Str.ofString "not")])) -> SubW C ⟨n, true⟩ (.ref t0) (.int (c % 4)) (upd H t0 (.lst [V.str (Str.ofString "sum"), .str (Str.ofString "stop"), .str (Str.ofString "pick"), .str (Str.ofString "not")])) Q (fun c H1 => X c H1) := by
  have h4 : c % 4 = ((0 : Nat) : Int) ∨ c % 4 = ((1 : Nat) : Int) ∨ c % 4 = ((2 : Nat) : Int) ∨ c % 4 = ((3 : Nat) : Int) := by (clear hv hc hl hz; omega)
  rcases h4 with h | h | h | h <;> rw [h]
  ·exact ⟨.sum, fun Q q => sub_listn items_new (by decide) rfl q⟩
  ·exact ⟨.stop, fun Q q => sub_listn items_new (by decide) rfl q⟩
  ·exact ⟨.pick, fun Q q => sub_listn items_new (by decide) rfl q⟩
  ·exact ⟨.nt, fun Q q => sub_listn items_new (by decide) rfl q⟩
 refine Vc.xa_1_1 hw fun w hw => ?_
 refine hw _ ?_
 clear hw
 have x1 := Ext.new (o := .lst [V.str (Str.ofString "sum"), .str (Str.ofString "stop"), .str (Str.ofString "pick"), .str (Str.ofString "not")]) ht0
 generalize upd H t0 (.lst [V.str (Str.ofString "sum"), .str (Str.ofString "stop"), .str (Str.ofString "pick"), .str (Str.ofString "not")]) = H1 at x1 ⊢
 clear ht0
 refine SS_asg (E_lst (Es_nil ?_))
 refine ⟨by decide, fun t ht => ?_⟩
 have ht' := x1.gone ht
 have x2 := x1.more (o := .lst []) ht
 have t2 := upd_self H1 t (.lst [])
 generalize upd H1 t (.lst []) = H2 at x2 t2 ⊢
 clear x1 ht
 refine SS_for ?_
 refine E_call (Std.n_range (by assumption)) callee_type (Es_cons (E_sub (E_dct (c_esc (c_esc (c_esc (c_esc1 ?_)))))))
 refine ⟨rfl, by decide, by decide +kernel, fun g hg => ?_⟩
 refine E_nm rfl ?_
 refine sub_dcs (upd_self ..) (x := .int w.ar) ?_ ?_
 ·cases w <;> rfl
 have x3 := x2.more (o := .dcs ((["sum", "stop", "pick", "not"].map Str.ofString).zip [V.int 2, .int 2, .int 3, .int 1])) hg
 have t3 := Ext.new (o := .dcs ((["sum", "stop", "pick", "not"].map Str.ofString).zip [V.int 2, .int 2, .int 3, .int 1])) hg t _ t2
 generalize upd H2 g _ = H3 at x3 t3 ⊢
 clear x2 t2 hg
 refine Es_nil ?_
 refine cv_range1 ?_
 have har : w.ar <= 3 := by cases w <;> decide
 refine ⟨_, itq_rng rfl (by (clear hv hc hl hz hw har; omega)) (by (clear hv hc hl hz hw har; omega)) (by (clear hv hc hl hz hw har; omega)) (by (clear hv hc hl hz hw; omega)), rfl, ?_⟩
 refine for_inv (P := fun i ρ H' => ∃ kk nn, ∃ ls : List Nat, ρ = [some (.int c), some (.int lines), some (.str (Str.ofString w.name)), some (.ref t), kk, nn] /\ H' t = some (.lst (ls.map fun (l : Nat) => V.int l)) /\ Ext H H' /\ ls.length = i /\ ∀ l ∈ ls, l < lines.toNat)
  (Vc.xi_3_5 none none ([]) rfl t3 x3 rfl (by simp)) (fun i x ρ H' R hP hx hR => ?_) fun ρ H' hP => ⟨rfl, ?_⟩
 ·refine Vc.xa_3_5 hP fun kk nn ls hr106_3 ht hx' hi hls => ?_
  try clear hP
  subst hr106_3
  refine Vc.xa_0_2 (rng_get hx) fun hr107_0 hi' => ?_
  subst hr107_0
  refine ⟨rfl, _, rfl, ?_⟩
  refine SS_asg (E_bin (c_bin_nc rfl ?_))
  refine bin_divp (by decide) (by decide) ?_
  refine E_sub (E_lst (c_esc (c_esc (c_esc1 ?_))))
  refine ⟨by decide, fun u hu => ?_⟩
  refine E_nm rfl ?_
  have hs : ∃ m : Int, 0 < m /\ m < 100 /\ ([V.int 1, .int 7, .int 49])[i]? = some (.int m) := by
   have : i = 0 ∨ i = 1 ∨ i = 2 := by (clear hv hc hl hz hw hi; omega)
   rcases this with rfl | rfl | rfl
   ·exact ⟨1, by decide, by decide, rfl⟩
   ·exact ⟨7, by decide, by decide, rfl⟩
   ·exact ⟨49, by decide, by decide, rfl⟩
  refine Vc.xa_1_3 hs fun m hm hm' hms => ?_
  try clear hs
  rw [Int.zero_add]
  refine sub_listn (i := i) items_new (by decide) hms (bin_divp hm (by (clear hv hc hl hz hw har hi hi' hm; omega)) ?_)
  generalize hnear : c / 4 / m = near
  have hn0 : 0 <= near := by rw [<- hnear]; exact Int.ediv_nonneg (Int.ediv_nonneg hc (by decide)) (by (clear hv hc hl hz hw har hi hi' hm' hnear; omega))
  have tu := Ext.ne ht hu
  have ht1 : upd H' u (.lst [V.int 1, .int 7, .int 49]) t = some (.lst (ls.map fun (l : Nat) => V.int l)) := (upd_ne tu).trans ht
  have x4 : Ext H (upd H' u (.lst [V.int 1, .int 7, .int 49])) := hx'.more hu
  generalize upd H' u (.lst [V.int 1, .int 7, .int 49]) = H4 at ht1 x4 ⊢
  have done : ∀ (e : Int), 0 <= e -> e < lines -> R [some (.int c), some (.int lines), some (.str (Str.ofString w.name)), some (.ref t), some (.int i), some (.int near)] (upd H4 t (.lst ((ls.map fun (l : Nat) => V.int l) ++ [.int e]))) := by
   intro e he he'
   refine hR _ _ (Vc.xi_3_5 _ _ (ls ++ [e.toNat]) rfl ?_ (x4.mut ht') (by simp [hi]) (fun l hl' => ?_))
   ·rw [upd_self, List.map_append]; simp only [List.map_cons, List.map_nil, Int.toNat_of_nonneg he]
   ·rcases List.mem_append.mp hl' with h | h
    ·exact hls l h
    ·simp only [List.mem_singleton] at h; (clear hv hc hl hz hw har hi hi' hm hm' hnear hn0 tu; omega)
  have hlen : (ls.map fun (l : Nat) => V.int l).length <= sizeLine := by simp; (clear hv hc hl hw hm hm' hnear hn0 tu; omega)
  refine SS_ife (c_tcmp (c_bin_nc rfl ?_))
  refine bin_modp (by decide) ?_
  refine E_ci (cmp_eq_int (tru_bool ?_))
  split
  ·refine SS_app1 (SS_exp (E_meth (E_nm rfl ?_)))
   refine ⟨_, mget_append ht1, callee_builtin, ?_⟩
   refine Es_cons (E_bin (c_bin_nc rfl (bin_sub (E_bin (c_bin_nc rfl ?_)))))
   refine bin_divp (by decide) (by decide) ?_
   refine E_call (Std.n_min (by assumption)) callee_builtin (c_ess rfl (c_esc1 ?_))
   refine cv_min rfl (bin_modp (by (clear hv hc hz hw har hi hi' hm hm' hnear hn0 tu hlen; omega)) ?_)
   have h1 : 0 <= near / 2 % min lines 3 := Int.emod_nonneg _ (by (clear hv hc hz hw har hi hi' hm hm' hnear hn0 tu hlen; omega))
   have h2 : near / 2 % min lines 3 < min lines 3 := Int.emod_lt_of_pos _ (by (clear hv hc hz hw har hi hi' hm hm' hnear hn0 tu hlen h1; omega))
   refine bin_sub (Es_nil ?_)
   refine cv_append ht1 hlen (SS_nil ?_)
   exact done _ (by (clear hv hc hl hz hw har hi hi' hm hm' hnear hn0 tu hlen h1; omega)) (by (clear hv hc hl hz hw har hi hi' hm hm' hnear hn0 tu hlen h2; omega))
  ·refine SS_app1 (SS_exp (E_meth (E_nm rfl ?_)))
   refine ⟨_, mget_append ht1, callee_builtin, ?_⟩
   refine Es_cons (E_bin (c_bin_nc rfl ?_))
   refine bin_divp (by decide) (by decide) ?_
   refine E_nm rfl ?_
   refine bin_modp (by (clear hv hc hz hw har hi hi' hm hm' hnear hn0 tu hlen; omega)) ?_
   have h1 : 0 <= near / 2 % lines := Int.emod_nonneg _ (by (clear hv hc hz hw har hi hi' hm hm' hnear hn0 tu hlen; omega))
   have h2 : near / 2 % lines < lines := Int.emod_lt_of_pos _ (by (clear hv hc hz hw har hi hi' hm hm' hnear hn0 tu hlen h1; omega))
   refine Es_nil ?_
   refine cv_append ht1 hlen (SS_nil ?_)
   exact done _ (by (clear hv hc hl hz hw har hi hi' hm hm' hnear hn0 tu hlen h2; omega)) (by (clear hv hc hl hz hw har hi hi' hm hm' hnear hn0 tu hlen h1; omega))
 rw [rng_len] at hP
 refine Vc.xa_3_5 hP fun kk nn ls hr164_3 ht hx hi hls => ?_
 try clear hP
 subst hr164_3
 refine SS_ret (E_call (Std.n_tuple (by assumption)) callee_type (Es_cons (E_bin (E_lst (c_es1 rfl ?_)))))
 refine ⟨by simp; (clear hv hc hl hw har hi; omega), fun u hu => ?_⟩
 refine E_nm rfl ?_
 refine bin_cat items_new ((Ext.new hu).items (items_lst ht)) (by simp; (clear hv hc hl hw; omega)) fun v hv => ?_
 refine Es_nil ?_
 refine cv_tuple items_new (by simp; (clear hc hl hw; omega)) ?_
 exact K ⟨w, ls⟩ _ ⟨show ls.length = w.ar by (clear hc hl hz hw har; omega), hls⟩ ((hx.more hu).more hv)
structure Wk where
 ring : Int
 inp : Nat
 ps : List Pt
structure Wk.Ok (w : Wk) (most : Nat) : Prop where
 r1 : 2 <= w.ring
 r2 : w.ring <= 5
 i1 : 1 <= w.inp
 i2 : w.inp <= 6
 p1 : 1 <= w.ps.length
 p2 : w.ps.length <= most
 pt : ∀ (k : Nat) (p : Pt), w.ps[k]? = some p -> p.ok (w.inp + k)
 few : 3 < w.ring -> most < 8 -> w.ps.length <= 4
noncomputable def Wk.v (w : Wk) (pa : Addr) : V := .tup [.int w.ring, .int w.inp, .ref pa]
noncomputable def inpOf (ns : List Int) : Nat := if mixed ns 0 / 24 % 8 = 1 then (1 + mixed ns 0 / 192 % 6).toNat else (1 + mixed ns 0 / 8 % 3).toNat
theorem work_cti {vs : Vs} {a : Addr} {ns : List Int} {most : Nat} (G : C.Good) (S : Std C) (Dc : Def C "_law_cell" law_cell_vs 2 law_cell_b) (Dm : Def C "_law_mixed" law_mixed_vs 2 law_mixed_b) (Dp : Def C "_law_part" vs 2 law_part_b) (hv : vs.length = 6)
  (D : Def C "_law_work" law_work_vs 2 law_work_b) (ha : H a = some (.fro (ns.map .int))) (hl : ns.length <= 63) (hm : 1 <= most) (hm' : most <= 100)
  (K : ∀ (w : Wk) pa H', w.Ok most -> w.inp = inpOf ns -> Ext H H' -> H pa = none -> H' pa = some (.lst (w.ps.map Pt.v)) -> Q (w.v pa) H') : CallW C ⟨n + 3, true⟩ "_law_work" [.ref a, .int most] H Q X := by
 have hz : 1000 < sizeLine := by decide
 refine D.call G rfl ?_
 unfold law_work_b
 refine SS_asg ?_
 refine E_fn Dm.fn ?_
 refine c_ess rfl (c_esc1 ?_)
 refine mixed_ct G Dc Dm ha hl (by decide) fun H1 x1 => ?_
 obtain ⟨f0, hf0⟩ : ∃ f0, f0 = mixed ns 0 := ⟨_, rfl⟩
 rw [<- hf0]
 refine SS_asg (E_sub (E_lst (c_esc (c_esc (c_esc (c_esc (c_esc (c_esc (c_esc (c_esc1 ?_))))))))))
 refine ⟨by decide, fun t ht => ?_⟩
 refine c_bin_nc rfl ?_
 refine bin_modp (by decide) ?_
 have hring : ∃ r : Int, 2 <= r /\ r <= 5 /\ ([V.int 2, .int 2, .int 3, .int 2, .int 3, .int 4, .int 5, .int 2])[(f0 % 8).toNat]? = some (.int r) := by
  have h8 : (f0 % 8).toNat = 0 ∨ (f0 % 8).toNat = 1 ∨ (f0 % 8).toNat = 2 ∨ (f0 % 8).toNat = 3 ∨ (f0 % 8).toNat = 4 ∨ (f0 % 8).toNat = 5 ∨ (f0 % 8).toNat = 6 ∨ (f0 % 8).toNat = 7 := lt8 _ (by (clear hv hl hm hm' hz hf0; omega))
  rcases h8 with h | h | h | h | h | h | h | h <;> rw [h]
  ·exact ⟨2, by decide, by decide, rfl⟩
  ·exact ⟨2, by decide, by decide, rfl⟩
  ·exact ⟨3, by decide, by decide, rfl⟩
  ·exact ⟨2, by decide, by decide, rfl⟩
  ·exact ⟨3, by decide, by decide, rfl⟩
  ·exact ⟨4, by decide, by decide, rfl⟩
  ·exact ⟨5, by decide, by decide, rfl⟩
  ·exact ⟨2, by decide, by decide, rfl⟩
 refine Vc.xa_1_3 hring fun r hr1 hr2 hr => ?_
 try clear hring
 rw [show f0 % 8 = (((f0 % 8).toNat : Nat) : Int) by (clear hv hl hm hm' hz hf0 hr1 hr2; omega)]
 refine sub_listn items_new (by decide) hr ?_
 have x2 := x1.more (o := .lst [V.int 2, .int 2, .int 3, .int 2, .int 3, .int 4, .int 5, .int 2]) ht
 generalize upd H1 t (.lst [V.int 2, .int 2, .int 3, .int 2, .int 3, .int 4, .int 5, .int 2]) = H2 at x2 ⊢
 clear x1 ht hr
 refine SS_asg (E_bin (E_ci (E_bin (c_bin_nc rfl ?_))))
 refine bin_divp (by decide) (by decide) ?_
 refine E_ci ?_
 refine bin_modp (by decide) ?_
 refine bin_add ?_
 refine SS_join (J := fun ρ' H' => ∃ inp : Nat, 1 <= inp /\ inp <= 6 /\ inp = inpOf ns /\ ρ' = [some (.ref a), some (.int most), some (.int f0), some (.int r), some (.int inp), none, none] /\ H' = H2) (fun ρ' H' hJ => ?_) fun R hR => ?_
 rotate_left
 ·refine c_tcmp (E_bin (c_bin_nc rfl ?_))
  refine bin_divp (by decide) (by decide) ?_
  refine E_ci ?_
  refine bin_modp (by decide) ?_
  refine E_ci (cmp_eq_int (tru_bool ?_))
  split
  ·rename_i hsp
   refine SS_asg (E_bin (E_ci (E_bin (c_bin_nc rfl ?_))))
   refine bin_divp (by decide) (by decide) ?_
   refine E_ci ?_
   refine bin_modp (by decide) ?_
   refine bin_add ?_
   refine SS_nil (hR _ _ ⟨(1 + f0 / 192 % 6).toNat, by (clear hv hl hm hm' hz hf0 hr1 hr2; omega), by (clear hv hl hm hm' hz hf0 hr1 hr2; omega), by unfold inpOf; rw [<- hf0, if_pos (of_decide_eq_true hsp)], ?_, rfl⟩)
   rw [Int.toNat_of_nonneg (by (clear hv hl hm hm' hz hf0 hr1 hr2; omega))]; rfl
  ·rename_i hsp
   refine SS_nil (hR _ _ ⟨(1 + f0 / 8 % 3).toNat, by (clear hv hl hm hm' hz hf0 hr1 hr2 hsp; omega), by (clear hv hl hm hm' hz hf0 hr1 hr2 hsp; omega), by unfold inpOf; rw [<- hf0, if_neg fun z => hsp (decide_eq_true z)], ?_, rfl⟩)
   rw [Int.toNat_of_nonneg (by (clear hv hl hm hm' hz hf0 hr1 hr2 hsp; omega))]; rfl
 refine Vc.xa_1_5 hJ fun inp hi1 hi2 hinp hr248_4 hr248_5 => ?_
 try clear hJ
 subst hr248_4
 subst hr248_5
 have a2 := x2 _ _ ha
 refine SS_asg (E_bin (E_ci (E_bin ?_)))
 refine E_fn Dm.fn ?_
 refine c_ess rfl (c_esc1 ?_)
 refine mixed_ct G Dc Dm a2 hl (by decide) fun H3 x3 => ?_
 refine E_nm rfl ?_
 refine bin_modp (by (clear hv hl hm' hz hf0 hr1 hr2 hi1 hi2 hinp; omega)) ?_
 refine bin_add ?_
 have hmany : 1 <= 1 + mixed ns 1 % most /\ 1 + mixed ns 1 % most <= most := by
  have h1 := Int.emod_nonneg (mixed ns 1) (show (most : Int) ≠ 0 by (clear hv hl hm' hz hf0 hr1 hr2 hi1 hi2 hinp; omega))
  have h2 := Int.emod_lt_of_pos (mixed ns 1) (show 0 < (most : Int) by (clear hv hl hm' hz hf0 hr1 hr2 hi1 hi2 hinp h1; omega))
  (clear hv hl hm hm' hz hf0 hr1 hr2 hi1 hi2 hinp; omega)
 generalize 1 + mixed ns 1 % most = many at hmany ⊢
 refine SS_join (J := fun ρ' H' => ∃ many : Nat, 1 <= many /\ many <= most /\ (3 < r -> most < 8 -> many <= 4) /\ ρ' = [some (.ref a), some (.int most), some (.int f0), some (.int r), some (.int inp), some (.int many), none] /\ H' = H3) (fun ρ' H' hJ => ?_) fun R hR => ?_
 rotate_left
 ·have h0 : ¬ (3 < r /\ (most : Int) < 8) -> R [some (.ref a), some (.int most), some (.int f0), some (.int r), some (.int inp), some (.int many), none] H3 := fun hn => hR _ _ ⟨many.toNat, by (clear hv hl hm hm' hz hf0 hr1 hr2 hi1 hi2 hinp hn; omega), by (clear hv hl hm hm' hz hf0 hr1 hr2 hi1 hi2 hinp hn; omega), fun u v => absurd ⟨u, by (clear hv hl hm hm' hz hf0 hr1 hr2 hi1 hi2 hinp hmany hn u; omega)⟩ hn, by rw [Int.toNat_of_nonneg (by (clear hv hl hm hm' hz hf0 hr1 hr2 hi1 hi2 hinp hn; omega))], rfl⟩
  refine T_bop (A_and (c_tcmp_nc rfl (cmp_gt (tru_bool ?_))))
  split
  ·rename_i c1
   refine A_and (c_tcmp_nc rfl (cmp_lt (tru_bool ?_)))
   split
   ·rename_i c2
    refine A_nil_and (if_t (SS_asg (E_call (Std.n_min (by assumption)) callee_builtin (c_ess rfl (c_esc1 ?_)))))
    refine cv_min rfl (SS_nil (hR _ _ ⟨(min many 4).toNat, by (clear hv hl hm hm' hz hf0 hr1 hr2 hi1 hi2 hinp; omega), by (clear hv hl hm hm' hz hf0 hr1 hr2 hi1 hi2 hinp; omega), fun zz zz => by (clear hv hl hm hm' hz hf0 hr1 hr2 hi1 hi2 hinp hmany; omega), ?_, rfl⟩))
    rw [Int.toNat_of_nonneg (by (clear hv hl hm hm' hz hf0 hr1 hr2 hi1 hi2 hinp; omega))]; rfl
   ·rename_i c2
    refine if_f ?_
    refine SS_nil ?_
    exact h0 fun u => c2 (by simpa using u.2)
  ·rename_i c1
   refine if_f ?_
   refine SS_nil ?_
   exact h0 fun u => c1 (by simpa using u.1)
 clear many hmany
 refine Vc.xa_1_5 hJ fun many hmany1 hmany2 hfew hr283_4 hr283_5 => ?_
 try clear hJ
 subst hr283_4
 subst hr283_5
 have a3 := x3 _ _ a2
 have x13 := x2.trans x3
 refine SS_asg (E_comp ?_)
 refine E_call (Std.n_range (by assumption)) callee_type (c_es1 rfl ?_)
 refine cv_range1 ?_
 refine ⟨_, itq_rng rfl (by (clear hv hl hm hm' hz hf0 hr1 hr2 hi1 hi2 hinp hmany1 hmany2; omega)) (by (clear hv hl hm hm' hz hf0 hr1 hr2 hi1 hi2 hinp hmany1 hmany2; omega)) (by (clear hv hl hm hm' hz hf0 hr1 hr2 hi1 hi2 hinp hmany1 hmany2; omega)) (by (clear hv hl hm hz hf0 hr1 hr2 hi1 hi2 hinp hmany1; omega)), rfl, by rw [rng_len]; (clear hv hl hm hf0 hr1 hr2 hi1 hi2 hinp hmany1; omega), ?_⟩
 refine comp_inv (P := fun i acc H' => ∃ ps : List Pt, acc = ps.map Pt.v /\ ps.length = i /\ (∀ (k : Nat) (p : Pt), ps[k]? = some p -> p.ok (inp + k)) /\ Ext H H')
  ⟨[], rfl, rfl, by simp, x13⟩ (fun i x acc H' R hP hx hR => ?_) fun acc H' hP => ⟨rfl, ?_⟩
 ·refine Vc.xa_1_4 hP fun ps hr292_1 hi hps hx' => ?_
  try clear hP
  subst hr292_1
  refine Vc.xa_0_2 (rng_get hx) fun hr293_0 hi' => ?_
  subst hr293_0
  refine ⟨rfl, _, rfl, ?_⟩
  refine Ts_nil (if_t ?_)
  refine E_fn Dp.fn ?_
  refine Es_cons ?_
  refine E_fn Dm.fn ?_
  refine c_ess rfl (Es_cons (E_bin (E_ci (E_nm rfl (bin_add (Es_nil ?_))))))
  refine mixed_ct G Dc Dm (hx' _ _ ha) hl (by (clear hv hl hm hm' hz hf0 hr1 hr2 hi1 hi2 hinp hmany1 hmany2 hi hi'; omega)) fun H5 x5 => ?_
  refine Es_cons (c_bin_nn rfl rfl (bin_add (Es_nil ?_)))
  refine part_ct G S Dp hv (mixed_ge _ _) (by (clear hv hl hm hm' hz hf0 hr1 hr2 hi2 hinp hmany1 hmany2 hi hi'; omega)) fun p H6 hp x6 => ?_
  refine hR _ _ ⟨ps ++ [p], by simp, by simp [hi], fun k p' hk => ?_, (hx'.trans x5).trans x6⟩
  rcases Nat.lt_or_ge k ps.length with h | h
  ·rw [List.getElem?_append_left h] at hk; exact hps k p' hk
  ·rw [List.getElem?_append_right h] at hk
   have : k - ps.length = 0 := by
    rcases Nat.eq_zero_or_pos (k - ps.length) with h0 | h0
    ·exact h0
    ·rw [List.getElem?_eq_none (by simp; (clear hv hl hm hm' hz hf0 hr1 hr2 hi1 hi2 hinp hmany1 hmany2 hi hi' h; omega))] at hk; cases hk
   rw [this] at hk; cases hk
   have e : ((inp : Int) + (0 + (i : Int))).toNat = inp + k := by (clear hv hl hm hm' hz hf0 hr1 hr2 hi1 hi2 hinp hmany1 hmany2 hi'; omega)
   rw [e] at hp; exact hp
 rw [rng_len] at hP
 refine Vc.xa_1_4 hP fun ps hr315_1 hi hps hx => ?_
 try clear hP
 subst hr315_1
 refine ⟨by simp; (clear hv hl hm hf0 hr1 hr2 hi1 hi2 hinp hmany1; omega), fun pa hpa => ?_⟩
 refine SS_ret (E_tup (c_es3 rfl rfl rfl ?_))
 refine ⟨show 3 <= sizeLine by decide, ?_⟩
 exact K ⟨r, inp, ps⟩ pa _ ⟨hr1, hr2, hi1, hi2, by show 1 <= ps.length; (clear hv hl hm hm' hz hf0 hr1 hr2 hi1 hi2 hinp hmany2; omega), by show ps.length <= most; (clear hv hl hm hm' hz hf0 hr1 hr2 hi1 hi2 hinp hmany1; omega), hps, fun u v => by have := hfew u v; show ps.length <= 4; (clear hv hl hm hm' hz hf0 hr1 hr2 hi1 hi2 hinp hmany1 hmany2 u v; omega)⟩ hinp (hx.more hpa) (hx.gone hpa) (upd_self ..)
end
end Vc
end
section
namespace Vc
open PySem PyProof.Rows
noncomputable def chs (w : Wk) (ey : Int -> Option Int) (fr : Nat -> Bool) (p : Pt) (k : Nat) (ds : List Int) : List Int :=
 (if fr k = true then (List.range w.ring.toNat).map (fun (d : Nat) => (d : Int)) else [given p ds w.ring]).filter fun d => (ey ((w.inp : Int) + (k : Int))).getD d == d
noncomputable def rows (w : Wk) (ey : Int -> Option Int) (fr : Nat -> Bool) : List Pt -> Nat -> List Int -> List (List Int)
 | [], _, ds => [ds]
 | p :: ps, k, ds => (chs w ey fr p k ds).flatMap fun d => rows w ey fr ps (k + 1) (ds ++ [d])
structure Tak (w : Wk) (fr : Nat -> Bool) (tk : List (List Int)) : Prop where
 len : tk.length = w.ps.length + 1
 ge : ∀ k, ∀ l ∈ tk.getD k [], 0 <= l
 sub : ∀ k, k < w.ps.length -> ∀ l ∈ tk.getD (k + 1) [], l ∈ tk.getD k []
 own : ∀ (k : Nat) (p : Pt), w.ps[k]? = some p -> fr k = false -> ∀ l : Nat, l ∈ p.ls -> (l : Int) ∈ tk.getD k []
section
variable {w : Wk} {ey : Int -> Option Int} {fr : Nat -> Bool} {tk : List (List Int)}
theorem given_agr {p : Pt} {a b : List Int} {r : Int} (hp : p.ls.length = p.w.ar) (h : ∀ l ∈ p.ls, a.getD l 0 = b.getD l 0) : given p a r = given p b r := by
 obtain ⟨w, ls⟩ := p
 have hl : ls.length = w.ar := hp
 have key : ∀ i, i < ls.length -> a.getD (ls.getD i 0) 0 = b.getD (ls.getD i 0) 0 := fun i hi => by
  refine h _ ?_
  rw [List.getD_eq_getElem?_getD, List.getElem?_eq_getElem hi]
  exact List.getElem_mem hi
 cases w <;> simp only [given, Wd.ar] at hl ⊢
 ·rw [key 0 (by (clear hp; omega)), key 1 (by (clear hp; omega))]
 ·rw [key 0 (by (clear hp; omega)), key 1 (by (clear hp; omega))]
 ·rw [key 0 (by (clear hp; omega)), key 1 (by (clear hp; omega)), key 2 (by (clear hp; omega))]
 ·rw [key 0 (by (clear hp; omega))]
noncomputable def Agr (ls : List Int) (a b : List Int) : Prop := a.length = b.length /\ ∀ l : Int, l ∈ ls -> l < a.length -> a.getD l.toNat 0 = b.getD l.toNat 0
theorem getD_snoc_lt {a : List Int} {d : Int} {i : Nat} (h : i < a.length) : (a ++ [d]).getD i 0 = a.getD i 0 := by
 rw [List.getD_eq_getElem?_getD, List.getD_eq_getElem?_getD, List.getElem?_append_left h]
theorem rows_agr (T : Tak w fr tk) (hw : ∀ (k : Nat) (p : Pt), w.ps[k]? = some p -> p.ok (w.inp + k)) : ∀ (rest : List Pt) (k : Nat), rest = w.ps.drop k -> ∀ a b : List Int, a.length = w.inp + k -> Agr (tk.getD k []) a b -> (rows w ey fr rest k a = [] ↔ rows w ey fr rest k b = [])
 | [], k, _, a, b, _, _ => by simp [rows]
 | p :: rest, k, hr, a, b, ha, hab => by
  have hk : w.ps[k]? = some p := by rw [<- List.head?_drop, <- hr]; rfl
  have hlt : k < w.ps.length := (List.getElem?_eq_some_iff.mp hk).1
  have hr' : rest = w.ps.drop (k + 1) := by rw [<- List.tail_drop, <- hr]; rfl
  have hc : chs w ey fr p k a = chs w ey fr p k b := by
   unfold chs
   cases q : fr k with
   | true => simp only [if_true]
   | false =>
    simp only [Bool.false_eq_true, if_false]
    have : given p a w.ring = given p b w.ring := given_agr (hw k p hk).1 fun l hl => by
     have := hab.2 l (T.own k p hk q l hl) (by have := (hw k p hk).2 l hl; (clear hlt; omega))
     simpa using this
    rw [this]
  simp only [rows, List.flatMap_eq_nil_iff]
  rw [hc]
  refine forall_congr' fun d => imp_congr_right fun zz => ?_
  refine rows_agr T hw rest (k + 1) hr' _ _ (by simp; (clear hlt; omega)) ⟨by simp [hab.1], fun l hl hlt' => ?_⟩
  have h0 := T.ge _ _ hl
  simp at hlt'
  rcases Nat.lt_or_ge l.toNat a.length with h | h
  ·rw [getD_snoc_lt h, getD_snoc_lt (by rw [<- hab.1]; exact h)]
   exact hab.2 l (T.sub k hlt l hl) (by (clear ha hlt h0 hlt'; omega))
  ·have e : l.toNat = a.length := by (clear ha hlt h0; omega)
   rw [e, List.getD_eq_getElem?_getD, List.getD_eq_getElem?_getD, List.getElem?_append_right (Nat.le_refl _), List.getElem?_append_right (by rw [hab.1]; exact Nat.le_refl _), hab.1]
noncomputable def keyOf (tk : List (List Int)) (k : Nat) (ds : List Int) : Int × List Int := (k, ((tk.getD k []).filter fun (l : Int) => decide (l < (ds.length : Int))).map fun (l : Int) => ds.getD l.toNat 0)
theorem key_agr {k : Nat} {a b : List Int} (h : a.length = b.length) (e : keyOf tk k a = keyOf tk k b) : Agr (tk.getD k []) a b := by
 refine ⟨h, fun l hl hlt => ?_⟩
 unfold keyOf at e
 rw [<- h] at e
 have e2 := (Prod.ext_iff.mp e).2
 dsimp only at e2
 have := List.map_inj_left.mp e2 l (List.mem_filter.mpr ⟨hl, by simpa using hlt⟩)
 exact this
noncomputable def Dead (w : Wk) (ey : Int -> Option Int) (fr : Nat -> Bool) (tk : List (List Int)) (ks : List (Int × List Int)) : Prop :=
 ∀ k : Nat, ∀ ds : List Int, k <= w.ps.length -> ds.length = w.inp + k -> keyOf tk k ds ∈ ks -> rows w ey fr (w.ps.drop k) k ds = []
theorem Dead.add (T : Tak w fr tk) (hw : ∀ (k : Nat) (p : Pt), w.ps[k]? = some p -> p.ok (w.inp + k)) {ks ks' : List (Int × List Int)} {k : Nat} {ds : List Int} (h : Dead w ey fr tk ks) (hl : ds.length = w.inp + k) (hd : rows w ey fr (w.ps.drop k) k ds = [])
  (hk : ∀ x, x ∈ ks' ↔ x ∈ ks ∨ x = keyOf tk k ds) : Dead w ey fr tk ks' := fun k' ds' hk' hl' hm => by
 rcases (hk _).mp hm with q | q
 ·exact h k' ds' hk' hl' q
 ·have e : k' = k := by have := (Prod.ext_iff.mp q).1; simp [keyOf] at this; (clear hl hk' hl'; omega)
  subst e
  exact (rows_agr T hw _ k' rfl ds' ds hl' (key_agr (by (clear hk'; omega)) q)).mpr hd
end
end Vc
end
section
namespace Vc
open PySem PyProof.Rows
noncomputable def wanted_from_vs : Vs := [locv "work", locv "broken", locv "parts", locv "found", locv "at", locv "lines"]
noncomputable def wanted_from_b : List St :=
  [.asg 2 (.sub (.nm 0) (.ci 2)),
  .asg 3 (.lst [(.lst [])]),
  .for [4] (.pl (.call "range" [(.bin .Sub (.call "len" [(.nm 2)]) (.ci 1)), (.una .USub (.ci 1)), (.una .USub (.ci 1))])) [.asg 5 (.call "list" [(.sub (.nm 3) (.ci 0))]),
  .ife (.cmp .NotIn (.nm 4) (.nm 1)) [.asg 5 (.call "sorted" [(.call "set" [(.bin .Add (.nm 5) (.call "list" [(.sli (.sub (.nm 2) (.nm 4)) (.ci 1) .cn .cn)]))])])] [],
  .asg 3 (.bin .Add (.lst [(.nm 5)]) (.nm 3))],
  .ret (.nm 3)]
noncomputable def brv (br : List Nat) : V := .tup (br.map fun (b : Nat) => V.int b)
structure Tkh (H : MH) (t : Addr) (tk : List (List Int)) : Prop where
 ex : ∃ as : List Addr, H t = some (.lst (as.map .ref)) /\ as.length = tk.length /\ ∀ (i : Nat) a, as[i]? = some a -> H a = some (.lst ((tk.getD i []).map .int))
 sz : ∀ k, (tk.getD k []).length <= 100
section
variable {C : Cx} {H : MH} {Q : V -> MH -> Prop} {X : XP} {n : Nat} {d : Md}
theorem vds_br {H : MH} : ∀ br : List Nat, VDs H (br.map fun (b : Nat) => V.int b) (br.map fun (b : Nat) => PyData.int b)
 | [] => .nil
 | b :: br => .cons (.int _) (vds_br br)
theorem lay_br : ∀ br : List Nat, PyData.canLayAll0 (br.map fun (b : Nat) => PyData.int b) = true
 | [] => rfl
 | b :: br => by simp only [List.map_cons, PyData.canLayAll0, lay_br br, Bool.and_true]; rfl
theorem dep_br : ∀ br : List Nat, PyData.depthAll (br.map fun (b : Nat) => PyData.int b) = 0
 | [] => rfl
 | b :: br => by simp only [List.map_cons, PyData.depthAll, dep_br br]; rfl
theorem any_br {k : Nat} : ∀ br : List Nat, ((br.map fun (b : Nat) => PyData.int b).any fun y => PyData.eqv y (.int k)) = decide (k ∈ br)
 | [] => rfl
 | b :: br => by
  rw [List.map_cons, List.any_cons, any_br br]
  have : PyData.eqv (.int b) (.int k) = decide (k = b) := by
   rw [PyData.eqv]
   by_cases h : k = b
   ·subst h; simp
   ·rw [decide_eq_false h]; simp; omega
  rw [this]
  simp only [List.mem_cons]
  by_cases h : k = b <;> simp [h]
theorem nin_br {k : Nat} {br : List Nat} (q : Q (.bool (!decide (k ∈ br))) H) : CmpW C d .NotIn (.int k) (brv br) H Q X :=
 cmp_nin (.int _) (.tup (vds_br br)) (.inr rfl) rfl (lay_br br) (by rw [dep_br]; simp) (by rw [any_br]; exact q)
theorem in_br {k : Nat} {br : List Nat} (q : Q (.bool (decide (k ∈ br))) H) : CmpW C d .In (.int k) (brv br) H Q X :=
 cmp_in (.int _) (.tup (vds_br br)) (.inr rfl) rfl (lay_br br) (by rw [dep_br]; simp) (by rw [any_br]; exact q)
theorem rng_down {m : Nat} : rngItems ((m : Int) - 1) (-1) (-1) = (List.range m).map fun (i : Nat) => V.int ((m : Int) - 1 - (i : Int)) := by
 unfold rngItems
 have : Builtin.Range.rangeSize ((m : Int) - 1) (-1) (-1) = m := by
  unfold Builtin.Range.rangeSize
  rw [if_neg (by decide)]
  split
  ·rw [show -(-1 : Int) = 1 by rfl, Int.ediv_one]; omega
  ·omega
 rw [this, Int.toNat_natCast]
 refine List.map_congr_left fun i zz => ?_
 rw [show (m : Int) - 1 + (i : Int) * -1 = (m : Int) - 1 - (i : Int) by (clear this; omega)]
theorem small_down {m : Nat} (h : m <= 1000) : Builtin.Range.small ((m : Int) - 1) (-1) (-1) = true := by
 have : Builtin.Range.rangeSize ((m : Int) - 1) (-1) (-1) = m := by
  unfold Builtin.Range.rangeSize
  rw [if_neg (by decide)]
  split
  ·rw [show -(-1 : Int) = 1 by rfl, Int.ediv_one]; (clear h; omega)
  ·(clear h; omega)
 unfold Builtin.Range.small
 rw [this]
 simp only [Builtin.Range.rangeFitsLong, Bool.and_eq_true, Bool.or_eq_true, decide_eq_true_eq, beq_iff_eq, show ¬ ((-1 : Int) > 0) by decide, if_false]
 (clear this; omega)
structure TkF (w : Wk) (fr : Nat -> Bool) (m : Nat) (tk : List (List Int)) : Prop where
 len : tk.length + m = w.ps.length + 1
 ge : ∀ k, ∀ l ∈ tk.getD k [], 0 <= l /\ l < 16
 sub : ∀ k, m + k < w.ps.length -> ∀ l ∈ tk.getD (k + 1) [], l ∈ tk.getD k []
 own : ∀ (k : Nat) (p : Pt), w.ps[m + k]? = some p -> fr (m + k) = false -> ∀ l : Nat, l ∈ p.ls -> (l : Int) ∈ tk.getD k []
 sz : ∀ k, (tk.getD k []).length <= 100
theorem TkF.tak {w : Wk} {fr : Nat -> Bool} {tk : List (List Int)} (x : TkF w fr 0 tk) : Tak w fr tk where
 len := by have := x.len; omega
 ge := fun k l hl => (x.ge k l hl).1
 sub := fun k hk l hl => x.sub k (by omega) l hl
 own := fun k p hk hf l hl => x.own k p (by rw [Nat.zero_add]; exact hk) (by rw [Nat.zero_add]; exact hf) l hl
theorem TkF.cons {w : Wk} {fr : Nat -> Bool} {m : Nat} {tk : List (List Int)} {ks : List Int} (x : TkF w fr (m + 1) tk) (h1 : ∀ l ∈ tk.getD 0 [], l ∈ ks) (h2 : ∀ l ∈ ks, 0 <= l /\ l < 16) (h3 : ks.length <= 100)
  (h4 : ∀ p, w.ps[m]? = some p -> fr m = false -> ∀ l : Nat, l ∈ p.ls -> (l : Int) ∈ ks) : TkF w fr m (ks :: tk) where
 len := by have := x.len; simp; (clear h3; omega)
 ge := fun k => by cases k with
  | zero => exact h2
  | succ k => exact x.ge k
 sub := fun k hk => by cases k with
  | zero => exact h1
  | succ k => exact x.sub k (by (clear h3; omega))
 own := fun k p hk hf => by cases k with
  | zero => exact h4 p hk hf
  | succ k => exact x.own k p (by rw [show m + 1 + k = m + (k + 1) by (clear h3; omega)]; exact hk) (by rw [show m + 1 + k = m + (k + 1) by (clear h3; omega)]; exact hf)
 sz := fun k => by cases k with
  | zero => exact h3
  | succ k => exact x.sz k
theorem wanted_ct {w : Wk} {pa : Addr} {br : List Nat} {most : Nat} (G : C.Good) (S : Std C) (D : Def C "wanted_from" wanted_from_vs 2 wanted_from_b) (hw : w.Ok most) (hm : most <= 10) (hp : H pa = some (.lst (w.ps.map Pt.v)))
  (K : ∀ t tk H', Ext H H' -> H t = none -> Tkh H' t tk -> Tak w (fun k => decide (k ∈ br)) tk -> Q (.ref t) H') : CallW C ⟨n + 1, true⟩ "wanted_from" [w.v pa, brv br] H Q X := by
 have hz : 10000 < sizeLine := by decide
 have hi2 := hw.i2; have hp2 := hw.p2; have hp1 := hw.p1
 refine D.call G rfl ?_
 unfold wanted_from_b
 refine SS_asg (c_sub_nc rfl ?_)
 refine sub_t2 rfl ?_
 refine SS_asg (E_lst (Es_cons (E_lst (Es_nil ?_))))
 refine ⟨by decide, fun a0 ha0 => ?_⟩
 refine Es_nil ?_
 refine ⟨show 1 <= sizeLine by decide, fun f0 hf0 => ?_⟩
 have x0 : Ext H (upd (upd H a0 (.lst [])) f0 (.lst [.ref a0])) := ((Ext.refl H).more ha0).more hf0
 have f00 : H f0 = none := (Ext.new ha0).gone hf0
 have k0 : Tkh (upd (upd H a0 (.lst [])) f0 (.lst [.ref a0])) f0 [[]] := ⟨⟨[a0], upd_self .., rfl, fun i a h => by
  cases i with
  | zero => simp at h; subst h; exact (Ext.new hf0) _ _ (upd_self ..)
  | succ i => simp at h⟩, fun k => by cases k <;> simp⟩
 generalize upd (upd H a0 (.lst [])) f0 (.lst [.ref a0]) = H1 at x0 k0
 refine SS_for ?_
 refine E_call (Std.n_range (by assumption)) callee_type (Es_cons (E_bin (E_call (Std.n_len (by assumption)) callee_builtin (c_es1 rfl ?_))))
 refine cv_len_list (items_lst (x0 _ _ hp)) (by simp; (clear hi2 hp1; omega)) ?_
 refine E_ci (bin_sub (Es_cons (E_una (E_ci (una_neg (Es_cons (E_una (E_ci (una_neg (Es_nil ?_))))))))))
 rw [List.length_map]
 refine cv_range3 (by decide) (by rfl) ?_
 refine ⟨_, ⟨.inl rfl, fun zz zz zz e => by cases e; exact small_down (by (clear hz hi2 hp1; omega))⟩, by rw [itemsOf, rng_down], ?_⟩
 have t0 : TkF w (fun k => decide (k ∈ br)) w.ps.length [[]] := ⟨(by simp; (clear hm hz hi2 hp2 hp1; omega)), (fun k l hl => by cases k <;> simp at hl), (fun k hk => by (clear hm hz hi2 hp2 hp1; omega)), (fun k p hk => by rw [List.getElem?_eq_none (by (clear hm hz hi2 hp2 hp1; omega))] at hk; cases hk), (fun k => by cases k <;> simp)⟩
 refine for_inv (P := fun i ρ H' => ∃ t aa ll tk, ρ = [some (w.v pa), some (brv br), some (.ref pa), some (.ref t), aa, ll] /\ Ext H H' /\ H t = none /\ Tkh H' t tk /\ TkF w (fun k => decide (k ∈ br)) (w.ps.length - i) tk)
  (Vc.xi_4_5 f0 none none ([[]]) rfl x0 f00 k0 t0) (fun i x ρ H' R hP hx hR => ?_) fun ρ H' hP => ?_
 ·refine Vc.xa_4_5 hP fun t aa ll tk hr132_4 hx' ht hk hT => ?_
  try clear hP
  subst hr132_4
  rw [List.getElem?_map, Option.map_eq_some_iff] at hx
  refine Vc.xa_1_2 hx fun i' hi' hr134_2 => ?_
  try clear hx
  subst hr134_2
  have hi : i < w.ps.length /\ i' = i := by
   refine Vc.xa_1_1 (List.getElem?_eq_some_iff.mp hi') fun h1 h2 => ?_
   simp at h1 h2; exact ⟨h1, h2.symm⟩
  refine Vc.xa_0_2 hi fun hi hr138_1 => ?_
  subst hr138_1
  obtain ⟨m, hm1⟩ : ∃ m, w.ps.length - i' = m + 1 := ⟨w.ps.length - i' - 1, by (clear hm hz hi2 hp2 hp1 hi; omega)⟩
  rw [hm1] at hT
  have em : (w.ps.length : Int) - 1 - (i' : Int) = (m : Int) := by (clear hm hz hi2 hp2 hp1 hi; omega)
  rw [em]
  have hmp : m < w.ps.length := by (clear hm hz hi2 hp2 hp1 hi hm1; omega)
  refine Vc.xa_1_3 hk.ex fun as h1 h2 h3 => ?_
  have hlen := hT.len
  obtain ⟨a1, ha1⟩ : ∃ a1, as[0]? = some a1 := ⟨as[0]'(by (clear hm hz hi2 hp2 hp1 hi hm1 em; omega)), List.getElem?_eq_getElem _⟩
  have hb1 := h3 0 a1 ha1
  have hsz := hk.sz 0
  refine ⟨by simp only [svItems, itemsOf, rng_down], _, rfl, ?_⟩
  have tail : ∀ r ks H'', Ext H' H'' -> H'' r = some (.lst (ks.map .int)) -> TkF w (fun k => decide (k ∈ br)) m (ks :: tk) -> wpSs C ⟨n, true⟩ [.asg 3 (.bin .Add (.lst [(.nm 5)]) (.nm 3))] [some (w.v pa), some (brv br), some (.ref pa), some (.ref t), some (.int m), some (.ref r)] H''
    (fun f ρ' H' => match f with | .next => R ρ' H' | .ret v => Q v H') (fun c zz H' => X c H') := by
   intro r ks H'' y hr hT'
   refine SS_asg (E_bin (E_lst (c_es1 rfl ?_)))
   refine ⟨show 1 <= sizeLine by decide, fun g hg => ?_⟩
   refine E_nm rfl ?_
   have h1' : upd H'' g (.lst [.ref r]) t = some (.lst (as.map .ref)) := (Ext.new hg) _ _ (y _ _ h1)
   refine bin_cat items_new (items_lst h1') (by simp; (clear hi2 hp1 hi hm1 em hmp hsz; omega)) fun t' ht' => SS_nil ?_
   have z : Ext H'' (upd (upd H'' g (.lst [.ref r])) t' (.lst ([V.ref r] ++ as.map V.ref))) := ((Ext.refl _).more hg).more ht'
   refine hR _ _ (Vc.xi_4_5 t' (some (.int m)) (some (.ref r)) (ks :: tk) rfl (hx'.trans (y.trans z)) (((hx'.trans y).trans (Ext.new hg)).gone ht') (⟨⟨r :: as, upd_self .., by simp [h2], fun j a hj => ?_⟩, hT'.sz⟩) ?_)
   ·cases j with
    | zero => simp at hj; subst hj; exact z _ _ hr
    | succ j => exact z _ _ (y _ _ (h3 j a (by simpa using hj)))
   ·rw [show w.ps.length - (i' + 1) = m by (clear hm hz hi2 hp2 hp1 hi hm1 hmp h2 hlen hsz; omega)]; exact hT'
  refine SS_asg (E_call (Std.n_list (by assumption)) callee_type (Es_cons (c_sub_nc rfl ?_)))
  refine sub_listn (i := 0) (items_lst h1) (by simp; (clear hi2 hp1 hi hm1 em hmp hsz; omega)) (x := .ref a1) (by rw [List.getElem?_map, ha1]; rfl) ?_
  refine Es_nil ?_
  refine cv_list (.inl ⟨_, rfl⟩) (items_lst hb1) (by rw [List.length_map]; (clear hm hi2 hp2 hp1 hi hm1 em hmp h2 hlen; omega)) fun b hb => ?_
  refine SS_ife (c_tcmp_nn rfl rfl ?_)
  refine nin_br ?_
  refine tru_bool ?_
  have y1 : Ext H' (upd H' b (.lst ((tk.getD 0 []).map .int))) := .new hb
  have b1 : upd H' b (.lst ((tk.getD 0 []).map .int)) b = some (.lst ((tk.getD 0 []).map .int)) := upd_self ..
  generalize upd H' b (.lst ((tk.getD 0 []).map .int)) = H2 at y1 b1
  split
  ·rename_i hbr
   have hfr : decide (m ∈ br) = false := by simpa using hbr
   have hpm : w.ps[m]? = some w.ps[m] := List.getElem?_eq_getElem hmp
   refine Vc.xa_0_2 (hw.pt m _ hpm) fun q1 q2 => ?_
   have hlsl : w.ps[m].ls.length <= 3 := by rw [q1]; cases w.ps[m].w <;> decide
   refine SS_app1 (SS_asg (E_call (Std.n_sorted (by assumption)) callee_builtin (Es_cons (E_call (Std.n_set (by assumption)) callee_type (Es_cons (E_bin (E_nm rfl (E_call (Std.n_list (by assumption)) callee_type (Es_cons (E_sli (c_sub_nn rfl rfl ?_)))))))))))
   refine sub_listn (i := m) (items_lst (y1 _ _ (hx' _ _ hp))) (by simp; (clear hi2 hp1 hi hm1 em h2 hlen hsz q1 hlsl; omega)) (x := w.ps[m].v) (by rw [List.getElem?_map, hpm]; rfl) ?_
   rw [show w.ps[m].v = .tup (.str (Str.ofString w.ps[m].w.name) :: w.ps[m].ls.map fun (l : Nat) => V.int l) from rfl]
   refine E_ci (E_cn (E_cn ?_))
   refine sli_tup (lo := some 1) (hi := none) (a := 1) (b := w.ps[m].ls.length + 1) (.int _) .none (by simp [Builtin.Slice.sliceAdjust]; (clear hm hz hi2 hp2 hp1 hi hm1 em h2 hlen hsz q1 hlsl; omega)) (by simp) (by simp; (clear hm hi2 hp2 hp1 hi hm1 em h2 hlen hsz q1; omega)) ?_
   have ed : ((V.str (Str.ofString w.ps[m].w.name) :: w.ps[m].ls.map fun (l : Nat) => V.int l).drop 1).take (w.ps[m].ls.length + 1 - 1) = (w.ps[m].ls.map fun (l : Nat) => (l : Int)).map .int := by
    rw [List.drop_succ_cons, List.drop_zero, Nat.add_sub_cancel, List.map_map]; exact List.take_of_length_le (by simp)
   rw [ed]
   refine Es_nil ?_
   refine cv_list (.inr ⟨_, rfl⟩) rfl (by simp; (clear hm hi2 hp2 hp1 hi hm1 em h2 hlen hsz q1; omega)) fun c hc => ?_
   refine bin_cat (items_lst ((Ext.new hc) _ _ b1)) items_new (by rw [List.length_map]; simp only [List.length_map]; (clear hm hi2 hp2 hp1 hi hm1 em h2 hlen q1; omega)) fun e he => ?_
   rw [<- List.map_append]
   refine Es_nil ?_
   refine cv_set rfl items_new (by simp only [List.length_append, List.length_map]; have : scanBound = 4096 := rfl; (clear hm hz hi2 hp2 hp1 hi hm1 em h2 hlen q1; omega)) fun st hst => ?_
   refine Es_nil ?_
   have hin : ∀ l ∈ tk.getD 0 [] ++ w.ps[m].ls.map (fun (l : Nat) => (l : Int)), 0 <= l /\ l < 16 := fun l hl => by
    rcases List.mem_append.mp hl with h | h
    ·exact hT.ge 0 l h
    ·refine Vc.xa_1_2 (List.mem_map.mp h) fun l' h' hr199_2 => ?_
     subst hr199_2
     have := q2 l' h'; (clear hz hp1 hi hm1 em h2 hlen hsz q1 hlsl; omega)
   refine cv_sorted rfl (upd_self ..) (fun ks hn hs => Nat.lt_of_le_of_lt (nodup_bound 16 ks hn fun k hk => by have := hin k (hs k hk); (clear hm hz hi2 hp2 hp1 hi hm1 em h2 hlen hsz q1 hlsl; omega)) (by decide)) fun r ks hr hn hmem hpw => ?_
   have hk16 : ks.length <= 16 := nodup_bound 16 ks hn fun k hk => by have := hin k ((hmem k).mp hk); (clear hm hz hi2 hp2 hp1 hi hm1 em h2 hlen hsz q1 hlsl; omega)
   refine tail r ks _ (y1.trans (((((Ext.refl _).more hc).more he).more hst).more hr)) (upd_self ..) (hT.cons (fun l h => (hmem l).mpr (List.mem_append_left _ h)) (fun l h => hin l ((hmem l).mp h)) (by (clear hm hz hi2 hp2 hp1 hi hm1 em h2 hlen hsz q1 hlsl; omega)) fun p hp hf l hl => ?_)
   rw [hpm] at hp; cases hp
   exact (hmem _).mpr (List.mem_append_right _ (List.mem_map.mpr ⟨l, hl, rfl⟩))
  ·rename_i hbr
   have hfr : m ∈ br := by simpa using hbr
   refine tail b (tk.getD 0 []) _ y1 b1 (hT.cons (fun l h => h) (hT.ge 0) hsz fun p hp hf => ?_)
   rw [decide_eq_true hfr] at hf; cases hf
 ·refine Vc.xa_4_5 hP fun t aa ll tk hr210_4 hx' ht hk hT => ?_
  try clear hP
  subst hr210_4
  refine ⟨by simp only [svItems, itemsOf, rng_down], ?_⟩
  refine c_ret_n rfl ?_
  rw [List.length_map, List.length_range, Nat.sub_self] at hT
  exact K t tk H' hx' ht hk hT.tak
end
end Vc
end
section
namespace Vc
open PySem PyProof.Rows
section
variable {C : Cx} {H : MH} {Q : V -> MH -> Prop} {X : XP} {n : Nat}
noncomputable def tld (l : List (Int × Int)) : List (Int × V) := l.map fun p => (p.1, V.int p.2)
noncomputable def tget (l : List (Int × Int)) (k : Int) : Option Int := (l.find? (fun p => decide (p.1 = k))).map (·.2)
theorem dget_tld (l : List (Int × Int)) (k : Int) : dget (tld l) k = (tget l k).map .int := by
 unfold dget tld tget
 rw [List.find?_map]
 simp only [Option.map_map]
 rfl
end
end Vc
end
section
namespace Vc
open PySem PyProof.Rows
noncomputable def walk_init_vs : Vs := [locv "self", locv "work", locv "seen", locv "broken"]
noncomputable def walk_init_b : List St :=
  [.seta (.nm 0) "task" (.nm 1),
  .seta (.nm 0) "eyes" (.call "dict" [(.nm 2)]),
  .seta (.nm 0) "free" (.nm 3),
  .seta (.nm 0) "takes" (.call "wanted_from" [(.nm 1), (.nm 3)]),
  .seta (.nm 0) "dead" (.emp 2)]
noncomputable def walk_choices_vs : Vs := [celv "self", locv "at", locv "digits", locv "ring", locv "inputs", locv "parts", locv "some", celv "line"]
noncomputable def walk_choices_b : List St :=
  [.unp [3, 4, 5] (.att (.nm 0) "task"),
  .asg 6 (.call "list" [(.call "range" [(.nm 3)])]),
  .ife (.cmp .NotIn (.nm 1) (.att (.nm 0) "free")) [.asg 6 (.lst [(.call "given_of" [(.sub (.nm 5) (.nm 1)), (.nm 2), (.nm 3)])])] [],
  .asg 7 (.bin .Add (.nm 4) (.nm 1)),
  .ret (.comp 1 (.nm 8) (.nm 6) [(.cmp .Eq (.meth (.att (.nm 0) "eyes") "get" [(.nm 7), (.nm 8)]) (.nm 8))])]
noncomputable def walk_grown_vs : Vs := [locv "self", celv "digits", locv "at", locv "key", locv "digit", locv "found"]
noncomputable def walk_grown_b : List St :=
  [.asg 2 (.bin .Sub (.call "len" [(.nm 1)]) (.sub (.att (.nm 0) "task") (.ci 1))),
  .ife (.cmp .Eq (.nm 2) (.call "len" [(.sub (.att (.nm 0) "task") (.ci 2))])) [.ret (.nm 1)] [],
  .asg 3 (.tup [(.nm 2), (.call "tuple" [(.comp 1 (.sub (.nm 1) (.nm 6)) (.sub (.att (.nm 0) "takes") (.nm 2)) [(.cmp .Lt (.nm 6) (.call "len" [(.nm 1)]))])])]),
  .ife (.cmp .In (.nm 3) (.att (.nm 0) "dead")) [.ret .cn] [],
  .for [4] (.pl (.meth (.nm 0) "choices" [(.nm 2), (.nm 1)])) [.asg 5 (.meth (.nm 0) "grown" [(.bin .Add (.nm 1) (.lst [(.nm 4)]))]),
  .ife (.cmp .IsNot (.nm 5) .cn) [.ret (.nm 5)] []],
  .seti (.att (.nm 0) "dead") (.nm 3) (.cb true),
  .ret .cn]
noncomputable def IsF (C : Cx) (vs : Vs) (np : Nat) (body : List St) (f : Addr) : Prop := ∀ {n : Nat} {q : Bool} {H : MH} {Q : V -> MH -> Prop} {X : XP} {args : List V}, args.length = np -> wpSs C ⟨n, q⟩ body (args.map some ++ List.replicate (vs.length - np) none) H (fun f zz H' => match f with | .ret v => Q v H' | .next => Q .none H') (fun c zz H' => X c H') ->
   CallV C ⟨n + 1, q⟩ (.ref f) args H Q X
noncomputable def WkN (w : Wk) (pa e : Addr) (br : List Nat) (t dd : Addr) : List (String × V) := [("task", w.v pa), ("eyes", .ref e), ("free", brv br), ("takes", .ref t), ("dead", .ref dd)]
structure Wlk (H : MH) (a dx pa e t dd : Addr) (w : Wk) (br : List Nat) (es : List (Int × Int)) (tk : List (List Int)) : Prop where
 ins : H a = some (.ins "Walk" dx)
 nsd : H dx = some (.nsd (WkN w pa e br t dd))
 parts : H pa = some (.lst (w.ps.map Pt.v))
 eyes : H e = some (.dci (tld es))
 takes : Tkh H t tk
noncomputable def ExtB (dd : Addr) (H H' : MH) : Prop := ∀ b o, b ≠ dd -> H b = some o -> H' b = some o
theorem Ext.b {H H' : MH} (x : Ext H H') (dd : Addr) : ExtB dd H H' := fun b o zz e => x b o e
theorem ExtB.trans {dd : Addr} {H H' H'' : MH} (x : ExtB dd H H') (y : ExtB dd H' H'') : ExtB dd H H'' := fun b o n e => y b o n (x b o n e)
section
variable {w : Wk} {pa e t dd : Addr} {br : List Nat} {H H' : MH} {a dx : Addr} {es : List (Int × Int)} {tk : List (List Int)}
theorem nget_task : nget (WkN w pa e br t dd) "task" = some (w.v pa) := by kernel_rfl
theorem nget_eyes : nget (WkN w pa e br t dd) "eyes" = some (.ref e) := by kernel_rfl
theorem nget_free : nget (WkN w pa e br t dd) "free" = some (brv br) := by kernel_rfl
theorem nget_takes : nget (WkN w pa e br t dd) "takes" = some (.ref t) := by kernel_rfl
theorem nget_dead : nget (WkN w pa e br t dd) "dead" = some (.ref dd) := by kernel_rfl
theorem nget_choices : nget (WkN w pa e br t dd) "choices" = none := by kernel_rfl
theorem nget_grown : nget (WkN w pa e br t dd) "grown" = none := by kernel_rfl
theorem Wlk.ext {p : Pr} (x : Wlk H a dx pa e t dd w br es tk) (hd : H dd = some (.prd p)) (y : ExtB dd H H') : Wlk H' a dx pa e t dd w br es tk := by
 have ne : ∀ b o, H b = some o -> (∀ p, o ≠ .prd p) -> b ≠ dd := fun b o h q z => by rw [z, hd] at h; cases h; exact q p rfl
 obtain ⟨x1, x2, x3, x4, ⟨as, x5, x6, x7⟩, x8⟩ := x
 exact ⟨y _ _ (ne _ _ x1 fun zz => nofun) x1, y _ _ (ne _ _ x2 fun zz => nofun) x2, y _ _ (ne _ _ x3 fun zz => nofun) x3, y _ _ (ne _ _ x4 fun zz => nofun) x4, ⟨as, y _ _ (ne _ _ x5 fun zz => nofun) x5, x6, fun i a h => y _ _ (ne _ _ (x7 i a h) fun zz => nofun) (x7 i a h)⟩, x8⟩
theorem Wlk.more (x : Wlk H a dx pa e t dd w br es tk) (y : Ext H H') : Wlk H' a dx pa e t dd w br es tk := by
 obtain ⟨x1, x2, x3, x4, ⟨as, x5, x6, x7⟩, x8⟩ := x
 exact ⟨y _ _ x1, y _ _ x2, y _ _ x3, y _ _ x4, ⟨as, y _ _ x5, x6, fun i a h => y _ _ (x7 i a h)⟩, x8⟩
end
structure WkA (C : Cx) : Prop where
 task : At C "Walk" "task"
 eyes : At C "Walk" "eyes"
 free : At C "Walk" "free"
 takes : At C "Walk" "takes"
 dead : At C "Walk" "dead"
section
variable {C : Cx} {H : MH} {Q : V -> MH -> Prop} {X : XP} {n : Nat} {d : Md} {w : Wk} {pa e t dd : Addr} {br : List Nat} {a dx : Addr} {es : List (Int × Int)} {tk : List (List Int)} {most : Nat}
theorem chs_no {ey : Int -> Option Int} {fr : Nat -> Bool} {p : Pt} {k : Nat} {ds : List Int} (h : fr k = false) : chs w ey fr p k ds = [given p ds w.ring].filter fun d => (ey ((w.inp : Int) + (k : Int))).getD d == d := by
 unfold chs; rw [if_neg (by rw [h]; decide)]
theorem chs_yes {ey : Int -> Option Int} {fr : Nat -> Bool} {p : Pt} {k : Nat} {ds : List Int} (h : fr k = true) : chs w ey fr p k ds = ((List.range w.ring.toNat).map fun (d : Nat) => (d : Int)).filter fun d => (ey ((w.inp : Int) + (k : Int))).getD d == d := by
 unfold chs; rw [if_pos h]
theorem choices_ct {f : Addr} {k : Nat} {b : Addr} {ds : List Int} {p : Pt} (G : C.Good) (S : Std C) (N : WkA C) (Do : Def C "given_of" given_of_vs 3 given_of_b) (F : IsF C walk_choices_vs 3 walk_choices_b f) (hw : w.Ok most) (hm : most <= 10) (x : Wlk H a dx pa e t dd w br es tk)
  (hb : H b = some (.lst (ds.map .int))) (hl : ds.length = w.inp + k) (hp : w.ps[k]? = some p)
  (K : ∀ r H', Ext H H' -> H r = none -> H' r = some (.lst ((chs w (tget es) (fun k => decide (k ∈ br)) p k ds).map .int)) -> Q (.ref r) H') : CallV C ⟨n + 2, true⟩ (.ref f) [.ref a, .int k, .ref b] H Q X := by
 have hz : 10000 < sizeLine := by decide
 have hi2 := hw.i2; have hp2 := hw.p2; have hp1 := hw.p1; have hr1 := hw.r1; have hr2 := hw.r2
 have hk : k < w.ps.length := (List.getElem?_eq_some_iff.mp hp).1
 refine F rfl ?_
 unfold walk_choices_b
 refine SS_unp (E_att (E_nm rfl ?_))
 refine att_own N.task x.ins x.nsd nget_task (fun y => nofun) ?_
 refine ⟨[.int w.ring, .int w.inp, .ref pa], rfl, ⟨.inl rfl, fun zz zz zz e => by cases e⟩, rfl, ?_⟩
 obtain ⟨R, hR⟩ : ∃ R : Nat, w.ring = (R : Int) := ⟨w.ring.toNat, by (clear hm hl hz hi2 hp2 hp1 hr2 hk; omega)⟩
 refine SS_asg (E_call (Std.n_list (by assumption)) callee_type (Es_cons (E_call (Std.n_range (by assumption)) callee_type (c_es1 rfl ?_))))
 refine cv_range1 ?_
 rw [hR]
 refine cv_list_rng rfl (by (clear hm hl hz hi2 hp2 hp1 hr1 hk; omega)) fun c hc => ?_
 refine SS_ife (c_tcmp (E_nm rfl (E_att (E_nm rfl ?_))))
 refine att_own N.free ((Ext.new hc) _ _ x.ins) ((Ext.new hc) _ _ x.nsd) nget_free (fun y => nofun) ?_
 refine nin_br ?_
 refine tru_bool ?_
 have y1 : Ext H (upd H c (.lst ((List.range R).map fun (k : Nat) => V.int k))) := .new hc
 have c1 : upd H c (.lst ((List.range R).map fun (k : Nat) => V.int k)) c = some (.lst (((List.range R).map fun (k : Nat) => (k : Int)).map .int)) := by rw [upd_self, List.map_map]; rfl
 generalize upd H c (.lst ((List.range R).map fun (k : Nat) => V.int k)) = H2 at y1 c1
 have tail : ∀ r (xs : List Int) H'', Ext H H'' -> H'' r = some (.lst (xs.map .int)) -> xs.length <= 1000 -> (xs.filter fun d => (tget es ((w.inp : Int) + (k : Int))).getD d == d) = chs w (tget es) (fun k => decide (k ∈ br)) p k ds ->
   wpSs C ⟨n + 1, true⟩ [.asg 7 (.bin .Add (.nm 4) (.nm 1)), .ret (.comp 1 (.nm 8) (.nm 6) [(.cmp .Eq (.meth (.att (.nm 0) "eyes") "get" [(.nm 7), (.nm 8)]) (.nm 8))])]
    [some (.ref a), some (.int k), some (.ref b), some (.int R), some (.int w.inp), some (.ref pa), some (.ref r), none] H'' (fun f zz H' => match f with | .ret v => Q v H' | .next => Q .none H') (fun c zz H' => X c H') := by
  intro r xs H'' y hr hl1 hch
  refine SS_asg (c_bin_nn rfl rfl (bin_add (SS_ret ?_)))
  refine E_comp ?_
  refine E_nm rfl ?_
  refine ⟨_, ⟨.inl rfl, fun zz zz zz e => by cases e⟩, items_lst hr, by rw [List.length_map]; (clear hm hl hi2 hp2 hp1 hr1 hr2 hk hR; omega), ?_⟩
  refine comp_inv (P := fun i acc H' => acc = ((xs.take i).filter fun d => (tget es ((w.inp : Int) + (k : Int))).getD d == d).map .int /\ H' = H'') ⟨rfl, rfl⟩ (fun i x' acc H' R' hP hx hR' => ?_) fun acc H' hP => ⟨?_, ?_⟩
  ·refine Vc.xa_0_2 hP fun hr115_0 hr115_1 => ?_
   try clear hP
   subst hr115_0
   subst hr115_1
   rw [List.getElem?_map, Option.map_eq_some_iff] at hx
   refine Vc.xa_1_2 hx fun d hd hr117_2 => ?_
   try clear hx
   subst hr117_2
   refine ⟨items_lst hr, _, rfl, ?_⟩
   have et : ∀ q : Bool, ((tget es ((w.inp : Int) + (k : Int))).getD d == d) = q -> (xs.take (i + 1)).filter (fun d => (tget es ((w.inp : Int) + (k : Int))).getD d == d) = (xs.take i).filter (fun d => (tget es ((w.inp : Int) + (k : Int))).getD d == d) ++ (if q = true then [d] else []) := by
    intro q hq
    rw [List.take_add_one, hd, List.filter_append]
    show _ ++ List.filter _ [d] = _
    rw [List.filter_cons, hq]; cases q <;> rfl
   refine Ts_cons (c_tcmp (E_meth (E_att (E_nm rfl ?_))))
   refine att_own N.eyes (y _ _ x.ins) (y _ _ x.nsd) nget_eyes (fun y => nofun) ?_
   refine ⟨_, mget_dict (y _ _ x.eyes), callee_builtin, ?_⟩
   refine c_es2 rfl rfl ?_
   refine cv_get2 (y _ _ x.eyes) ?_
   rw [dget_tld]
   have eg : ((tget es ((w.inp : Int) + (k : Int))).map V.int).getD (.int d) = .int ((tget es ((w.inp : Int) + (k : Int))).getD d) := by cases tget es ((w.inp : Int) + (k : Int)) <;> rfl
   rw [eg]
   refine E_nm rfl (cmp_eq_int (tru_bool ?_))
   split
   ·rename_i hq
    refine Ts_nil (if_t (E_nm rfl ?_))
    refine hR' _ _ ⟨?_, rfl⟩
    rw [et true hq, List.map_append]; rfl
   ·rename_i hq
    refine if_f ?_
    refine hR' _ _ ⟨?_, rfl⟩
    rw [et false (by simpa using hq)]; simp
  ·refine Vc.xa_0_2 hP fun hr142_0 hr142_1 => ?_
   try clear hP
   subst hr142_0
   subst hr142_1
   exact items_lst hr
  ·refine Vc.xa_0_2 hP fun hr144_0 hr144_1 => ?_
   try clear hP
   subst hr144_0
   subst hr144_1
   have e3 : xs.take (xs.map V.int).length = xs := by rw [List.length_map, List.take_length]
   rw [e3, hch]
   refine ⟨?_, fun r' hr' => ?_⟩
   ·rw [List.length_map, <- hch]; exact Nat.le_trans (List.length_filter_le _ _) (by (clear hm hl hi2 hp2 hp1 hr1 hr2 hk hR; omega))
   ·exact K r' _ (y.more hr') (y.gone hr') (upd_self ..)
 split
 ·rename_i hbr
  have hfr : decide (k ∈ br) = false := by simpa using hbr
  refine SS_app1 (SS_asg (E_lst (Es_cons ?_)))
  refine E_fn Do.fn ?_
  refine Es_cons (c_sub_nn rfl rfl ?_)
  refine sub_listn (i := k) (items_lst (y1 _ _ x.parts)) (by rw [List.length_map]; (clear hl hi2 hp1 hr1 hr2 hk hR; omega)) (x := p.v) (by rw [List.getElem?_map, hp]; rfl) ?_
  refine c_es2 rfl rfl ?_
  refine given_ct G Do (items_lst (y1 _ _ hb)) (by (clear hz hp1 hr1 hr2 hR; omega)) (by rw [hl]; exact hw.pt k p hp) (by (clear hm hl hz hi2 hp2 hp1 hr2 hk; omega)) ?_
  refine Es_nil ?_
  refine ⟨show 1 <= sizeLine by decide, fun g hg => ?_⟩
  refine tail g [given p ds R] _ (y1.more hg) (upd_self ..) (by simp) ?_
  rw [chs_no hfr, hR]
 ·rename_i hbr
  have hfr : k ∈ br := by simpa using hbr
  refine tail c _ _ y1 c1 (by simp; (clear hm hl hz hi2 hp2 hp1 hr1 hk hbr; omega)) ?_
  rw [chs_yes (decide_eq_true hfr), hR]; rfl
end
end Vc
end
section
namespace Vc
open PySem PyProof.Rows
section
variable {C : Cx} {X : XP} {n : Nat} {w : Wk} {pa e t dd : Addr} {br : List Nat} {a dx : Addr} {es : List (Int × Int)} {tk : List (List Int)} {most : Nat}
noncomputable def Grn (w : Wk) (es : List (Int × Int)) (br : List Nat) (k : Nat) (ds : List Int) (v : V) : Prop :=
 (v = .none /\ rows w (tget es) (fun k => decide (k ∈ br)) (w.ps.drop k) k ds = []) ∨ ((∃ c, v = .ref c) /\ rows w (tget es) (fun k => decide (k ∈ br)) (w.ps.drop k) k ds ≠ [])
theorem grown_ct (G : C.Good) (S : Std C) (N : WkA C) (Do : Def C "given_of" given_of_vs 3 given_of_b) (Mc : Mth C "Walk" "choices" walk_choices_vs 3 walk_choices_b) (Mg : Mth C "Walk" "grown" walk_grown_vs 2 walk_grown_b) (hw : w.Ok most) (hm : most <= 10)
  (T : Tak w (fun k => decide (k ∈ br)) tk) :
  ∀ (r : Nat) {k : Nat} {f b : Addr} {ds : List Int} {H : MH} {ks : List (Int × List Int)} {Q : V -> MH -> Prop}, r + k = w.ps.length -> IsF C walk_grown_vs 2 walk_grown_b f -> Wlk H a dx pa e t dd w br es tk -> H dd = some (.prd (dckP ks)) -> Dead w (tget es) (fun k => decide (k ∈ br)) tk ks -> ks.length + 6 ^ r <= 1000000 ->
   H b = some (.lst (ds.map .int)) -> ds.length = w.inp + k ->
   (∀ v ks' H', ExtB dd H H' -> H' dd = some (.prd (dckP ks')) -> Dead w (tget es) (fun k => decide (k ∈ br)) tk ks' -> ks'.length <= ks.length + 6 ^ r -> Grn w es br k ds v -> Q v H') -> CallV C ⟨n + r + 3, true⟩ (.ref f) [.ref a, .ref b] H Q X := by
 have hz : 2000000 < sizeLine := by decide
 have hi2 := hw.i2; have hp2 := hw.p2; have hp1 := hw.p1; have hr1 := hw.r1; have hr2 := hw.r2
 intro r
 induction r with
 | zero =>
  intro k f b ds H ks Q hk F x hd hD hks hb hl K
  refine F rfl ?_
  unfold walk_grown_b
  refine SS_asg (E_bin (E_call (Std.n_len (by assumption)) callee_builtin (c_es1 rfl ?_)))
  refine cv_len_list (items_lst hb) (by rw [List.length_map]; (clear hp1 hr1 hr2 hks; omega)) ?_
  refine E_sub (E_att (E_nm rfl ?_))
  refine att_own N.task x.ins x.nsd nget_task (fun y => nofun) ?_
  refine sub_t1 rfl ?_
  refine bin_sub (SS_ife (c_tcmp (E_nm rfl (E_call (Std.n_len (by assumption)) callee_builtin (Es_cons (E_sub (E_att (E_nm rfl ?_))))))))
  refine att_own N.task x.ins x.nsd nget_task (fun y => nofun) ?_
  refine sub_t2 rfl ?_
  refine Es_nil ?_
  refine cv_len_list (items_lst x.parts) (by rw [List.length_map]; (clear hi2 hp1 hr1 hr2 hk hks hl; omega)) ?_
  rw [List.length_map, List.length_map]
  refine cmp_eq_int (tru_bool ?_)
  rw [if_pos (by simp; (clear hm hz hi2 hp2 hp1 hr1 hr2 hks; omega))]
  refine SS_app1 (c_ret_n rfl ?_)
  refine K _ ks H (Ext.b (.refl _) _) hd hD (by (clear hm hz hi2 hp2 hp1 hr1 hr2 hk hks hl; omega)) (.inr ⟨⟨b, rfl⟩, ?_⟩)
  rw [List.drop_eq_nil_of_le (by (clear hm hz hi2 hp2 hp1 hr1 hr2 hks hl; omega))]; simp [rows]
 | succ r ih =>
  intro k f b ds H ks Q hk F x hd hD hks hb hl K
  have hkl : k < w.ps.length := by (clear hm hz hi2 hp2 hp1 hr1 hr2 hks hl; omega)
  have hpk : w.ps[k]? = some w.ps[k] := List.getElem?_eq_getElem hkl
  have h6 : 6 ^ (r + 1) = 6 * 6 ^ r := by rw [Nat.pow_succ]; (clear hm hz hi2 hp2 hp1 hr1 hr2 hk hks hl; omega)
  have h60 : 0 < 6 ^ r := Nat.pow_pos (by decide)
  refine F rfl ?_
  unfold walk_grown_b
  refine SS_asg (E_bin (E_call (Std.n_len (by assumption)) callee_builtin (c_es1 rfl ?_)))
  refine cv_len_list (items_lst hb) (by rw [List.length_map]; (clear hp1 hr1 hr2 hk hks h6 h60; omega)) ?_
  refine E_sub (E_att (E_nm rfl ?_))
  refine att_own N.task x.ins x.nsd nget_task (fun y => nofun) ?_
  refine sub_t1 rfl ?_
  refine bin_sub (SS_ife (c_tcmp (E_nm rfl (E_call (Std.n_len (by assumption)) callee_builtin (Es_cons (E_sub (E_att (E_nm rfl ?_))))))))
  refine att_own N.task x.ins x.nsd nget_task (fun y => nofun) ?_
  refine sub_t2 rfl ?_
  refine Es_nil ?_
  refine cv_len_list (items_lst x.parts) (by rw [List.length_map]; (clear hi2 hp1 hr1 hr2 hk hks hl h6 h60; omega)) ?_
  rw [List.length_map, List.length_map]
  have ek : (ds.length : Int) - (w.inp : Int) = (k : Int) := by (clear hm hz hi2 hp2 hp1 hr1 hr2 hk hks h6 h60; omega)
  rw [ek]
  refine cmp_eq_int (tru_bool ?_)
  rw [if_neg (by simp; (clear hm hz hi2 hp2 hp1 hr1 hr2 hk hks hl h6 h60 ek; omega))]
  refine SS_app0 (SS_asg (E_tup (c_ess rfl (Es_cons (E_call (Std.n_tuple (by assumption)) callee_type (Es_cons ?_))))))
  refine E_comp ?_
  refine E_sub (E_att (E_nm rfl ?_))
  refine att_own N.takes x.ins x.nsd nget_takes (fun y => nofun) ?_
  refine Vc.xa_1_3 x.takes.ex fun as q1 q2 q3 => ?_
  have hak : k < as.length := by rw [q2, T.len]; (clear hm hz hi2 hp2 hp1 hr1 hr2 hk hks hl h6 h60 ek q2; omega)
  refine E_nm rfl ?_
  refine sub_listn (i := k) (items_lst q1) (by rw [List.length_map, q2, T.len]; (clear hi2 hp1 hr1 hr2 hk hks hl h6 h60 ek q2 hak; omega)) (x := .ref as[k]) (by rw [List.getElem?_map, List.getElem?_eq_getElem hak]; rfl) ?_
  have ht := q3 k as[k] (List.getElem?_eq_getElem hak)
  have htz := x.takes.sz k
  refine ⟨_, ⟨.inl rfl, fun zz zz zz e => by cases e⟩, items_lst ht, by rw [List.length_map]; (clear hm hi2 hp2 hp1 hr1 hr2 hk hks hl h6 h60 ek q2; omega), ?_⟩
  refine comp_inv (P := fun i acc H' => acc = ((((tk.getD k []).take i).filter fun (l : Int) => decide (l < (ds.length : Int))).map fun (l : Int) => ds.getD l.toNat 0).map .int /\ H' = H) ⟨rfl, rfl⟩ (fun i x' acc H' R' hP hx hR' => ?_) fun acc H' hP => ⟨?_, ?_⟩
  ·refine Vc.xa_0_2 hP fun hr77_0 hr77_1 => ?_
   try clear hP
   subst hr77_0
   subst hr77_1
   rw [List.getElem?_map, Option.map_eq_some_iff] at hx
   refine Vc.xa_1_2 hx fun l hl1 hr79_2 => ?_
   try clear hx
   subst hr79_2
   have hl0 := T.ge k l (List.mem_of_getElem? hl1)
   refine ⟨items_lst ht, _, rfl, ?_⟩
   have et : ∀ q : Bool, decide (l < (ds.length : Int)) = q -> ((tk.getD k []).take (i + 1)).filter (fun (l : Int) => decide (l < (ds.length : Int))) = ((tk.getD k []).take i).filter (fun (l : Int) => decide (l < (ds.length : Int))) ++ (if q = true then [l] else []) := by
    intro q hq
    rw [List.take_add_one, hl1, List.filter_append]
    show _ ++ List.filter _ [l] = _
    rw [List.filter_cons, hq]; cases q <;> rfl
   refine Ts_cons (c_tcmp (E_nm rfl (E_call (Std.n_len (by assumption)) callee_builtin (c_es1 rfl ?_))))
   refine cv_len_list (items_lst hb) (by rw [List.length_map]; (clear hp1 hr1 hr2 hk hks hl h6 h60 q2 htz hl0; omega)) ?_
   rw [List.length_map]
   refine cmp_lt (tru_bool ?_)
   split
   ·rename_i hq
    have hlt : l < ds.length := of_decide_eq_true hq
    refine Ts_nil (if_t (c_sub_nn rfl rfl ?_))
    refine sub_list (items_lst hb) (by rw [List.length_map]; (clear hp1 hr1 hr2 hk hks hl h6 h60 q2 htz hl0 hlt; omega)) (j := l.toNat) (by rw [List.length_map]; unfold seqIndex?; simp; (clear hm hz hi2 hp2 hp1 hr1 hr2 hk hks hl h6 h60 ek q2 htz; omega)) (x := .int (ds.getD l.toNat 0)) ?_ ?_
    ·rw [List.getElem?_map, List.getElem?_eq_getElem (by (clear hm hz hi2 hp2 hp1 hr1 hr2 hk hks hl h6 h60 ek q2 htz; omega)), List.getD_eq_getElem?_getD, List.getElem?_eq_getElem (by (clear hm hz hi2 hp2 hp1 hr1 hr2 hk hks hl h6 h60 ek q2 htz; omega))]; rfl
    refine hR' _ _ ⟨?_, rfl⟩
    rw [et true hq, List.map_append, List.map_append]; rfl
   ·rename_i hq
    refine if_f ?_
    refine hR' _ _ ⟨?_, rfl⟩
    rw [et false (by simpa using hq)]; simp
  ·refine Vc.xa_0_2 hP fun hr103_0 hr103_1 => ?_
   try clear hP
   subst hr103_0
   subst hr103_1
   exact items_lst ht
  refine Vc.xa_0_2 hP fun hr105_0 hr105_1 => ?_
  try clear hP
  subst hr105_0
  subst hr105_1
  have e3 : (tk.getD k []).take ((tk.getD k []).map V.int).length = tk.getD k [] := by rw [List.length_map, List.take_length]
  rw [e3]
  generalize hkl2 : (((tk.getD k []).filter fun (l : Int) => decide (l < (ds.length : Int))).map fun (l : Int) => ds.getD l.toNat 0) = kl
  have hkey : keyOf tk k ds = ((k : Int), kl) := by rw [<- hkl2]; rfl
  have hkll : kl.length <= 100 := by rw [<- hkl2, List.length_map]; exact Nat.le_trans (List.length_filter_le _ _) htz
  refine ⟨by rw [List.length_map]; (clear hm hi2 hp2 hp1 hr1 hr2 hk hks hl h6 h60 ek q2 htz; omega), fun c hc => ?_⟩
  refine Es_nil ?_
  refine cv_tuple items_new (by rw [List.length_map]; (clear hm hi2 hp2 hp1 hr1 hr2 hk hks hl h6 h60 ek q2 htz; omega)) ?_
  refine Es_nil ?_
  refine ⟨show 2 <= sizeLine by decide, ?_⟩
  have y1 : Ext H' (upd H' c (.lst (kl.map .int))) := .new hc
  generalize upd H' c (.lst (kl.map .int)) = H1 at y1
  have x1 := x.more y1
  have hd1 := y1 _ _ hd
  have hb1 := y1 _ _ hb
  refine SS_ife (c_tcmp (E_nm rfl (E_att (E_nm rfl ?_))))
  refine att_own N.dead x1.ins x1.nsd nget_dead (fun y => nofun) ?_
  show CmpW C _ .In (kv ((k : Int), kl)) (.ref dd) H1 _ _
  refine in_dck hd1 fun q hq => ?_
  refine tru_bool ?_
  cases q with
  | true =>
   rw [if_pos rfl]
   refine SS_app1 (SS_ret (E_cn ?_))
   refine K _ ks H1 (y1.b _) hd1 hD (by (clear hm hz hi2 hp2 hp1 hr1 hr2 hk hks hl h6 ek q2 htz hkll hq; omega)) (.inl ⟨rfl, hD k ds (by (clear hm hz hi2 hp2 hp1 hr1 hr2 hk hks hl h6 h60 ek q2 htz hkll hq; omega)) hl ?_⟩)
   rw [hkey]; exact hq.mp rfl
  | false =>
   rw [if_neg (by decide)]
   refine SS_for ?_
   refine E_meth (E_nm rfl ?_)
   refine Vc.xa_1_3 Mc.ex fun fc mc cc Fc => ?_
   refine ⟨_, mc x1.ins x1.nsd nget_choices, cc, ?_⟩
   refine c_es2 rfl rfl ?_
   refine choices_ct G S N Do Fc hw hm x1 hb1 hl hpk fun rc H2 y2 hrc hrc2 => ?_
   refine Vc.xa_1_3 x1.takes.ex fun as' q1' q2' q3' => ?_
   have x2 := x1.more y2
   have hd2 := y2 _ _ hd1
   have hb2 := y2 _ _ hb1
   generalize hcs : chs w (tget es) (fun k => decide (k ∈ br)) w.ps[k] k ds = cs at hrc2
   have hcl : cs.length <= 5 := by
    rw [<- hcs]; unfold chs
    refine Nat.le_trans (List.length_filter_le _ _) ?_
    split
    ·simp; (clear hm hz hi2 hp2 hp1 hr1 hk hks hl h6 h60 ek q2 htz hkll hq q2'; omega)
    ·simp
   have hrw : ∀ ds', rows w (tget es) (fun k => decide (k ∈ br)) (w.ps.drop k) k ds' = (chs w (tget es) (fun k => decide (k ∈ br)) w.ps[k] k ds').flatMap fun d => rows w (tget es) (fun k => decide (k ∈ br)) (w.ps.drop (k + 1)) (k + 1) (ds' ++ [d]) := fun ds' => by
    rw [List.drop_eq_getElem_cons hkl]; rfl
   refine ⟨_, ⟨.inl rfl, fun zz zz zz e => by cases e⟩, items_lst hrc2, ?_⟩
   have hrcd : rc ≠ dd := fun z => by rw [z, hd1] at hrc; cases hrc
   have hbd : b ≠ dd := fun z => by rw [z, hd] at hb; cases hb
   refine for_inv (P := fun i ρ H' => ∃ dg fo ks', ρ = [some (.ref a), some (.ref b), some (.int k), some (kv ((k : Int), kl)), dg, fo] /\ ExtB dd H2 H' /\ H' dd = some (.prd (dckP ks')) /\ Dead w (tget es) (fun k => decide (k ∈ br)) tk ks' /\ ks'.length <= ks.length + i * 6 ^ r /\
     ∀ d ∈ cs.take i, rows w (tget es) (fun k => decide (k ∈ br)) (w.ps.drop (k + 1)) (k + 1) (ds ++ [d]) = [])
    (Vc.xi_3_6 none none ks rfl (Ext.b (.refl _) _) hd2 hD (by (clear hm hz hi2 hp2 hp1 hr1 hr2 hk hks hl h6 h60 ek q2 htz hkll hq q2' hcl hrcd hbd; omega)) (by simp)) (fun i x' ρ H3 R' hP hx hR' => ?_) fun ρ H3 hP => ?_
   ·refine Vc.xa_3_6 hP fun dg fo ks' hr159_3 z3 hd3 hD3 hl3 hn3 => ?_
    try clear hP
    subst hr159_3
    rw [List.getElem?_map, Option.map_eq_some_iff] at hx
    refine Vc.xa_1_2 hx fun d hd4 hr161_2 => ?_
    try clear hx
    subst hr161_2
    have hi5 : i < cs.length := (List.getElem?_eq_some_iff.mp hd4).1
    have x3 := x2.ext hd2 z3
    have hi6 : i * 6 ^ r + 6 ^ r <= 5 * 6 ^ r := by
     have : (i + 1) * 6 ^ r <= 5 * 6 ^ r := Nat.mul_le_mul_right _ (by (clear hm hz hi2 hp2 hp1 hr1 hr2 hk hks hl h6 h60 ek q2 htz hkll hq q2' hrcd hbd hl3; omega))
     rw [Nat.add_mul, Nat.one_mul] at this; exact this
    refine ⟨by simp only [svItems]; exact items_lst (z3 _ _ hrcd hrc2), _, rfl, ?_⟩
    refine SS_asg (E_meth (E_nm rfl ?_))
    refine Vc.xa_1_3 Mg.ex fun fg mg cg Fg => ?_
    refine ⟨_, mg x3.ins x3.nsd nget_grown, cg, ?_⟩
    refine Es_cons (E_bin (E_nm rfl (E_lst (c_es1 rfl ?_))))
    refine ⟨show 1 <= sizeLine by decide, fun g hg => ?_⟩
    have hb3 := z3 _ _ hbd hb2
    have hgd : g ≠ dd := fun z => by rw [z, hd3] at hg; cases hg
    refine bin_cat (items_lst ((Ext.new hg) _ _ hb3)) items_new (by rw [List.length_map]; simp; (clear hp1 hr1 hr2 hk hks hl h6 h60 q2 htz hkll hq q2' hcl hrcd hbd hl3 hi5 hi6 hgd; omega)) fun g2 hg2 => ?_
    refine Es_nil ?_
    have y4 : Ext H3 (upd (upd H3 g (.lst [.int d])) g2 (.lst (ds.map .int ++ [.int d]))) := ((Ext.refl _).more hg).more hg2
    have hb4 : upd (upd H3 g (.lst [.int d])) g2 (.lst (ds.map .int ++ [.int d])) g2 = some (.lst ((ds ++ [d]).map .int)) := by rw [upd_self, List.map_append]; rfl
    generalize upd (upd H3 g (.lst [.int d])) g2 (.lst (ds.map .int ++ [.int d])) = H4 at y4 hb4
    refine ih (k := k + 1) (by (clear hm hz hi2 hp2 hp1 hr1 hr2 hks hl h6 h60 ek q2 htz hkll hq q2' hcl hrcd hbd hl3 hi5 hi6 hgd; omega)) Fg (x3.more y4) (y4 _ _ hd3) hD3 (by (clear hm hz hi2 hp2 hp1 hr1 hr2 hk hl h6 h60 ek q2 htz hkll hq q2' hcl hrcd hbd hi5 hgd; omega)) hb4 (by simp; (clear hm hz hi2 hp2 hp1 hr1 hr2 hk hks hl h6 h60 q2 htz hkll hq q2' hcl hrcd hbd hl3 hi5 hi6 hgd; omega)) fun v ks5 H5 z5 hd5 hD5 hl5 hv => ?_
    rcases hv with ⟨rfl, hn⟩ | ⟨⟨c5, rfl⟩, hne⟩
    ·refine SS_ife (c_tcmp (E_nm rfl (E_cn ?_)))
     refine isnot_none_none' ?_
     refine tru_bool (if_f (SS_app0 ?_))
     refine SS_nil (hR' _ _ (Vc.xi_3_6 _ _ ks5 rfl (z3.trans ((y4.b _).trans z5)) hd5 hD5 ?_ (fun d' hd' => ?_)))
     ·rw [Nat.add_mul, Nat.one_mul]; (clear hm hz hi2 hp2 hp1 hr1 hr2 hk hks hl h6 h60 ek q2 htz hkll hq q2' hcl hrcd hbd hi5 hi6 hgd; omega)
     ·rw [List.take_add_one, hd4] at hd'
      rcases List.mem_append.mp hd' with q | q
      ·exact hn3 d' q
      ·simp at q; subst q; exact hn
    ·refine SS_ife (c_tcmp (E_nm rfl (E_cn ?_)))
     refine isnot_none_ref ?_
     refine tru_bool (if_t (SS_app1 (c_ret_n rfl ?_)))
     refine K _ ks5 H5 (((y1.trans y2).b _).trans (z3.trans ((y4.b _).trans z5))) hd5 hD5 (by (clear hm hz hi2 hp2 hp1 hr1 hr2 hk hks hl h6 h60 ek q2 htz hkll hq q2' hcl hrcd hbd hi5 hgd; omega)) (.inr ⟨⟨c5, rfl⟩, fun z => hne ?_⟩)
     rw [hrw, List.flatMap_eq_nil_iff] at z
     exact z d (by rw [hcs]; exact List.mem_of_getElem? hd4)
   ·refine Vc.xa_3_6 hP fun dg fo ks' hr197_3 z3 hd3 hD3 hl3 hn3 => ?_
    try clear hP
    subst hr197_3
    refine ⟨by simp only [svItems]; exact items_lst (z3 _ _ hrcd hrc2), ?_⟩
    have x3 := x2.ext hd2 z3
    have hcm : (cs.map V.int).length * 6 ^ r <= 5 * 6 ^ r := Nat.mul_le_mul_right _ (by rw [List.length_map]; (clear hm hz hi2 hp2 hp1 hr1 hr2 hk hks hl h6 h60 ek q2 htz hkll hq q2' hrcd hbd hl3; omega))
    have hempty : rows w (tget es) (fun k => decide (k ∈ br)) (w.ps.drop k) k ds = [] := by
     rw [hrw, hcs, List.flatMap_eq_nil_iff]
     intro d hd'
     exact hn3 d (by rw [List.length_map, List.take_length]; exact hd')
    refine SS_seti (E_cb (E_att (E_nm rfl ?_)))
    refine att_own N.dead x3.ins x3.nsd nget_dead (fun y => nofun) ?_
    refine E_nm rfl ?_
    refine seti_dck (k := ((k : Int), kl)) hd3 (by (clear hm hi2 hp2 hp1 hr1 hr2 hk hl h6 h60 ek q2 htz hkll hq q2' hcl hrcd hbd; omega)) fun ks6 hk6 hl6 => ?_
    refine SS_ret (E_cn ?_)
    have z6 : ExtB dd H3 (upd H3 dd (.prd (dckP ks6))) := fun b o hb h => by rw [upd_ne hb]; exact h
    exact K _ ks6 _ (((y1.trans y2).b _).trans (z3.trans z6)) (upd_self ..) (hD3.add T hw.pt hl hempty (by rw [hkey]; exact hk6)) (by (clear hm hz hi2 hp2 hp1 hr1 hr2 hk hks hl h6 ek q2 htz hkll hq q2' hcl hrcd hbd; omega)) (.inl ⟨rfl, hempty⟩)
end
end Vc
end
section
set_option maxHeartbeats 2000000
namespace Vc
open PySem PyProof.Rows
noncomputable def tset (l : List (Int × Int)) (k v : Int) : List (Int × Int) := if l.any (fun p => decide (p.1 = k)) then l.map (fun p => if p.1 = k then (p.1, v) else p) else l ++ [(k, v)]
theorem dset_tld (l : List (Int × Int)) (k v : Int) : dset (tld l) k (.int v) = tld (tset l k v) := by
 unfold dset tset tld
 rw [List.any_map]
 have : ((fun p : Int × V => decide (p.1 = k)) ∘ fun p : Int × Int => (p.1, V.int p.2)) = fun p => decide (p.1 = k) := rfl
 rw [this]
 split
 ·rw [List.map_map, List.map_map]
  refine List.map_congr_left fun p zz => ?_
  simp only [Function.comp]
  split <;> rfl
 ·simp
theorem tset_len (l : List (Int × Int)) (k v : Int) : (tset l k v).length <= l.length + 1 := by
 unfold tset; split <;> simp
section
variable {C : Cx} {a : Addr} {ns : List Int} {X : XP}
end
end Vc
end
section
set_option maxHeartbeats 2000000
namespace Vc
open PySem PyProof.Rows
noncomputable def least_digits_vs : Vs := [locv "work", locv "look", locv "broken"]
noncomputable def least_digits_b : List St :=
  [.ret (.meth (.call "Walk" [(.nm 0), (.sub (.nm 1) (.ci 1)), (.nm 2)]) "grown" [(.call "list" [(.sub (.nm 1) (.ci 0))])])]
noncomputable def tdof (sn : List (Int × Int)) : List (Int × Int) := sn.foldl (fun m p => tset m p.1 p.2) []
theorem dof_tld (sn : List (Int × Int)) : dof (tld sn) = tld (tdof sn) := by
 have : ∀ (l m : List (Int × Int)), (tld l).foldl (fun m p => dset m p.1 p.2) (tld m) = tld (l.foldl (fun m p => tset m p.1 p.2) m) := by
  intro l
  induction l with
  | nil => intro m; rfl
  | cons p l ih => intro m; rw [List.foldl_cons, <- ih, <- dset_tld]; rfl
 exact this sn []
section
variable {C : Cx} {X : XP} {n : Nat} {H : MH} {Q : V -> MH -> Prop} {w : Wk} {pa : Addr} {br : List Nat} {sn : List (Int × Int)} {most : Nat}
theorem nput_len (x : String) (v : V) : ∀ l : List (String × V), (nput l x v).length <= l.length + 1
 | [] => by simp [nput]
 | p :: l => by unfold nput; split <;> simp; exact nput_len x v l
theorem put_all {w : Wk} {pa e t dd : Addr} {br : List Nat} : nput (nput (nput (nput (nput [] "task" (w.v pa)) "eyes" (.ref e)) "free" (brv br)) "takes" (.ref t)) "dead" (.ref dd) = WkN w pa e br t dd := by kernel_rfl
theorem walk_ct (G : C.Good) (S : Std C) (N : WkA C) (Dw : Def C "wanted_from" wanted_from_vs 2 wanted_from_b) (Cl : Cls C "Walk" walk_init_vs 4 walk_init_b) (hw : w.Ok most) (hm : most <= 10) (hs : sn.length <= 1000) (hp : H pa = some (.lst (w.ps.map Pt.v)))
  (K : ∀ a dx e t dd tk H', Ext H H' -> H dd = none -> Wlk H' a dx pa e t dd w br (tdof sn) tk -> Tak w (fun k => decide (k ∈ br)) tk -> H' dd = some (.prd (dckP [])) -> Q (.ref a) H') : CallW C ⟨n + 3, true⟩ "Walk" [w.v pa, .tup (prs (tld sn)), brv br] H Q X := by
 have hz : 10000 < sizeLine := by decide
 refine Cl.call rfl fun a dx ha hdx hne => ?_
 unfold walk_init_b
 have i0 : upd (upd H dx (.nsd [])) a (.ins "Walk" dx) a = some (.ins "Walk" dx) := upd_self ..
 have d0 : upd (upd H dx (.nsd [])) a (.ins "Walk" dx) dx = some (.nsd []) := by rw [upd_ne hne.symm, upd_self]
 have x0 : ExtB dx H (upd (upd H dx (.nsd [])) a (.ins "Walk" dx)) := fun b o hb h => by
  rw [upd_ne (fun z => by rw [z, ha] at h; cases h), upd_ne hb]; exact h
 generalize upd (upd H dx (.nsd [])) a (.ins "Walk" dx) = H0 at i0 d0 x0
 have hpd : pa ≠ dx := fun z => by rw [z, hdx] at hp; cases hp
 have step : ∀ (H1 : MH) l, ExtB dx H1 (upd H1 dx (.nsd l)) := fun H1 l b o hb h => by rw [upd_ne hb]; exact h
 refine SS_seta (E_nm rfl (E_nm rfl ?_))
 refine seta_own N.task i0 d0 (by simp) ?_
 have i1 := step H0 (nput [] "task" (w.v pa)) _ _ hne i0
 have d1 : upd H0 dx (.nsd (nput [] "task" (w.v pa))) dx = _ := upd_self ..
 have x1 := x0.trans (step H0 (nput [] "task" (w.v pa)))
 generalize upd H0 dx (.nsd (nput [] "task" (w.v pa))) = H1 at i1 d1 x1
 refine SS_seta (E_call (Std.n_dict (by assumption)) callee_type (c_es1 rfl ?_))
 refine cv_dict_pairs G rfl (by simp [tld]; (clear hm hne hpd; omega)) fun e he => ?_
 refine E_nm rfl ?_
 refine seta_own N.eyes ((Ext.new he) _ _ i1) ((Ext.new he) _ _ d1) (by simp [nput]) ?_
 rw [dof_tld]
 have hed : e ≠ dx := fun z => by rw [z, d1] at he; cases he
 have i2 := step (upd H1 e (.dci (tld (tdof sn)))) (nput (nput [] "task" (w.v pa)) "eyes" (.ref e)) _ _ hne ((Ext.new he) _ _ i1)
 have e2 := step (upd H1 e (.dci (tld (tdof sn)))) (nput (nput [] "task" (w.v pa)) "eyes" (.ref e)) _ _ hed (upd_self ..)
 have d2 : upd (upd H1 e (.dci (tld (tdof sn)))) dx (.nsd (nput (nput [] "task" (w.v pa)) "eyes" (.ref e))) dx = _ := upd_self ..
 have x2 := (x1.trans ((Ext.new he).b dx)).trans (step (upd H1 e (.dci (tld (tdof sn)))) (nput (nput [] "task" (w.v pa)) "eyes" (.ref e)))
 generalize upd (upd H1 e (.dci (tld (tdof sn)))) dx (.nsd (nput (nput [] "task" (w.v pa)) "eyes" (.ref e))) = H2 at i2 e2 d2 x2
 generalize hl2 : nput (nput [] "task" (w.v pa)) "eyes" (.ref e) = l2 at d2
 have hl2' : l2.length <= 2 := by rw [<- hl2]; have h1 := nput_len "eyes" (.ref e) (nput [] "task" (w.v pa)); have h2 := nput_len "task" (w.v pa) []; simp at h2; (clear hm hs hz hne hpd hed; omega)
 refine SS_seta (E_nm rfl (E_nm rfl ?_))
 refine seta_own N.free i2 d2 (by (clear hm hs hz hne hpd hed; omega)) ?_
 have i3 := step H2 (nput l2 "free" (brv br)) _ _ hne i2
 have e3 := step H2 (nput l2 "free" (brv br)) _ _ hed e2
 have d3 : upd H2 dx (.nsd (nput l2 "free" (brv br))) dx = _ := upd_self ..
 have x3 := x2.trans (step H2 (nput l2 "free" (brv br)))
 generalize upd H2 dx (.nsd (nput l2 "free" (brv br))) = H3 at i3 e3 d3 x3
 have hl3 := nput_len "free" (brv br) l2
 generalize hl3' : nput l2 "free" (brv br) = l3 at d3 hl3
 refine SS_seta ?_
 refine E_fn Dw.fn ?_
 refine c_es2 rfl rfl ?_
 refine wanted_ct G S Dw hw hm (x3 _ _ hpd hp) fun t tk H4 x4 ht hT hTk => ?_
 refine E_nm rfl ?_
 refine seta_own N.takes (x4 _ _ i3) (x4 _ _ d3) (by (clear hm hs hz hne hpd hed; omega)) ?_
 have htd : t ≠ dx := fun z => by rw [z, d3] at ht; cases ht
 have i5 := step H4 (nput l3 "takes" (.ref t)) _ _ hne (x4 _ _ i3)
 have e5 := step H4 (nput l3 "takes" (.ref t)) _ _ hed (x4 _ _ e3)
 have t5 : Tkh (upd H4 dx (.nsd (nput l3 "takes" (.ref t)))) t tk := by
  obtain ⟨⟨as, q1, q2, q3⟩, q4⟩ := hT
  have nd : ∀ b o, H4 b = some (.lst o) -> b ≠ dx := fun b o h z => by rw [z, x4 _ _ d3] at h; cases h
  exact ⟨⟨as, step H4 _ _ _ (nd _ _ q1) q1, q2, fun i a h => step H4 _ _ _ (nd _ _ (q3 i a h)) (q3 i a h)⟩, q4⟩
 have d5 : upd H4 dx (.nsd (nput l3 "takes" (.ref t))) dx = _ := upd_self ..
 have x5 := (x3.trans (x4.b dx)).trans (step H4 (nput l3 "takes" (.ref t)))
 generalize upd H4 dx (.nsd (nput l3 "takes" (.ref t))) = H5 at i5 e5 t5 d5 x5
 have hl5 := nput_len "takes" (.ref t) l3
 generalize hl5' : nput l3 "takes" (.ref t) = l5 at d5 hl5
 refine SS_seta (E_emp ?_)
 intro dd hdd
 refine E_nm rfl ?_
 refine seta_own N.dead ((Ext.new hdd) _ _ i5) ((Ext.new hdd) _ _ d5) (by (clear hm hs hz hne hpd hed htd; omega)) (SS_nil ?_)
 have hddx : dd ≠ dx := fun z => by rw [z, d5] at hdd; cases hdd
 have y6 : ExtB dx H5 (upd (upd H5 dd (.prd (dckP []))) dx (.nsd (nput l5 "dead" (.ref dd)))) := ((Ext.new hdd).b dx).trans (step _ _)
 have d6 : upd (upd H5 dd (.prd (dckP []))) dx (.nsd (nput l5 "dead" (.ref dd))) dx = some (.nsd (WkN w pa e br t dd)) := by
  rw [upd_self, <- hl5', <- hl3', <- hl2, put_all]
 have p6 : upd (upd H5 dd (.prd (dckP []))) dx (.nsd (nput l5 "dead" (.ref dd))) dd = some (.prd (dckP [])) := step _ _ _ _ hddx (upd_self ..)
 have t6 : Tkh (upd (upd H5 dd (.prd (dckP []))) dx (.nsd (nput l5 "dead" (.ref dd)))) t tk := by
  obtain ⟨⟨as, q1, q2, q3⟩, q4⟩ := t5
  have nd : ∀ b o, H5 b = some (.lst o) -> b ≠ dx := fun b o h z => by rw [z, d5] at h; cases h
  exact ⟨⟨as, y6 _ _ (nd _ _ q1) q1, q2, fun i a h => y6 _ _ (nd _ _ (q3 i a h)) (q3 i a h)⟩, q4⟩
 refine ⟨rfl, K a dx e t dd tk _ (fun b o h => (x5.trans y6) b o (fun z => by rw [z, hdx] at h; cases h) h) ?_ ⟨y6 _ _ hne i5, d6, (x5.trans y6) _ _ hpd hp, y6 _ _ hed e5, t6⟩ hTk p6⟩
 cases q : H dd with
 | none => rfl
 | some o =>
  have := x5 dd o hddx q
  rw [this] at hdd; cases hdd
theorem least_ct {g : List Int} (G : C.Good) (S : Std C) (N : WkA C) (Do : Def C "given_of" given_of_vs 3 given_of_b) (Dw : Def C "wanted_from" wanted_from_vs 2 wanted_from_b) (Cl : Cls C "Walk" walk_init_vs 4 walk_init_b) (Mc : Mth C "Walk" "choices" walk_choices_vs 3 walk_choices_b) (Mg : Mth C "Walk" "grown" walk_grown_vs 2 walk_grown_b)
  (D : Def C "least_digits" least_digits_vs 3 least_digits_b) (hw : w.Ok most) (hm : most <= 7) (hs : sn.length <= 1000) (hp : H pa = some (.lst (w.ps.map Pt.v))) (hg : g.length = w.inp)
  (K : ∀ v H', Ext H H' -> Grn w (tdof sn) br 0 g v -> Q v H') : CallW C ⟨n + 15, true⟩ "least_digits" [w.v pa, .tup [.tup (g.map .int), .tup (prs (tld sn))], brv br] H Q X := by
 have hz : 10000 < sizeLine := by decide
 have hi2 := hw.i2; have hp2 := hw.p2
 refine D.call G rfl ?_
 unfold least_digits_b
 refine SS_ret (E_meth ?_)
 refine E_fn Cl.fn ?_
 refine c_ess rfl (Es_cons (c_sub_nc rfl ?_))
 refine sub_t1 rfl ?_
 refine c_es1 rfl ?_
 refine walk_ct (n := n + 11) G S N Dw Cl hw (by (clear hs hg hz hi2 hp2; omega)) hs hp fun a dx e t dd tk H1 x1 hdd x hT hd => ?_
 refine Vc.xa_1_3 Mg.ex fun fg mg cg Fg => ?_
 refine ⟨_, mg x.ins x.nsd nget_grown, cg, ?_⟩
 refine Es_cons (E_call (Std.n_list (by assumption)) callee_type (Es_cons (c_sub_nc rfl ?_)))
 refine sub_t0 rfl ?_
 refine Es_nil ?_
 refine cv_list (.inr ⟨_, rfl⟩) rfl (by rw [List.length_map]; (clear hm hs hp2; omega)) fun b hb => ?_
 refine Es_nil ?_
 obtain ⟨m, hm2⟩ : ∃ m, n + 14 = m + w.ps.length + 3 := ⟨n + 14 - w.ps.length - 3, by (clear hs hg hz hi2; omega)⟩
 rw [hm2]
 have h6 : (6 : Nat) ^ w.ps.length <= 6 ^ 7 := Nat.pow_le_pow_right (by decide) (by (clear hs hg hz hi2 hm2; omega))
 refine grown_ct (k := 0) G S N Do Mc Mg hw (by (clear hs hg hz hi2 hp2 hm2 h6; omega)) hT w.ps.length rfl Fg (x.more (.new hb)) ((Ext.new hb) _ _ hd) (fun k ds zz zz h => by simp at h) (by simp; (clear hm hs hg hz hi2 hp2 hm2; omega)) (upd_self ..) (by (clear hm hs hz hi2 hp2 hm2 h6; omega)) fun v ks' H' z zz zz zz hv => K v H' (fun b' o h => z b' o (fun q => ?_) ((x1.more hb) _ _ h)) hv
 rw [q, hdd] at h; cases h
end
end Vc
end
section
namespace Vc
open PySem PyProof.Rows
section
variable {w : Wk} {ey ey' : Int -> Option Int} {fr : Nat -> Bool}
theorem given_rng {p : Pt} {ds : List Int} {ring : Int} (hr : 0 < ring) (h : ∀ i, 0 <= ds.getD i 0 /\ ds.getD i 0 < ring) : 0 <= given p ds ring /\ given p ds ring < ring := by
 obtain ⟨wd, ls⟩ := p
 have h0 := h (ls.getD 0 0); have h1 := h (ls.getD 1 0); have h2 := h (ls.getD 2 0)
 cases wd <;> simp only [given]
 ·exact ⟨Int.emod_nonneg _ (by (clear hr h0 h1; omega)), Int.emod_lt_of_pos _ hr⟩
 ·split <;> omega
 ·split <;> omega
 ·(clear hr h1 h2; omega)
noncomputable def InR (ring : Int) (ds : List Int) : Prop := ∀ x ∈ ds, 0 <= x /\ x < ring
theorem InR.getD {ring : Int} {ds : List Int} (h : InR ring ds) (hr : 0 < ring) (i : Nat) : 0 <= ds.getD i 0 /\ ds.getD i 0 < ring := by
 rw [List.getD_eq_getElem?_getD]
 cases e : ds[i]? with
 | none => simp; exact hr
 | some x => exact h x (List.mem_of_getElem? e)
theorem InR.snoc {ring : Int} {ds : List Int} {d : Int} (h : InR ring ds) (hd : 0 <= d /\ d < ring) : InR ring (ds ++ [d]) := fun x hx => by
 rcases List.mem_append.mp hx with q | q
 ·exact h x q
 ·simp at q; subst q; exact hd
theorem chs_len {p : Pt} {k : Nat} {ds : List Int} (hr : 1 <= w.ring) : (chs w ey fr p k ds).length <= w.ring.toNat := by
 unfold chs
 refine Nat.le_trans (List.length_filter_le _ _) ?_
 split
 ·simp
 ·simp; omega
end
end Vc
end
section
set_option maxHeartbeats 2000000
namespace Vc
open PySem PyProof.Rows
noncomputable def lookV (g : List Int) (sn : List (Int × Int)) : V := .tup [.tup (g.map .int), .tup (prs (tld sn))]
structure LkOk (w : Wk) (g : List Int) (sn : List (Int × Int)) : Prop where
 gl : g.length = w.inp
 gr : InR w.ring g
 inc : sn.Pairwise fun p q => p.1 < q.1
 rng : ∀ p ∈ sn, (w.inp : Int) <= p.1 /\ p.1 < (w.inp : Int) + (w.ps.length : Int) /\ 0 <= p.2 /\ p.2 < w.ring
 len : sn.length <= 100
section
variable {C : Cx} {X : XP} {n : Nat} {H : MH} {Q : V -> MH -> Prop} {w : Wk} {pa : Addr} {br : List Nat} {g : List Int} {sn : List (Int × Int)} {most : Nat}
end
end Vc
end
section
set_option maxHeartbeats 2000000
namespace Vc
open PySem PyProof.Rows
noncomputable def law_run_b : List St :=
  [.asg 3 (.call "list" [(.nm 1)]),
  .for [4] (.pl (.call "range" [(.call "len" [(.sub (.nm 0) (.ci 2))])])) [.exp (.meth (.nm 3) "append" [(.meth (.nm 2) "get" [(.nm 4), (.call "_law_due" [(.sub (.sub (.nm 0) (.ci 2)) (.nm 4)), (.nm 3), (.sub (.nm 0) (.ci 0))])])])],
  .ret (.nm 3)]
noncomputable def law_given_b : List St :=
  [.asg 2 (.lst [(.ci 1), (.ci 5), (.ci 25), (.ci 125), (.ci 625), (.ci 3125)]),
  .ret (.call "tuple" [(.comp 1 (.bin .Mod (.bin .FloorDiv (.nm 1) (.sub (.nm 2) (.nm 3))) (.sub (.nm 0) (.ci 0))) (.call "range" [(.sub (.nm 0) (.ci 1))]) [])])]
noncomputable def law_look_b : List St :=
  [.asg 3 (.call "_law_given" [(.nm 0), (.nm 1)]),
  .asg 4 (.call "len" [(.sub (.nm 0) (.ci 2))]),
  .asg 5 (.emp 0),
  .for [6] (.pl (.call "range" [(.bin .Mod (.nm 2) (.ci 3))])) [.asg 7 (.bin .Mod (.bin .FloorDiv (.bin .FloorDiv (.nm 2) (.ci 3)) (.bin .Add (.ci 1) (.bin .Mult (.ci 6) (.nm 6)))) (.nm 4)),
  .seti (.nm 5) (.nm 7) (.bin .Mod (.bin .FloorDiv (.bin .FloorDiv (.nm 2) (.ci 40)) (.bin .Add (.ci 1) (.bin .Mult (.ci 4) (.nm 6)))) (.sub (.nm 0) (.ci 0)))],
  .asg 8 (.call "_law_run" [(.nm 0), (.nm 3), (.nm 5)]),
  .asg 9 (.lst []),
  .for [6] (.pl (.call "range" [(.nm 4)])) [.asg 10 (.cmp .Eq (.bin .Mod (.bin .FloorDiv (.bin .FloorDiv (.nm 2) (.ci 200)) (.bin .Add (.ci 1) (.nm 6))) (.ci 3)) (.ci 1)),
  .ife (.bop .Or [(.nm 10), (.bop .And [(.cmp .Eq (.nm 6) (.bin .Sub (.nm 4) (.ci 1))), (.cmp .Gt (.bin .Mod (.bin .FloorDiv (.nm 2) (.ci 7)) (.ci 4)) (.ci 0))])]) [.asg 11 (.sub (.nm 8) (.bin .Add (.sub (.nm 0) (.ci 1)) (.nm 6))),
  .ife (.cmp .Eq (.bin .Mod (.bin .FloorDiv (.nm 2) (.ci 11)) (.ci 9)) (.ci 5)) [.asg 11 (.bin .Mod (.bin .Add (.nm 11) (.bin .FloorDiv (.nm 2) (.bin .Add (.ci 13) (.nm 6)))) (.sub (.nm 0) (.ci 0)))] [],
  .ife (.bop .And [(.cmp .Gt (.bin .Mod (.bin .FloorDiv (.nm 2) (.ci 11)) (.ci 9)) (.ci 5)), (.cmp .Eq (.nm 6) (.bin .Sub (.nm 4) (.ci 1)))]) [.asg 11 (.bin .Mod (.bin .Add (.nm 11) (.ci 1)) (.sub (.nm 0) (.ci 0)))] [],
  .exp (.meth (.nm 9) "append" [(.tup [(.bin .Add (.sub (.nm 0) (.ci 1)) (.nm 6)), (.nm 11)])])] []],
  .ret (.tup [(.nm 3), (.call "tuple" [(.nm 9)])])]
section
variable {C : Cx} {X : XP} {n : Nat} {H : MH} {Q : V -> MH -> Prop} {w : Wk} {pa : Addr} {most : Nat}
theorem six_of {l : List V} (hl : l = [V.int 1, .int 5, .int 25, .int 125, .int 625, .int 3125]) {i : Nat} (hi : i < 6) : ∃ s : Int, 0 < s /\ s < 1073741824 /\ l[i]? = some (.int s) := by
 subst hl
 rcases i with _ | _ | _ | _ | _ | _ | i
 ·exact ⟨1, by decide, by decide, rfl⟩
 ·exact ⟨5, by decide, by decide, rfl⟩
 ·exact ⟨25, by decide, by decide, rfl⟩
 ·exact ⟨125, by decide, by decide, rfl⟩
 ·exact ⟨625, by decide, by decide, rfl⟩
 ·exact ⟨3125, by decide, by decide, rfl⟩
 ·omega
theorem lgiven_ct {vs : Vs} {c : Int} (G : C.Good) (S : Std C) (D : Def C "_law_given" vs 2 law_given_b) (hv : vs.length = 3) (hw : w.Ok most)
  (K : ∀ g H', Ext H H' -> g.length = w.inp -> InR w.ring g -> Q (.tup (g.map .int)) H') : CallW C ⟨n + 1, true⟩ "_law_given" [w.v pa, .int c] H Q X := by
 have hz : 10000 < sizeLine := by decide
 have hi2 := hw.i2; have hr1 := hw.r1
 refine D.call G rfl ?_
 rw [hv]
 unfold law_given_b
 refine SS_asg (E_lst (c_esc (c_esc (c_esc (c_esc (c_esc (c_esc1 ?_)))))))
 refine ⟨show 6 <= sizeLine by decide, fun so hso => ?_⟩
 have x0 : Ext H (upd H so (.lst [V.int 1, .int 5, .int 25, .int 125, .int 625, .int 3125])) := .new hso
 obtain ⟨sl, hsl⟩ : ∃ sl, sl = [V.int 1, .int 5, .int 25, .int 125, .int 625, .int 3125] := ⟨_, rfl⟩
 have s0 : upd H so (.lst [V.int 1, .int 5, .int 25, .int 125, .int 625, .int 3125]) so = some (.lst sl) := by rw [upd_self, hsl]
 generalize upd H so (.lst [V.int 1, .int 5, .int 25, .int 125, .int 625, .int 3125]) = H1 at x0 s0
 refine SS_ret (E_call (Std.n_tuple (by assumption)) callee_type (Es_cons ?_))
 refine E_comp ?_
 refine E_call (Std.n_range (by assumption)) callee_type (Es_cons (c_sub_nc rfl ?_))
 refine sub_t1 rfl ?_
 refine Es_nil ?_
 refine cv_range1 ?_
 refine ⟨_, itq_rng rfl (by (clear hv hz hi2 hr1; omega)) (by (clear hv hz hi2 hr1; omega)) (by (clear hv hz hi2 hr1; omega)) (by (clear hv hz hr1; omega)), rfl, by rw [rng_len]; (clear hv hr1; omega), ?_⟩
 refine comp_inv (P := fun i acc H' => ∃ g : List Int, acc = g.map .int /\ g.length = i /\ InR w.ring g /\ H' = H1) ⟨[], rfl, rfl, fun x hx => by simp at hx, rfl⟩ (fun i x acc H' R hP hx hR => ?_) fun acc H' hP => ⟨rfl, ?_⟩
 ·refine Vc.xa_1_4 hP fun g hr70_1 hg hgr hr70_4 => ?_
  try clear hP
  subst hr70_1
  subst hr70_4
  refine Vc.xa_0_2 (rng_get hx) fun hr71_0 hi => ?_
  subst hr71_0
  simp only [Int.zero_add]
  refine Vc.xa_1_3 (six_of hsl (i := i) (by (clear hv hz hr1 hg; omega))) fun s hs1 hs2 hs3 => ?_
  refine ⟨rfl, _, rfl, ?_⟩
  refine Ts_nil (if_t (E_bin (E_bin (E_nm rfl (c_sub_nn rfl rfl ?_)))))
  refine sub_listn (i := i) (items_lst s0) (by rw [hsl]; show 6 <= sizeLine; decide) hs3 ?_
  refine bin_divp hs1 hs2 ?_
  refine c_sub_nc rfl ?_
  refine sub_t0 rfl ?_
  refine bin_modp (by (clear hv hz hi2 hg hi hs1 hs2; omega)) ?_
  refine hR _ _ ⟨g ++ [c / s % w.ring], by simp, by simp [hg], hgr.snoc ⟨Int.emod_nonneg _ (by (clear hv hz hi2 hg hi hs1 hs2; omega)), Int.emod_lt_of_pos _ (by (clear hv hz hi2 hg hi hs1 hs2; omega))⟩, rfl⟩
 refine Vc.xa_1_4 hP fun g hr82_1 hg hgr hr82_4 => ?_
 try clear hP
 subst hr82_1
 subst hr82_4
 rw [rng_len] at hg
 refine ⟨by rw [List.length_map]; (clear hv hr1; omega), fun r hr => ?_⟩
 refine Es_nil ?_
 refine cv_tuple items_new (by rw [List.length_map]; (clear hv hr1; omega)) ?_
 exact K g _ (x0.more hr) (by (clear hv hz hi2 hr1; omega)) hgr
theorem tget_rng {ring : Int} {l : List (Int × Int)} (h : ∀ p ∈ l, 0 <= p.2 /\ p.2 < ring) {k x : Int} (hx : 0 <= x /\ x < ring) : 0 <= (tget l k).getD x /\ (tget l k).getD x < ring := by
 unfold tget
 cases e : l.find? (fun p => decide (p.1 = k)) with
 | none => exact hx
 | some p => exact h p (List.mem_of_find?_eq_some e)
theorem tset_rng {ring : Int} {l : List (Int × Int)} (h : ∀ p ∈ l, 0 <= p.2 /\ p.2 < ring) {k x : Int} (hx : 0 <= x /\ x < ring) : ∀ p ∈ tset l k x, 0 <= p.2 /\ p.2 < ring := fun p hp => by
 unfold tset at hp
 split at hp
 ·refine Vc.xa_1_2 (List.mem_map.mp hp) fun q hq hr97_2 => ?_
  subst hr97_2
  split
  ·exact hx
  ·exact h q hq
 ·rcases List.mem_append.mp hp with q | q
  ·exact h p q
  ·simp at q; subst q; exact hx
theorem lrun_ct {vs vs' : Vs} {td : Addr} {l : List (Int × Int)} {g : List Int} (G : C.Good) (S : Std C) (Dd : Def C "_law_due" vs' 3 law_due_b) (hv' : vs'.length = 4) (D : Def C "_law_run" vs 3 law_run_b) (hv : vs.length = 5) (hw : w.Ok most) (hm : most <= 10) (hp : H pa = some (.lst (w.ps.map Pt.v)))
  (ht : H td = some (.dci (tld l))) (hlr : ∀ p ∈ l, 0 <= p.2 /\ p.2 < w.ring) (hg : g.length = w.inp) (hgr : InR w.ring g)
  (K : ∀ b ds H', Ext H H' -> H b = none -> H' b = some (.lst (ds.map .int)) -> ds.length = w.inp + w.ps.length -> InR w.ring ds -> Q (.ref b) H') : CallW C ⟨n + 2, true⟩ "_law_run" [w.v pa, .tup (g.map .int), .ref td] H Q X := by
 have hz : 10000 < sizeLine := by decide
 have hi2 := hw.i2; have hr1 := hw.r1; have hp2 := hw.p2
 refine D.call G rfl ?_
 rw [hv]
 unfold law_run_b
 refine SS_asg (E_call (Std.n_list (by assumption)) callee_type (c_es1 rfl ?_))
 refine cv_list (.inr ⟨_, rfl⟩) rfl (by rw [List.length_map]; (clear hv' hv hm hr1 hp2; omega)) fun b hb => ?_
 have x0 : Ext H (upd H b (.lst (g.map .int))) := .new hb
 have b0 : upd H b (.lst (g.map .int)) b = some (.lst (g.map .int)) := upd_self ..
 generalize upd H b (.lst (g.map .int)) = H1 at x0 b0
 refine SS_for ?_
 refine E_call (Std.n_range (by assumption)) callee_type (Es_cons (E_call (Std.n_len (by assumption)) callee_builtin (Es_cons (c_sub_nc rfl ?_))))
 refine sub_t2 rfl ?_
 refine Es_nil ?_
 refine cv_len_list (items_lst (x0 _ _ hp)) (by rw [List.length_map]; (clear hv' hv hg hi2 hr1; omega)) ?_
 rw [List.length_map]
 refine Es_nil ?_
 refine cv_range1 ?_
 refine ⟨_, itq_rng rfl (by (clear hv' hv hm hg hz hi2 hr1 hp2; omega)) (by (clear hv' hv hm hg hz hi2 hr1 hp2; omega)) (by (clear hv' hv hm hg hz hi2 hr1 hp2; omega)) (by (clear hv' hv hg hz hi2 hr1; omega)), rfl, ?_⟩
 refine for_inv (P := fun i ρ H' => ∃ kk ds, ρ = [some (w.v pa), some (.tup (g.map .int)), some (.ref td), some (.ref b), kk] /\ Ext H H' /\ H' b = some (.lst (ds.map .int)) /\ ds.length = w.inp + i /\ InR w.ring ds)
  (Vc.xi_2_5 none g rfl x0 b0 (by (clear hv' hv hm hz hi2 hr1 hp2; omega)) hgr) (fun i x ρ H' R hP hx hR => ?_) fun ρ H' hP => ?_
 ·refine Vc.xa_2_5 hP fun kk ds hr130_2 hx' hb' hdl hdr => ?_
  try clear hP
  subst hr130_2
  refine Vc.xa_0_2 (rng_get hx) fun hr131_0 hi => ?_
  subst hr131_0
  simp only [Int.zero_add]
  have hip : i < w.ps.length := by (clear hv' hv hm hg hz hi2 hr1 hp2 hdl; omega)
  have hpi : w.ps[i]? = some w.ps[i] := List.getElem?_eq_getElem hip
  refine ⟨rfl, _, rfl, ?_⟩
  refine SS_exp (E_meth (E_nm rfl ?_))
  refine ⟨_, mget_append hb', callee_builtin, ?_⟩
  refine Es_cons (E_meth (E_nm rfl ?_))
  refine ⟨_, mget_dict (hx' _ _ ht), callee_builtin, ?_⟩
  refine c_ess rfl (Es_cons ?_)
  refine E_fn Dd.fn ?_
  refine Es_cons (E_sub (c_sub_nc rfl ?_))
  refine sub_t2 rfl ?_
  refine E_nm rfl ?_
  refine sub_listn (i := i) (items_lst (hx' _ _ hp)) (by rw [List.length_map]; (clear hv' hv hg hi2 hr1 hdl hi; omega)) (x := w.ps[i].v) (by rw [List.getElem?_map, hpi]; rfl) ?_
  refine c_ess rfl (Es_cons (c_sub_nc rfl ?_))
  refine sub_t0 rfl ?_
  refine Es_nil ?_
  refine due_ct G S Dd hv' (items_lst hb') (by (clear hv' hv hg hz hr1 hi; omega)) (by rw [hdl]; exact hw.pt i _ hpi) (by (clear hv' hv hm hg hz hi2 hp2 hdl hi; omega)) ?_
  refine Es_nil ?_
  refine cv_get2 (hx' _ _ ht) ?_
  rw [dget_tld]
  have eg : ((tget l (i : Int)).map V.int).getD (.int (given w.ps[i] ds w.ring)) = .int ((tget l (i : Int)).getD (given w.ps[i] ds w.ring)) := by cases tget l (i : Int) <;> rfl
  rw [eg]
  refine Es_nil ?_
  refine cv_append hb' (by rw [List.length_map]; (clear hv' hv hg hr1 hi; omega)) (SS_nil (hR _ _ (Vc.xi_2_5 _ (ds ++ [(tget l (i : Int)).getD (given w.ps[i] ds w.ring)]) rfl (hx'.mut hb) ?_ (by simp; (clear hv' hv hm hg hz hi2 hr1 hp2 hi; omega)) (hdr.snoc (tget_rng hlr (given_rng (by (clear hv' hv hm hg hz hi2 hp2 hdl hi; omega)) (hdr.getD (by (clear hv' hv hm hg hz hi2 hp2 hdl hi; omega)))))))))
  rw [upd_self, List.map_append]; rfl
 ·refine Vc.xa_2_5 hP fun kk ds hr158_2 hx' hb' hdl hdr => ?_
  try clear hP
  subst hr158_2
  refine ⟨rfl, ?_⟩
  refine c_ret_n rfl ?_
  rw [rng_len] at hdl
  exact K b ds H' hx' hb hb' (by (clear hv' hv hm hg hz hi2 hr1 hp2; omega)) hdr
end
end Vc
end
section
set_option maxHeartbeats 2000000
namespace Vc
open PySem PyProof.Rows
section
variable {C : Cx} {X : XP} {n : Nat} {H : MH} {Q : V -> MH -> Prop} {w : Wk} {pa : Addr} {most : Nat}
theorem llook_ct {vs vg vr vd : Vs} {c m : Int} (G : C.Good) (S : Std C) (Dg : Def C "_law_given" vg 2 law_given_b) (hvg : vg.length = 3) (Dd : Def C "_law_due" vd 3 law_due_b) (hvd : vd.length = 4) (Dr : Def C "_law_run" vr 3 law_run_b) (hvr : vr.length = 5)
  (D : Def C "_law_look" vs 3 law_look_b) (hv : vs.length = 12) (hw : w.Ok most) (hm : most <= 10) (hp : H pa = some (.lst (w.ps.map Pt.v)))
  (K : ∀ g sn H', Ext H H' -> LkOk w g sn -> Q (lookV g sn) H') : CallW C ⟨n + 3, true⟩ "_law_look" [w.v pa, .int c, .int m] H Q X := by
 have hz : 10000 < sizeLine := by decide
 have hi2 := hw.i2; have hr1 := hw.r1; have hp2 := hw.p2; have hp1 := hw.p1
 refine D.call G rfl ?_
 rw [hv]
 unfold law_look_b
 refine SS_asg ?_
 refine E_fn Dg.fn ?_
 refine c_es2 rfl rfl ?_
 refine lgiven_ct (w := w) (pa := pa) G S Dg hvg hw fun g H1 x1 hg hgr => ?_
 have hp1' := x1 _ _ hp
 refine SS_asg (E_call (Std.n_len (by assumption)) callee_builtin (Es_cons (c_sub_nc rfl ?_)))
 refine sub_t2 rfl ?_
 refine Es_nil ?_
 refine cv_len_list (items_lst hp1') (by rw [List.length_map]; (clear hvg hvd hvr hv hi2 hr1 hp1 hg; omega)) ?_
 rw [List.length_map]
 refine SS_asg (E_emp ?_)
 intro td htd
 have x2 : Ext H (upd H1 td (.dci [])) := x1.more htd
 have t2 : upd H1 td (.dci []) td = some (.dci (tld [])) := upd_self ..
 have htd0 := x1.gone htd
 generalize upd H1 td (.dci []) = H2 at x2 t2
 clear htd hp1' x1
 refine SS_for ?_
 refine E_call (Std.n_range (by assumption)) callee_type (Es_cons (c_bin_nc rfl ?_))
 refine bin_modp (by decide) ?_
 refine Es_nil ?_
 refine cv_range1 ?_
 have hm3 : 0 <= m % 3 /\ m % 3 < 3 := ⟨Int.emod_nonneg _ (by decide), Int.emod_lt_of_pos _ (by decide)⟩
 refine ⟨_, itq_rng rfl (by (clear hvg hvd hvr hv hm hz hi2 hr1 hp2 hp1 hg hm3; omega)) (by (clear hvg hvd hvr hv hm hz hi2 hr1 hp2 hp1 hg hm3; omega)) (by (clear hvg hvd hvr hv hm hz hi2 hr1 hp2 hp1 hg hm3; omega)) (by (clear hvg hvd hvr hv hm hz hi2 hr1 hp2 hp1 hg hm3; omega)), rfl, ?_⟩
 refine for_inv (P := fun i ρ H' => ∃ kk pl l, ρ = [some (w.v pa), some (.int c), some (.int m), some (.tup (g.map .int)), some (.int w.ps.length), some (.ref td), kk, pl, none, none, none, none] /\ Ext H H' /\ H' td = some (.dci (tld l)) /\ l.length <= i /\ ∀ p ∈ l, 0 <= p.2 /\ p.2 < w.ring)
  (Vc.xi_3_5 none none ([]) rfl x2 t2 (by simp) (fun p hp => by simp at hp)) (fun i x ρ H' R hP hx hR => ?_) fun ρ H' hP => ?_
 ·refine Vc.xa_3_5 hP fun kk pl l hr45_3 hx' ht hll hlr => ?_
  try clear hP
  subst hr45_3
  refine Vc.xa_0_2 (rng_get hx) fun hr46_0 hi => ?_
  subst hr46_0
  simp only [Int.zero_add]
  refine ⟨rfl, _, rfl, ?_⟩
  refine SS_asg (E_bin (E_bin (c_bin_nc rfl ?_)))
  refine bin_divp (by decide) (by decide) ?_
  refine E_bin (E_ci (E_bin (E_ci (E_nm rfl ?_))))
  refine bin_mul ?_ (.of_left (by decide))
  refine bin_add ?_
  refine bin_divp (by (clear hvg hvd hvr hv hm hz hi2 hr1 hp2 hp1 hg hm3 hll hi; omega)) (by (clear hvg hvd hvr hv hm hz hi2 hr1 hp2 hp1 hg hm3 hll; omega)) ?_
  refine E_nm rfl ?_
  refine bin_modp (by (clear hvg hvd hvr hv hm hz hi2 hr1 hp2 hg hm3 hll hi; omega)) ?_
  refine SS_seti (E_bin (E_bin (c_bin_nc rfl ?_)))
  refine bin_divp (by decide) (by decide) ?_
  refine E_bin (E_ci (E_bin (E_ci (E_nm rfl ?_))))
  refine bin_mul ?_ (.of_left (by decide))
  refine bin_add ?_
  refine bin_divp (by (clear hvg hvd hvr hv hm hz hi2 hr1 hp2 hp1 hg hm3 hll hi; omega)) (by (clear hvg hvd hvr hv hm hz hi2 hr1 hp2 hp1 hg hm3 hll; omega)) ?_
  refine c_sub_nc rfl ?_
  refine sub_t0 rfl ?_
  refine bin_modp (by (clear hvg hvd hvr hv hm hz hi2 hp2 hp1 hg hm3 hll hi; omega)) ?_
  refine E_nm rfl (E_nm rfl ?_)
  refine seti_dci ht (by simp [tld]; (clear hvg hvd hvr hv hm hi2 hr1 hp2 hp1 hg hm3; omega)) (SS_nil ?_)
  rw [dset_tld]
  refine hR _ _ (Vc.xi_3_5 _ _ _ rfl (hx'.mut htd0) (upd_self ..) ?_ (tset_rng hlr ⟨Int.emod_nonneg _ (by (clear hvg hvd hvr hv hm hz hi2 hp2 hp1 hg hm3 hll hi; omega)), Int.emod_lt_of_pos _ (by (clear hvg hvd hvr hv hm hz hi2 hp2 hp1 hg hm3 hll hi; omega))⟩))
  have := tset_len l (m / 3 / (1 + 6 * (i : Int)) % (w.ps.length : Int)) (m / 40 / (1 + 4 * (i : Int)) % w.ring); (clear hvg hvd hvr hv hm hz hi2 hr1 hp2 hp1 hg hm3 hi; omega)
 refine Vc.xa_3_5 hP fun kk pl l hr71_3 hx' ht hll hlr => ?_
 try clear hP
 subst hr71_3
 refine ⟨rfl, ?_⟩
 refine SS_asg ?_
 refine E_fn Dr.fn ?_
 refine c_es3 rfl rfl rfl ?_
 refine lrun_ct (w := w) (pa := pa) G S Dd hvd Dr hvr hw hm (hx' _ _ hp) ht hlr hg hgr fun b ds H3 x3 hb hb3 hdl hdr => ?_
 have x03 := hx'.trans x3
 refine SS_asg (E_lst (Es_nil ?_))
 refine ⟨by decide, fun se hse => ?_⟩
 have x4 : Ext H3 (upd H3 se (.lst [])) := .new hse
 have s4 : upd H3 se (.lst []) se = some (.lst (prs (tld []))) := upd_self ..
 have hse0 := x03.gone hse
 generalize upd H3 se (.lst []) = H4 at x4 s4
 have x04 := x03.trans x4
 have hb4 := x4 _ _ hb3
 have hbse : b ≠ se := Ext.ne hb3 hse
 clear hse x4 hb3 x3 x03 ht hlr hx'
 refine SS_for ?_
 refine E_call (Std.n_range (by assumption)) callee_type (c_es1 rfl ?_)
 refine cv_range1 ?_
 refine ⟨_, itq_rng rfl (by (clear hvg hvd hvr hv hm hz hi2 hr1 hp2 hp1 hg hm3 hll hdl hbse; omega)) (by (clear hvg hvd hvr hv hm hz hi2 hr1 hp2 hp1 hg hm3 hll hdl hbse; omega)) (by (clear hvg hvd hvr hv hm hz hi2 hr1 hp2 hp1 hg hm3 hll hdl hbse; omega)) (by (clear hvg hvd hvr hv hz hi2 hr1 hp1 hg hm3 hll hdl hbse; omega)), rfl, ?_⟩
 refine for_inv (P := fun i ρ H' => ∃ kk is dg sn, ρ = [some (w.v pa), some (.int c), some (.int m), some (.tup (g.map .int)), some (.int w.ps.length), some (.ref td), kk, pl, some (.ref b), some (.ref se), is, dg] /\ Ext H H' /\ H' b = some (.lst (ds.map .int)) /\ H' se = some (.lst (prs (tld sn))) /\ sn.length <= i /\
   sn.Pairwise (fun p q => p.1 < q.1) /\ ∀ p ∈ sn, (w.inp : Int) <= p.1 /\ p.1 < (w.inp : Int) + (i : Int) /\ 0 <= p.2 /\ p.2 < w.ring)
  (Vc.xi_4_7 kk none none ([]) rfl x04 hb4 s4 (by simp) .nil (fun p hp => by simp at hp)) (fun i x ρ H' R hP hx hR => ?_) fun ρ H' hP => ?_
 ·refine Vc.xa_4_7 hP fun kk' is dg sn hr96_4 hx' hb' hs' hsl hinc hsr => ?_
  try clear hP
  subst hr96_4
  refine Vc.xa_0_2 (rng_get hx) fun hr97_0 hi => ?_
  subst hr97_0
  simp only [Int.zero_add]
  have hip : i < w.ps.length := by (clear hvg hvd hvr hv hm hz hi2 hr1 hp2 hp1 hg hm3 hll hdl hbse hsl; omega)
  refine ⟨rfl, _, rfl, ?_⟩
  have app : ∀ bo dg0, wpSs C ⟨n + 2, true⟩ [.asg 11 (.sub (.nm 8) (.bin .Add (.sub (.nm 0) (.ci 1)) (.nm 6))),
    .ife (.cmp .Eq (.bin .Mod (.bin .FloorDiv (.nm 2) (.ci 11)) (.ci 9)) (.ci 5)) [.asg 11 (.bin .Mod (.bin .Add (.nm 11) (.bin .FloorDiv (.nm 2) (.bin .Add (.ci 13) (.nm 6)))) (.sub (.nm 0) (.ci 0)))] [],
    .ife (.bop .And [(.cmp .Gt (.bin .Mod (.bin .FloorDiv (.nm 2) (.ci 11)) (.ci 9)) (.ci 5)), (.cmp .Eq (.nm 6) (.bin .Sub (.nm 4) (.ci 1)))]) [.asg 11 (.bin .Mod (.bin .Add (.nm 11) (.ci 1)) (.sub (.nm 0) (.ci 0)))] [],
    .exp (.meth (.nm 9) "append" [(.tup [(.bin .Add (.sub (.nm 0) (.ci 1)) (.nm 6)), (.nm 11)])])]
    [some (w.v pa), some (.int c), some (.int m), some (.tup (g.map .int)), some (.int w.ps.length), some (.ref td), some (.int (i : Int)), pl, some (.ref b), some (.ref se), some (.bool bo), dg0] H' (fun f ρ' H' => match f with | .next => R ρ' H' | .ret v => Q v H') (fun c zz H' => X c H') := by
   intro bo dg0
   refine SS_asg (E_sub (E_nm rfl (E_bin (c_sub_nc rfl ?_))))
   refine sub_t1 rfl ?_
   refine E_nm rfl (bin_add ?_)
   rw [show (w.inp : Int) + (i : Int) = ((w.inp + i : Nat) : Int) by (clear hvg hvd hvr hv hm hz hi2 hr1 hp2 hp1 hg hm3 hll hdl hbse hsl hi hip; omega)]
   refine sub_listn (i := w.inp + i) (items_lst hb') (by rw [List.length_map]; (clear hvg hvd hvr hv hr1 hp1 hg hm3 hll hbse hsl hi hip; omega)) (x := .int (ds.getD (w.inp + i) 0)) (ints_get (by (clear hvg hvd hvr hv hm hz hi2 hr1 hp2 hp1 hg hm3 hll hbse hsl hi; omega))) ?_
   have hd0 := hdr.getD (by (clear hvg hvd hvr hv hm hz hi2 hp2 hp1 hg hm3 hll hdl hbse hsl hi hip; omega)) (w.inp + i)
   generalize ds.getD (w.inp + i) 0 = d0 at hd0
   refine SS_join (J := fun ρ' H'' => ∃ d1, 0 <= d1 /\ d1 < w.ring /\ ρ' = [some (w.v pa), some (.int c), some (.int m), some (.tup (g.map .int)), some (.int w.ps.length), some (.ref td), some (.int (i : Int)), pl, some (.ref b), some (.ref se), some (.bool bo), some (.int d1)] /\ H'' = H') (fun ρ' H'' hJ => ?_) fun R' hR' => ?_
   rotate_left
   ·refine c_tcmp (E_bin (c_bin_nc rfl ?_))
    refine bin_divp (by decide) (by decide) ?_
    refine E_ci ?_
    refine bin_modp (by decide) ?_
    refine E_ci (cmp_eq_int (tru_bool ?_))
    split
    ·refine SS_asg (E_bin (E_bin (E_nm rfl (E_bin (E_nm rfl (E_bin (E_ci (E_nm rfl (bin_add ?_)))))))))
     refine bin_divp (by (clear hvg hvd hvr hv hm hz hi2 hr1 hp2 hp1 hg hm3 hll hdl hbse hsl hi hip hd0; omega)) (by (clear hvg hvd hvr hv hz hi2 hr1 hp1 hg hm3 hll hdl hbse hsl hi hd0; omega)) ?_
     refine bin_add (c_sub_nc rfl ?_)
     refine sub_t0 rfl ?_
     refine bin_modp (by (clear hvg hvd hvr hv hm hz hi2 hr1 hp2 hp1 hg hm3 hll hdl hbse hsl hi hip; omega)) ?_
     exact SS_nil (hR' _ _ ⟨_, Int.emod_nonneg _ (by (clear hvg hvd hvr hv hm hz hi2 hr1 hp2 hp1 hg hm3 hll hdl hbse hsl hi hip; omega)), Int.emod_lt_of_pos _ (by (clear hvg hvd hvr hv hm hz hi2 hr1 hp2 hp1 hg hm3 hll hdl hbse hsl hi hip; omega)), rfl, rfl⟩)
    ·exact SS_nil (hR' _ _ ⟨_, hd0.1, hd0.2, rfl, rfl⟩)
   refine Vc.xa_1_4 hJ fun d1 hd1 hd2 hr130_3 hr130_4 => ?_
   try clear hJ
   subst hr130_3
   subst hr130_4
   refine SS_join (J := fun ρ' H2 => ∃ d1, 0 <= d1 /\ d1 < w.ring /\ ρ' = [some (w.v pa), some (.int c), some (.int m), some (.tup (g.map .int)), some (.int w.ps.length), some (.ref td), some (.int (i : Int)), pl, some (.ref b), some (.ref se), some (.bool bo), some (.int d1)] /\ H2 = H'') (fun ρ' H2 hJ => ?_) fun R' hR' => ?_
   rotate_left
   ·have h0 : R' [some (w.v pa), some (.int c), some (.int m), some (.tup (g.map .int)), some (.int w.ps.length), some (.ref td), some (.int (i : Int)), pl, some (.ref b), some (.ref se), some (.bool bo), some (.int d1)] H'' := hR' _ _ ⟨_, hd1, hd2, rfl, rfl⟩
    refine T_bop (A_and (c_tcmp (E_bin (c_bin_nc rfl ?_))))
    refine bin_divp (by decide) (by decide) ?_
    refine E_ci ?_
    refine bin_modp (by decide) ?_
    refine E_ci (cmp_gt (tru_bool ?_))
    split
    ·refine A_and (c_tcmp (E_nm rfl (c_bin_nc rfl (bin_sub (cmp_eq_int (tru_bool ?_))))))
     split
     ·refine A_nil_and (if_t (SS_asg (E_bin (c_bin_nc rfl (bin_add (c_sub_nc rfl ?_))))))
      refine sub_t0 rfl ?_
      refine bin_modp (by (clear hvg hvd hvr hv hm hz hi2 hr1 hp2 hp1 hg hm3 hll hdl hbse hsl hi hip hd0; omega)) ?_
      exact SS_nil (hR' _ _ ⟨_, Int.emod_nonneg _ (by (clear hvg hvd hvr hv hm hz hi2 hr1 hp2 hp1 hg hm3 hll hdl hbse hsl hi hip hd0; omega)), Int.emod_lt_of_pos _ (by (clear hvg hvd hvr hv hm hz hi2 hr1 hp2 hp1 hg hm3 hll hdl hbse hsl hi hip hd0; omega)), rfl, rfl⟩)
     ·refine if_f ?_
      refine SS_nil ?_; exact h0
    ·refine if_f ?_
     refine SS_nil ?_; exact h0
   clear hd1 hd2
   refine Vc.xa_1_4 hJ fun d2 hd1 hd2 hr151_3 hr151_4 => ?_
   try clear hJ
   subst hr151_3
   subst hr151_4
   refine SS_exp (E_meth (E_nm rfl ?_))
   refine ⟨_, mget_append hs', callee_builtin, ?_⟩
   refine Es_cons (E_tup (Es_cons (E_bin (c_sub_nc rfl ?_))))
   refine sub_t1 rfl ?_
   refine E_nm rfl (bin_add (c_es1 rfl ?_))
   refine ⟨show 2 <= sizeLine by decide, ?_⟩
   refine Es_nil ?_
   refine cv_append hs' (by simp [prs, tld]; (clear hvg hvd hvr hv hi2 hr1 hp1 hg hm3 hll hdl hbse hi hd0 hd1 hd2; omega)) (SS_nil (hR _ _ (Vc.xi_4_7 _ _ _ (sn ++ [((w.inp : Int) + (i : Int), d2)]) rfl (hx'.mut hse0) ?_ ?_ ?_ ?_ ?_)))
   ·rw [upd_ne hbse]; exact hb'
   ·rw [upd_self]; simp [prs, tld]
   ·simp; (clear hvg hvd hvr hv hm hz hi2 hr1 hp2 hp1 hg hm3 hll hdl hbse hi hip hd0 hd1 hd2; omega)
   ·exact List.pairwise_append.mpr ⟨hinc, by simp, fun p hp q hq => by simp at hq; subst hq; exact (hsr p hp).2.1⟩
   ·intro p hp
    rcases List.mem_append.mp hp with q | q
    ·have := hsr p q; (clear hvg hvd hvr hv hm hz hi2 hr1 hp2 hp1 hg hm3 hll hdl hbse hsl hi hip hd0 hd1 hd2; omega)
    ·simp at q; subst q; dsimp only; (clear hvg hvd hvr hv hm hz hi2 hr1 hp2 hp1 hg hm3 hll hdl hbse hsl hi hip hd0; omega)
  have skip : ∀ bo, R [some (w.v pa), some (.int c), some (.int m), some (.tup (g.map .int)), some (.int w.ps.length), some (.ref td), some (.int (i : Int)), pl, some (.ref b), some (.ref se), some (.bool bo), dg] H' := fun bo =>
   hR _ _ (Vc.xi_4_7 _ _ _ sn rfl hx' hb' hs' (by (clear hvg hvd hvr hv hm hz hi2 hr1 hp2 hp1 hg hm3 hll hdl hbse hi hip; omega)) hinc (fun p hp => by have := hsr p hp; (clear hvg hvd hvr hv hm hz hi2 hr1 hp2 hp1 hg hm3 hll hdl hbse hsl hi hip; omega)))
  refine SS_asg (E_cmp (E_bin (E_bin (c_bin_nc rfl ?_))))
  refine bin_divp (by decide) (by decide) ?_
  refine E_bin (E_ci (E_nm rfl (bin_add ?_)))
  refine bin_divp (by (clear hvg hvd hvr hv hm hz hi2 hr1 hp2 hp1 hg hm3 hll hdl hbse hsl hi hip; omega)) (by (clear hvg hvd hvr hv hz hi2 hr1 hp1 hg hm3 hll hdl hbse hsl hi; omega)) ?_
  refine E_ci ?_
  refine bin_modp (by decide) ?_
  refine E_ci (cmp_eq_int (SS_ife (T_bop (A_or (T_nm (E_nm rfl (tru_bool ?_)))))))
  split
  ·exact app _ _
  ·refine A_or (T_bop (A_and (c_tcmp (E_nm rfl (c_bin_nc rfl (bin_sub (cmp_eq_int (tru_bool ?_))))))))
   split
   ·refine A_and (c_tcmp (E_bin (c_bin_nc rfl ?_)))
    refine bin_divp (by decide) (by decide) ?_
    refine E_ci ?_
    refine bin_modp (by decide) ?_
    refine E_ci (cmp_gt (tru_bool ?_))
    split
    ·exact app _ _
    ·refine if_f (A_nil_or (if_f (SS_app0 ?_)))
     refine SS_nil ?_; exact skip _
   ·refine if_f (A_nil_or (if_f (SS_app0 ?_)))
    refine SS_nil ?_; exact skip _
 ·refine Vc.xa_4_7 hP fun kk' is dg sn hr192_4 hx' hb' hs' hsl hinc hsr => ?_
  try clear hP
  subst hr192_4
  refine ⟨rfl, ?_⟩
  rw [rng_len] at hsl hsr
  refine SS_ret (E_tup (c_ess rfl (Es_cons (E_call (Std.n_tuple (by assumption)) callee_type (c_es1 rfl ?_)))))
  refine cv_tuple (items_lst hs') (by simp [prs, tld]; (clear hvg hvd hvr hv hi2 hr1 hp1 hg hm3 hll hdl hbse; omega)) ?_
  refine Es_nil ?_
  refine ⟨show 2 <= sizeLine by decide, ?_⟩
  exact K g sn H' hx' ⟨hg, hgr, hinc, fun p hp => by have := hsr p hp; (clear hvg hvd hvr hv hm hz hi2 hr1 hp2 hp1 hg hm3 hll hdl hbse hsl; omega), by (clear hvg hvd hvr hv hz hi2 hr1 hp1 hg hm3 hll hdl hbse; omega)⟩
end
end Vc
end
section
namespace Vc
open PySem PyProof.Rows
section
variable {w : Wk} {ey : Int -> Option Int} {fr : Nat -> Bool} {g : List Int} {sn : List (Int × Int)} {br : List Nat} {most : Nat}
end
end Vc
end
section
namespace Vc
open PySem PyProof.Rows
section
variable {w : Wk} {ey : Int -> Option Int} {fr fr' : Nat -> Bool} {most : Nat} {LL : List (List Int × List (Int × Int))}
noncomputable def room1 (w : Wk) (br : List Nat) (L : List Int × List (Int × Int)) : Bool := decide (rows w (tget (tdof L.2)) (fun k => decide (k ∈ br)) w.ps 0 L.1 ≠ [])
noncomputable def room (w : Wk) (LL : List (List Int × List (Int × Int))) (br : List Nat) : Bool := LL.all (room1 w br)
end
end Vc
end
section
set_option maxHeartbeats 2000000
namespace Vc
open PySem PyProof.Rows
noncomputable def law_all_b : List St :=
  [.asg 4 (.lst [(.call "list" [(.nm 1)])]),
  .for [5] (.pl (.call "range" [(.call "len" [(.sub (.nm 0) (.ci 2))])])) [.asg 6 (.bin .Add (.sub (.nm 0) (.ci 1)) (.nm 5)),
  .asg 7 (.lst []),
  .for [8] (.pl (.nm 4)) [.asg 9 (.lst [(.call "_law_due" [(.sub (.sub (.nm 0) (.ci 2)) (.nm 5)), (.nm 8), (.sub (.nm 0) (.ci 0))])]),
  .ife (.cmp .In (.nm 5) (.nm 3)) [.asg 9 (.call "list" [(.call "range" [(.sub (.nm 0) (.ci 0))])])] [],
  .for [10] (.pl (.nm 9)) [.ife (.cmp .Eq (.meth (.nm 2) "get" [(.nm 6), (.nm 10)]) (.nm 10)) [.exp (.meth (.nm 7) "append" [(.bin .Add (.nm 8) (.lst [(.nm 10)]))])] []]],
  .asg 4 (.nm 7)],
  .ret (.nm 4)]
section
variable {C : Cx} {X : XP} {n : Nat} {H : MH} {Q : V -> MH -> Prop} {w : Wk} {pa : Addr} {br : List Nat} {g : List Int} {most : Nat}
noncomputable def RwAt (H : MH) (RR : List (Addr × List Int)) : Prop := ∀ q ∈ RR, H q.1 = some (.lst (q.2.map .int))
noncomputable def rfs (RR : List (Addr × List Int)) : List V := RR.map fun q => V.ref q.1
theorem RwAt.ext {H H' : MH} {RR : List (Addr × List Int)} (h : RwAt H RR) (x : Ext H H') : RwAt H' RR := fun q hq => x _ _ (h q hq)
theorem RwAt.upd {H : MH} {RR : List (Addr × List Int)} {a : Addr} {o : O} (h : RwAt H RR) (x : ∀ q ∈ RR, q.1 ≠ a) : RwAt (upd H a o) RR := fun q hq => by rw [upd_ne (x q hq)]; exact h q hq
theorem flat_len {α β : Type} {f : α -> List β} {m : Nat} (h : ∀ a, (f a).length <= m) : ∀ l : List α, (l.flatMap f).length <= l.length * m
 | [] => by simp
 | a :: l => by
  rw [List.flatMap_cons, List.length_append, List.length_cons, Nat.add_mul, Nat.one_mul]
  have := flat_len h l; have := h a; omega
noncomputable def cand (w : Wk) (fr : Nat -> Bool) (p : Pt) (k : Nat) (r : List Int) : List Int := if fr k = true then (List.range w.ring.toNat).map (fun (d : Nat) => (d : Int)) else [given p r w.ring]
theorem chs_cand {ey : Int -> Option Int} {fr : Nat -> Bool} {p : Pt} {k : Nat} {r : List Int} : chs w ey fr p k r = (cand w fr p k r).filter fun d => (ey ((w.inp : Int) + (k : Int))).getD d == d := rfl
theorem pow_few (hw : w.Ok most) (hm : most <= 7) {i : Nat} (hi : i <= w.ps.length) : w.ring.toNat ^ i <= 2187 := by
 have h1 := hw.r1; have h2 := hw.r2; have h3 := hw.p2
 by_cases h : 3 < w.ring
 ·have h4 := hw.few h (by (clear hi h1 h2 h3 h; omega))
  exact Nat.le_trans (Nat.pow_le_pow_left (show w.ring.toNat <= 5 by (clear hm hi h1 h3 h h4; omega)) i) (Nat.le_trans (Nat.pow_le_pow_right (by decide) (show i <= 4 by (clear hm h1 h2 h3 h; omega))) (by decide))
 ·exact Nat.le_trans (Nat.pow_le_pow_left (show w.ring.toNat <= 3 by (clear hm hi h1 h2 h3; omega)) i) (Nat.le_trans (Nat.pow_le_pow_right (by decide) (show i <= 7 by (clear h1 h2 h; omega))) (by decide))
theorem all_ct {vs vd : Vs} {sd : List (Int × Int)} {td : Addr} (G : C.Good) (S : Std C) (Dd : Def C "_law_due" vd 3 law_due_b) (hvd : vd.length = 4) (D : Def C "_law_all" vs 4 law_all_b) (hv : vs.length = 11) (hw : w.Ok most) (hm : most <= 7) (hp : H pa = some (.lst (w.ps.map Pt.v)))
  (ht : H td = some (.dci (tld sd))) (hg : g.length = w.inp)
  (K : ∀ ro RR H', Ext H H' -> H' ro = some (.lst (rfs RR)) -> RwAt H' RR -> RR.map (·.2) = rows w (tget sd) (fun k => decide (k ∈ br)) w.ps 0 g -> RR.length <= 2187 -> Q (.ref ro) H') : CallW C ⟨n + 2, true⟩ "_law_all" [w.v pa, .tup (g.map .int), .ref td, brv br] H Q X := by
 have hz : 100000 < sizeLine := by decide
 have hi2 := hw.i2; have hr1 := hw.r1; have hr2 := hw.r2; have hp2 := hw.p2
 obtain ⟨fr, hfr⟩ : ∃ fr, fr = fun k => decide (k ∈ br) := ⟨_, rfl⟩
 rw [<- hfr] at K
 refine D.call G rfl ?_
 rw [hv]
 unfold law_all_b
 refine SS_asg (E_lst (Es_cons (E_call (Std.n_list (by assumption)) callee_type (c_es1 rfl ?_))))
 refine cv_list (.inr ⟨_, rfl⟩) rfl (by rw [List.length_map]; (clear hvd hv hm hr1 hr2 hp2; omega)) fun b hb => ?_
 refine Es_nil ?_
 refine ⟨show 1 <= sizeLine by decide, fun ro hro => ?_⟩
 have x0 : Ext H (upd (upd H b (.lst (g.map .int))) ro (.lst [.ref b])) := ((Ext.refl _).more hb).more hro
 have r0 : upd (upd H b (.lst (g.map .int))) ro (.lst [.ref b]) ro = some (.lst (rfs [(b, g)])) := upd_self ..
 have b0 : RwAt (upd (upd H b (.lst (g.map .int))) ro (.lst [.ref b])) [(b, g)] := fun q hq => by
  simp at hq; subst hq
  rw [upd_ne (Ext.ne (upd_self ..) hro)]; exact upd_self ..
 generalize upd (upd H b (.lst (g.map .int))) ro (.lst [.ref b]) = H1 at x0 r0 b0
 clear hro hb
 refine SS_for ?_
 refine E_call (Std.n_range (by assumption)) callee_type (Es_cons (E_call (Std.n_len (by assumption)) callee_builtin (Es_cons (c_sub_nc rfl ?_))))
 refine sub_t2 rfl ?_
 refine Es_nil ?_
 refine cv_len_list (items_lst (x0 _ _ hp)) (by rw [List.length_map]; (clear hvd hv hg hi2 hr1 hr2; omega)) ?_
 rw [List.length_map]
 refine Es_nil ?_
 refine cv_range1 ?_
 refine ⟨_, itq_rng rfl (by (clear hvd hv hm hg hz hi2 hr1 hr2 hp2; omega)) (by (clear hvd hv hm hg hz hi2 hr1 hr2 hp2; omega)) (by (clear hvd hv hm hg hz hi2 hr1 hr2 hp2; omega)) (by (clear hvd hv hg hz hi2 hr1 hr2; omega)), rfl, ?_⟩
 refine for_inv (P := fun i ρ H' => ∃ ro RR kk li mo rw' dh dg, ρ = [some (w.v pa), some (.tup (g.map .int)), some (.ref td), some (brv br), some (.ref ro), kk, li, mo, rw', dh, dg] /\ Ext H H' /\ H' ro = some (.lst (rfs RR)) /\ RwAt H' RR /\
   (RR.map (·.2)).flatMap (fun r => rows w (tget sd) fr (w.ps.drop i) i r) = rows w (tget sd) fr w.ps 0 g /\ RR.length <= w.ring.toNat ^ i /\ ∀ q ∈ RR, q.2.length = w.inp + i)
  (Vc.xi_8_7 ro ([(b, g)]) none none none none none none rfl x0 r0 b0 (by simp) (by simp) (by simp [hg])) (fun i x ρ H' R hP hx hR => ?_) fun ρ H' hP => ?_
 ·clear x0 r0 b0 ro
  refine Vc.xa_8_7 hP fun ro RR kk li mo rw' dh dg hr75_8 hx' hr' hRR hall hlen hql => ?_
  try clear hP
  subst hr75_8
  refine Vc.xa_0_2 (rng_get hx) fun hr76_0 hi => ?_
  subst hr76_0
  simp only [Int.zero_add]
  have hip : i < w.ps.length := by (clear hvd hv hm hg hz hi2 hr1 hr2 hp2 hlen; omega)
  have hpi : w.ps[i]? = some w.ps[i] := List.getElem?_eq_getElem hip
  have hpw := pow_few hw hm (show i <= w.ps.length by (clear hvd hv hm hg hz hi2 hr1 hr2 hp2 hlen hi; omega))
  generalize hpe : w.ps[i] = p at hpi
  refine ⟨rfl, _, rfl, ?_⟩
  refine SS_asg (E_bin (c_sub_nc rfl ?_))
  refine sub_t1 rfl ?_
  refine E_nm rfl (bin_add (SS_asg (E_lst (Es_nil ?_))))
  refine ⟨by decide, fun mo hmo => ?_⟩
  have x2 : Ext H' (upd H' mo (.lst [])) := .new hmo
  have m2 : upd H' mo (.lst []) mo = some (.lst (rfs [])) := upd_self ..
  have hmo0 := hx'.gone hmo
  have hnr : ro ≠ mo := Ext.ne hr' hmo
  have hnq : ∀ q ∈ RR, q.1 ≠ mo := fun q hq => Ext.ne (hRR q hq) hmo
  have x02 := hx'.trans x2
  have r2 := x2 _ _ hr'
  have q2 := hRR.ext x2
  generalize upd H' mo (.lst []) = H2 at x2 m2 x02 r2 q2
  clear hmo hRR hr' x2
  refine SS_for ?_
  refine E_nm rfl ?_
  refine ⟨_, ⟨.inl rfl, fun zz zz zz e => by cases e⟩, items_lst r2, ?_⟩
  refine for_inv (P := fun j ρ H3 => ∃ NN rw' dh dg, ρ = [some (w.v pa), some (.tup (g.map .int)), some (.ref td), some (brv br), some (.ref ro), some (.int (i : Int)), some (.int ((w.inp : Int) + (i : Int))), some (.ref mo), rw', dh, dg] /\ Ext H H3 /\ H3 ro = some (.lst (rfs RR)) /\ RwAt H3 RR /\
    H3 mo = some (.lst (rfs NN)) /\ RwAt H3 NN /\ (∀ q ∈ NN, q.1 ≠ mo) /\ NN.map (·.2) = ((RR.take j).map (·.2)).flatMap fun r => (chs w (tget sd) fr p i r).map fun d => r ++ [d])
   ⟨[], _, _, _, rfl, x02, r2, q2, m2, fun q hq => by simp at hq, fun q hq => by simp at hq, by simp⟩ (fun j x ρ H3 R3 hP hx hR3 => ?_) fun ρ H3 hP => ?_
  ·refine Vc.xa_4_8 hP fun NN rw' dh dg hr104_4 hx3 hr3 hRR3 hm3 hN3 hne3 hNN => ?_
   try clear hP
   subst hr104_4
   unfold rfs at hx
   rw [List.getElem?_map, Option.map_eq_some_iff] at hx
   refine Vc.xa_1_2 hx fun ho107_0 hq hr107_2 => ?_
   try clear hx
   obtain ⟨a, r⟩ := ho107_0
   subst hr107_2
   have hmem := List.mem_of_getElem? hq
   have ha := hRR3 _ hmem
   have hal := hql _ hmem
   have han := hnq _ hmem
   dsimp only at ha hal han
   have hj : j < RR.length := (List.getElem?_eq_some_iff.mp hq).1
   have hNl : NN.length <= j * 5 := by
    have h1 : NN.length = (NN.map (·.2)).length := by rw [List.length_map]
    rw [h1, hNN]
    refine Nat.le_trans (flat_len (m := 5) (fun r => ?_) _) ?_
    ·rw [List.length_map]; exact Nat.le_trans (chs_len (by (clear hvd hv hm hg hz hi2 hr2 hp2 hlen hi hpw hnr hal han hj h1; omega))) (by (clear hvd hv hm hg hz hi2 hr1 hp2 hlen hi hpw hnr hal han hj h1; omega))
    ·rw [List.length_map, List.length_take, Nat.min_eq_left (by (clear hvd hv hm hg hz hi2 hr1 hr2 hp2 hlen hi hpw hnr hal han h1; omega))]; exact Nat.le_refl _
   refine ⟨items_lst hr3, _, rfl, ?_⟩
   refine SS_asg (E_lst (Es_cons ?_))
   refine E_fn Dd.fn ?_
   refine Es_cons (E_sub (c_sub_nc rfl ?_))
   refine sub_t2 rfl ?_
   refine E_nm rfl ?_
   refine sub_listn (i := i) (items_lst (hx3 _ _ hp)) (by rw [List.length_map]; (clear hvd hv hg hi2 hr1 hr2 hlen hi hpw hnr hal han hj hNl; omega)) (x := p.v) (by rw [List.getElem?_map, hpi]; rfl) ?_
   refine c_ess rfl (Es_cons (c_sub_nc rfl ?_))
   refine sub_t0 rfl ?_
   refine Es_nil ?_
   refine due_ct G S Dd hvd (items_lst ha) (by (clear hvd hv hg hz hr1 hr2 hlen hi hpw hnr han hj hNl; omega)) (by rw [hal]; exact hw.pt i _ hpi) (by (clear hvd hv hm hg hz hi2 hr2 hp2 hlen hi hpw hnr hal han hj hNl; omega)) ?_
   refine Es_nil ?_
   refine ⟨show 1 <= sizeLine by decide, fun dl hdl => ?_⟩
   refine SS_join (J := fun ρ' H4 => ∃ dl, ρ' = [some (w.v pa), some (.tup (g.map .int)), some (.ref td), some (brv br), some (.ref ro), some (.int (i : Int)), some (.int ((w.inp : Int) + (i : Int))), some (.ref mo), some (.ref a), some (.ref dl), dg] /\ Ext H3 H4 /\ dl ≠ mo /\ H4 dl = some (.lst ((cand w fr p i r).map .int))) (fun ρ' H4 hJ => ?_) fun R' hR' => ?_
   rotate_left
   ·refine c_tcmp_nn rfl rfl ?_
    refine in_br ?_
    refine tru_bool ?_
    split
    ·rename_i hin
     refine SS_asg (E_call (Std.n_list (by assumption)) callee_type (Es_cons (E_call (Std.n_range (by assumption)) callee_type (Es_cons (c_sub_nc rfl ?_)))))
     refine sub_t0 rfl ?_
     refine Es_nil ?_
     refine cv_range1 ?_
     obtain ⟨rg, hrg⟩ : ∃ rg : Nat, w.ring = (rg : Int) := ⟨w.ring.toNat, by (clear hvd hv hm hg hz hi2 hr2 hp2 hlen hi hpw hnr hal han hj hNl; omega)⟩
     refine Es_nil ?_
     rw [hrg]
     refine cv_list_rng rfl (by (clear hvd hv hm hg hz hi2 hr1 hp2 hlen hi hpw hnr hal han hj hNl; omega)) fun d2 hd2 => ?_
     rw [<- hrg] at hd2 ⊢
     refine SS_nil (hR' _ _ ⟨d2, rfl, ((Ext.refl _).more hdl).more hd2, (Ext.ne ((Ext.new hdl) _ _ hm3) hd2).symm, ?_⟩)
     rw [upd_self]; unfold cand; rw [if_pos (by rw [hfr]; exact hin), List.map_map, show w.ring.toNat = rg by (clear hvd hv hm hg hz hi2 hr1 hr2 hp2 hlen hi hpw hnr hal han hj hNl; omega)]; rfl
    ·rename_i hin
     refine SS_nil (hR' _ _ ⟨dl, rfl, .new hdl, (Ext.ne hm3 hdl).symm, ?_⟩)
     rw [upd_self]; unfold cand; rw [if_neg (by rw [hfr]; exact hin)]; rfl
   clear hdl
   refine Vc.xa_1_4 hJ fun dl hr156_1 x4 hdm hd4 => ?_
   try clear hJ
   subst hr156_1
   have x04 := hx3.trans x4
   have r4 := x4 _ _ hr3
   have RR4 := hRR3.ext x4
   have m4 := x4 _ _ hm3
   have N4 := hN3.ext x4
   clear hr3 hRR3 hm3 hN3 x4 hx3 ha
   refine SS_for ?_
   refine E_nm rfl ?_
   have hcl : (cand w fr p i r).length <= 5 := by
    unfold cand; split
    ·simp; (clear hvd hv hm hg hz hi2 hr1 hp2 hlen hi hpw hnr hal han hj hNl hdm; omega)
    ·simp
   refine ⟨_, ⟨.inl rfl, fun zz zz zz e => by cases e⟩, items_lst hd4, ?_⟩
   refine for_inv (P := fun m ρ H5 => ∃ MM dg, ρ = [some (w.v pa), some (.tup (g.map .int)), some (.ref td), some (brv br), some (.ref ro), some (.int (i : Int)), some (.int ((w.inp : Int) + (i : Int))), some (.ref mo), some (.ref a), some (.ref dl), dg] /\ Ext H H5 /\ H5 ro = some (.lst (rfs RR)) /\ RwAt H5 RR /\ H5 dl = some (.lst ((cand w fr p i r).map .int)) /\
     H5 mo = some (.lst (rfs MM)) /\ RwAt H5 MM /\ (∀ q ∈ MM, q.1 ≠ mo) /\ MM.length <= NN.length + m /\ MM.map (·.2) = NN.map (·.2) ++ (((cand w fr p i r).take m).filter fun d => (tget sd ((w.inp : Int) + (i : Int))).getD d == d).map fun d => r ++ [d])
    ⟨NN, dg, rfl, x04, r4, RR4, hd4, m4, N4, hne3, by (clear hvd hv hm hg hz hi2 hr1 hr2 hp2 hlen hi hpw hnr hal han hj hNl hdm hcl; omega), by simp⟩ (fun m x ρ H5 R5 hP hx hR5 => ?_) fun ρ H5 hP => ?_
   ·clear x04 r4 RR4 hd4 m4 N4
    refine Vc.xa_2_10 hP fun MM dg hr174_2 x5 r5 RR5 d5 m5 M5 hne5 hml hMM => ?_
    try clear hP
    subst hr174_2
    rw [List.getElem?_map, Option.map_eq_some_iff] at hx
    refine Vc.xa_1_2 hx fun d hd hr176_2 => ?_
    try clear hx
    subst hr176_2
    have hmc : m < (cand w fr p i r).length := (List.getElem?_eq_some_iff.mp hd).1
    have et : ∀ q : Bool, ((tget sd ((w.inp : Int) + (i : Int))).getD d == d) = q -> ((cand w fr p i r).take (m + 1)).filter (fun d => (tget sd ((w.inp : Int) + (i : Int))).getD d == d) = ((cand w fr p i r).take m).filter (fun d => (tget sd ((w.inp : Int) + (i : Int))).getD d == d) ++ (if q = true then [d] else []) := by
     intro q hq
     rw [List.take_add_one, hd, List.filter_append]
     show _ ++ List.filter _ [d] = _
     rw [List.filter_cons, hq]; cases q <;> rfl
    refine ⟨items_lst d5, _, rfl, ?_⟩
    refine SS_ife (c_tcmp (E_meth (E_nm rfl ?_)))
    refine ⟨_, mget_dict (x5 _ _ ht), callee_builtin, ?_⟩
    refine c_es2 rfl rfl ?_
    refine cv_get2 (x5 _ _ ht) ?_
    rw [dget_tld]
    have eg : ((tget sd ((w.inp : Int) + (i : Int))).map V.int).getD (.int d) = .int ((tget sd ((w.inp : Int) + (i : Int))).getD d) := by cases tget sd ((w.inp : Int) + (i : Int)) <;> rfl
    rw [eg]
    refine E_nm rfl (cmp_eq_int (tru_bool ?_))
    split
    ·rename_i hq
     refine SS_app1 (SS_exp (E_meth (E_nm rfl ?_)))
     refine ⟨_, mget_append m5, callee_builtin, ?_⟩
     refine Es_cons (E_bin (E_nm rfl (E_lst (c_es1 rfl ?_))))
     refine ⟨show 1 <= sizeLine by decide, fun c hc => ?_⟩
     have ha5 := RR5 _ hmem
     refine bin_cat (items_lst ((Ext.new hc) _ _ ha5)) items_new (by rw [List.length_map]; simp; (clear hvd hv hg hr1 hr2 hlen hi hpw hnr han hj hNl hdm hcl hml hmc; omega)) fun c2 hc2 => ?_
     have y6 : Ext H5 (upd (upd H5 c (.lst [.int d])) c2 (.lst (r.map .int ++ [.int d]))) := ((Ext.refl _).more hc).more hc2
     have c6 : upd (upd H5 c (.lst [.int d])) c2 (.lst (r.map .int ++ [.int d])) c2 = some (.lst ((r ++ [d]).map .int)) := by rw [upd_self, List.map_append]; rfl
     have hcm : c2 ≠ mo := (Ext.ne ((Ext.new hc) _ _ m5) hc2).symm
     generalize upd (upd H5 c (.lst [.int d])) c2 (.lst (r.map .int ++ [.int d])) = H6 at y6 c6
     refine Es_nil ?_
     refine cv_append (y6 _ _ m5) (by unfold rfs; rw [List.length_map]; (clear hvd hv hm hg hi2 hr1 hr2 hp2 hi hnr hal han hdm hcm; omega)) (SS_nil (hR5 _ _ (Vc.xi_2_10 (MM ++ [(c2, r ++ [d])]) _ rfl ((x5.trans y6).mut hmo0) ?_ ?_ ?_ ?_ ?_ ?_ ?_ ?_)))
     ·rw [upd_ne hnr]; exact y6 _ _ r5
     ·exact (RR5.ext y6).upd hnq
     ·rw [upd_ne hdm]; exact y6 _ _ d5
     ·rw [upd_self]; unfold rfs; rw [List.map_append]; rfl
     ·intro q hq'
      rcases List.mem_append.mp hq' with z | z
      ·rw [upd_ne (hne5 q z)]; exact y6 _ _ (M5 q z)
      ·simp at z; subst z; rw [upd_ne hcm]; exact c6
     ·intro q hq'
      rcases List.mem_append.mp hq' with z | z
      ·exact hne5 q z
      ·simp at z; subst z; exact hcm
     ·simp; (clear hvd hv hm hg hz hi2 hr1 hr2 hp2 hlen hi hpw hnr hal han hj hNl hdm hcl hmc hcm; omega)
     ·rw [et true hq, List.map_append, hMM, List.map_append, <- List.append_assoc]; rfl
    ·rename_i hq
     refine SS_nil (hR5 _ _ (Vc.xi_2_10 MM _ rfl x5 r5 RR5 d5 m5 M5 hne5 (by (clear hvd hv hm hg hz hi2 hr1 hr2 hp2 hlen hi hpw hnr hal han hj hNl hdm hcl hmc hq; omega)) ?_))
     rw [et false (by simpa using hq), hMM]; simp
   ·clear x04 r4 RR4 hd4 m4 N4
    refine Vc.xa_2_10 hP fun MM dg hr224_2 x5 r5 RR5 d5 m5 M5 hne5 hml hMM => ?_
    try clear hP
    subst hr224_2
    refine ⟨items_lst d5, SS_nil (hR3 _ _ (Vc.xi_4_8 MM _ _ _ rfl x5 r5 RR5 m5 M5 hne5 ?_))⟩
    rw [hMM, hNN, List.length_map, List.take_length, List.take_add_one, hq, List.map_append, List.flatMap_append]
    simp [chs_cand]
  ·refine Vc.xa_4_8 hP fun NN rw' dh dg hr228_4 hx3 hr3 hRR3 hm3 hN3 hne3 hNN => ?_
   try clear hP
   subst hr228_4
   rw [show (rfs RR).length = RR.length by simp [rfs], List.take_length] at hNN
   refine ⟨items_lst hr3, ?_⟩
   refine SS_asg (E_nm rfl ?_)
   refine SS_nil (hR _ _ (Vc.xi_8_7 mo NN _ _ _ _ _ _ rfl hx3 hm3 hN3 ?_ ?_ ?_))
   ·rw [hNN, <- hall, List.flatMap_assoc]
    congr 1
    funext r
    rw [List.drop_eq_getElem_cons hip, hpe]
    simp only [rows, List.flatMap_map]
   ·have h1 : NN.length = (NN.map (·.2)).length := by rw [List.length_map]
    rw [h1, hNN, Nat.pow_succ]
    refine Nat.le_trans (flat_len (m := w.ring.toNat) (fun r => ?_) _) ?_
    ·rw [List.length_map]; exact chs_len (by (clear hvd hv hm hg hz hi2 hr2 hp2 hlen hi hpw hnr h1; omega))
    ·rw [List.length_map]; exact Nat.mul_le_mul_right _ hlen
   ·intro q hq
    have : q.2 ∈ NN.map (·.2) := List.mem_map.mpr ⟨q, hq, rfl⟩
    rw [hNN] at this
    refine Vc.xa_1_2 (List.mem_flatMap.mp this) fun r hr hr2 => ?_
    refine Vc.xa_1_2 (List.mem_map.mp hr2) fun d zz e => ?_
    refine Vc.xa_1_2 (List.mem_map.mp hr) fun q' hq' hr248_2 => ?_
    subst hr248_2
    rw [<- e, List.length_append, hql q' hq']; rfl
 ·clear x0 r0 b0 ro
  refine Vc.xa_8_7 hP fun ro RR kk li mo rw' dh dg hr251_8 hx' hr' hRR hall hlen hql => ?_
  try clear hP
  subst hr251_8
  rw [rng_len] at hall hlen
  refine ⟨rfl, ?_⟩
  refine c_ret_n rfl ?_
  refine K ro RR H' hx' hr' hRR ?_ (Nat.le_trans hlen (pow_few hw hm (by (clear hvd hv hm hg hz hi2 hr1 hr2 hp2 hlen; omega))))
  rw [<- hall, List.drop_eq_nil_of_le (by (clear hvd hv hm hg hz hi2 hr1 hr2 hp2 hlen; omega))]
  simp only [rows]
  simp
end
end Vc
end
section
namespace Vc
open PySem PyProof.Rows
noncomputable def has_room_vs : Vs := [celv "work", locv "looks", celv "broken"]
noncomputable def has_room_b : List St :=
  [.ret (.call "all" [(.comp 1 (.cmp .IsNot (.call "least_digits" [(.nm 0), (.nm 3), (.nm 2)]) .cn) (.nm 1) [])])]
noncomputable def law_leaves_vs : Vs := [locv "_law_work_here", locv "_law_looks_here", locv "_law_broken", locv "_law_given_here", locv "_law_seen"]
noncomputable def law_leaves_b : List St :=
  [.for [3, 4] (.pl (.nm 1)) [.ife (.cmp .Eq (.call "_law_all" [(.nm 0), (.nm 3), (.call "dict" [(.nm 4)]), (.nm 2)]) (.lst [])) [.ret (.cb false)] []],
  .ret (.cb true)]
noncomputable abbrev Lk := List Int × List (Int × Int)
noncomputable def lkv (L : Lk) : V := .tup [.tup (L.1.map .int), .tup (prs (tld L.2))]
structure LksOk (w : Wk) (LL : List Lk) : Prop where
 ok : ∀ L ∈ LL, LkOk w L.1 L.2
 len : LL.length <= 100
structure WlD (C : Cx) : Prop where
 G : C.Good
 S : Std C
 N : WkA C
 o : Def C "given_of" given_of_vs 3 given_of_b
 w : Def C "wanted_from" wanted_from_vs 2 wanted_from_b
 c : Cls C "Walk" walk_init_vs 4 walk_init_b
 mc : Mth C "Walk" "choices" walk_choices_vs 3 walk_choices_b
 mg : Mth C "Walk" "grown" walk_grown_vs 2 walk_grown_b
 l : Def C "least_digits" least_digits_vs 3 least_digits_b
 h : Def C "has_room" has_room_vs 3 has_room_b
structure LwD (C : Cx) : Prop where
 G : C.Good
 S : Std C
 d : ∃ vd, vd.length = 4 /\ Def C "_law_due" vd 3 law_due_b
 a : ∃ va, va.length = 11 /\ Def C "_law_all" va 4 law_all_b
 l : Def C "_law_leaves" law_leaves_vs 3 law_leaves_b
theorem ftake {α : Type} {l : List α} {i : Nat} {x : α} {P : α -> Bool} (h : l[i]? = some x) {b : Bool} (hb : P x = b) : (l.take (i + 1)).filter P = (l.take i).filter P ++ (if b = true then [x] else []) := by
 rw [List.take_add_one, h, List.filter_append]
 show _ ++ List.filter _ [x] = _
 rw [List.filter_cons, hb]; cases b <;> rfl
section
variable {C : Cx} {X : XP} {n : Nat} {H : MH} {Q : V -> MH -> Prop} {w : Wk} {pa lk : Addr} {br : List Nat} {LL : List Lk} {most : Nat}
theorem has_room_ct (W : WlD C) (hw : w.Ok most) (hm : most <= 7) (hp : H pa = some (.lst (w.ps.map Pt.v))) (hk : H lk = some (.lst (LL.map lkv))) (hL : LksOk w LL)
  (K : ∀ H', Ext H H' -> Q (.bool (room w LL br)) H') : CallW C ⟨n + 16, true⟩ "has_room" [w.v pa, .ref lk, brv br] H Q X := by
 have hz : 10000 < sizeLine := by decide
 have hll := hL.len
 have G := W.G; have S := W.S
 refine W.h.call G rfl ?_
 unfold has_room_b
 rw [show w.v pa = .tup [.int w.ring, .int w.inp, .ref pa] from rfl]
 refine SS_ret (E_call (Std.n_all (by assumption)) callee_builtin (Es_cons ?_))
 refine E_comp ?_
 refine E_nm rfl ?_
 refine ⟨_, ⟨.inl rfl, fun zz zz zz e => by cases e⟩, items_lst hk, by rw [List.length_map]; (clear hm; omega), ?_⟩
 refine comp_inv (P := fun i acc H' => acc = ((LL.take i).map (room1 w br)).map .bool /\ Ext H H') ⟨rfl, .refl _⟩ (fun i x acc H' R hP hx hR => ?_) fun acc H' hP => ⟨?_, ?_⟩
 ·refine Vc.xa_0_2 hP fun hr89_0 hx' => ?_
  try clear hP
  subst hr89_0
  rw [List.getElem?_map, Option.map_eq_some_iff] at hx
  refine Vc.xa_1_2 hx fun L hLi hr91_2 => ?_
  try clear hx
  subst hr91_2
  have hok := hL.ok L (List.mem_of_getElem? hLi)
  have hsl := hok.len
  refine ⟨items_lst (hx' _ _ hk), _, rfl, ?_⟩
  have hs : ∀ b, room1 w br L = b -> ((LL.take (i + 1)).map (room1 w br)).map V.bool = ((LL.take i).map (room1 w br)).map .bool ++ [.bool b] := fun b hb => by
   rw [List.take_add_one, hLi, List.map_append, List.map_append]
   show _ ++ [V.bool (room1 w br L)] = _
   rw [hb]
  refine Ts_nil (if_t (E_cmp ?_))
  refine E_fn W.l.fn ?_
  refine Es_cons (E_nm rfl (Es_cons (E_nm rfl (Es_cons (E_nm rfl (Es_nil ?_))))))
  refine least_ct (w := w) (pa := pa) (g := L.1) (sn := L.2) (br := br) G S W.N W.o W.w W.c W.mc W.mg W.l hw hm (by (clear hm hz hll; omega)) (hx' _ _ hp) hok.gl fun v H1 x1 hv => ?_
  have d0 : (v = .none /\ rows w (tget (tdof L.2)) (fun k => decide (k ∈ br)) w.ps 0 L.1 = []) ∨ ((∃ c, v = .ref c) /\ rows w (tget (tdof L.2)) (fun k => decide (k ∈ br)) w.ps 0 L.1 ≠ []) := hv
  rcases d0 with ⟨rfl, hn⟩ | ⟨⟨c, rfl⟩, hne⟩
  ·refine isnot_none_none' (hR _ _ ⟨?_, hx'.trans x1⟩)
   rw [hs false]
   unfold room1; rw [hn]; simp
  ·refine isnot_none_ref (hR _ _ ⟨?_, hx'.trans x1⟩)
   rw [hs true]
   unfold room1; exact decide_eq_true hne
 ·refine Vc.xa_0_2 hP fun hr111_0 hx' => ?_
  try clear hP
  subst hr111_0
  exact items_lst (hx' _ _ hk)
 refine Vc.xa_0_2 hP fun hr113_0 hx' => ?_
 try clear hP
 subst hr113_0
 rw [show (LL.map lkv).length = LL.length from List.length_map .., List.take_length]
 refine ⟨by simp; (clear hm; omega), fun r hr => ?_⟩
 refine Es_nil ?_
 refine cv_all rfl (upd_self ..) ?_
 rw [show (LL.map (room1 w br)).all id = room w LL br by unfold room; rw [List.all_map]; rfl]
 exact K _ (hx'.more hr)
end
end Vc
end
section
namespace Vc
open PySem PyProof.Rows
section
variable {C : Cx} {X : XP} {n : Nat} {H : MH} {Q : V -> MH -> Prop} {w : Wk} {pa lk : Addr} {br : List Nat} {LL : List Lk} {most : Nat}
theorem vds_rows {H : MH} : ∀ (RR : List (Addr × List Int)), RwAt H RR -> VDs H (rfs RR) (RR.map fun q => PyData.list (q.2.map .int))
 | [], _ => .nil
 | q :: RR, h => .cons (.lst (h q (by simp)) (vds_ints q.2)) (vds_rows RR fun x hx => h x (by simp [hx]))
theorem lay_rows : ∀ (RR : List (Addr × List Int)), PyData.canLayAll0 (RR.map fun q => PyData.list (q.2.map .int)) = true
 | [] => rfl
 | q :: RR => by rw [List.map_cons, PyData.canLayAll0, lay_intl, lay_rows RR]; rfl
theorem rows_nil {d : Md} {ro e : Addr} {RR : List (Addr × List Int)} (h : H ro = some (.lst (rfs RR))) (hR : RwAt H RR) (he : H e = some (.lst [])) (q : Q (.bool (decide (RR = []))) H) : CmpW C d .Eq (.ref ro) (.ref e) H Q X := by
 refine cmp_eq (.lst h (vds_rows RR hR)) (.lst he .nil) (by rw [PyData.canLay0]; exact lay_rows RR) rfl (by simp only [PyData.depth, PyData.depthAll]; omega) ?_
 have : PyData.eqv (.list (RR.map fun q => PyData.list (q.2.map .int))) (.list []) = decide (RR = []) := by
  cases RR with
  | nil => rfl
  | cons a l => simp [PyData.eqv, PyData.eqvAll]
 rw [this]; exact q
theorem leaves_ct (L : LwD C) (hw : w.Ok most) (hm : most <= 7) (hp : H pa = some (.lst (w.ps.map Pt.v))) (hk : H lk = some (.lst (LL.map lkv))) (hL : LksOk w LL)
  (K : ∀ H', Ext H H' -> Q (.bool (room w LL br)) H') : CallW C ⟨n + 3, true⟩ "_law_leaves" [w.v pa, .ref lk, brv br] H Q X := by
 have hz : 10000 < sizeLine := by decide
 have hll := hL.len
 have G := L.G; have S := L.S
 refine Vc.xa_1_2 L.d fun vd hvd Dd => ?_
 refine Vc.xa_1_2 L.a fun va hva Da => ?_
 refine L.l.call G rfl ?_
 unfold law_leaves_b
 refine SS_for ?_
 refine E_nm rfl ?_
 refine ⟨_, ⟨.inl rfl, fun zz zz zz e => by cases e⟩, items_lst hk, ?_⟩
 refine for_inv (P := fun i ρ H' => ∃ gv sv, ρ = [some (w.v pa), some (.ref lk), some (brv br), gv, sv] /\ Ext H H' /\ (LL.take i).all (room1 w br) = true) (Vc.xi_2_3 none none rfl (.refl _) rfl) (fun i x ρ H' R hP hx hR => ?_) fun ρ H' hP => ?_
 ·refine Vc.xa_2_3 hP fun gv sv hr138_2 hx' hall => ?_
  try clear hP
  subst hr138_2
  rw [List.getElem?_map, Option.map_eq_some_iff] at hx
  refine Vc.xa_1_2 hx fun L' hLi hr140_2 => ?_
  try clear hx
  subst hr140_2
  have hmem := List.mem_of_getElem? hLi
  have hok := hL.ok L' hmem
  have hsl := hok.len
  refine ⟨items_lst (hx' _ _ hk), _, rfl, ?_⟩
  show wpSs C _ _ [some (w.v pa), some (.ref lk), some (brv br), some (.tup (L'.1.map .int)), some (.tup (prs (tld L'.2)))] _ _ _
  refine SS_ife (T_cmp (E_cmp ?_))
  refine E_fn Da.fn ?_
  refine Es_cons (E_nm rfl (Es_cons (E_nm rfl (Es_cons (E_call (Std.n_dict (by assumption)) callee_type (Es_cons (E_nm rfl (Es_nil ?_))))))))
  refine cv_dict_pairs G rfl (by simp [tld]; (clear hm hll hvd hva; omega)) fun b hb => ?_
  rw [dof_tld]
  have x0 := hx'.more (o := .dci (tld (tdof L'.2))) hb
  have b0 := upd_self H' b (.dci (tld (tdof L'.2)))
  generalize upd H' b (.dci (tld (tdof L'.2))) = H1 at x0 b0
  refine Es_cons (E_nm rfl (Es_nil ?_))
  refine all_ct (w := w) (pa := pa) (g := L'.1) (br := br) G S Dd hvd Da hva hw hm (x0 _ _ hp) b0 hok.gl fun ro RR H2 x2 r2 R2 he hl => ?_
  have x02 := x0.trans x2
  refine E_lst (Es_nil ?_)
  refine ⟨by decide, fun c hc => ?_⟩
  have x3 := x02.more (o := .lst []) hc
  refine rows_nil ((Ext.new hc) _ _ r2) (R2.ext (.new hc)) (upd_self ..) ?_
  generalize upd H2 c (.lst []) = H3 at x3
  have e1 : room1 w br L' = !decide (RR = []) := by
   unfold room1; rw [<- he]
   cases RR <;> simp
  refine tru_bool ?_
  by_cases hq : RR = []
  ·rw [decide_eq_true hq, if_pos rfl]
   refine SS_app1 (SS_ret (E_cb ?_))
   have : room w LL br = false := by
    unfold room
    rw [List.all_eq_false]
    exact ⟨L', hmem, by rw [e1, decide_eq_true hq]; decide⟩
   rw [<- this]; exact K _ x3
  ·rw [decide_eq_false hq, if_neg (by decide)]
   refine SS_nil (hR _ _ (Vc.xi_2_3 _ _ rfl x3 ?_))
   rw [List.take_add_one, hLi, List.all_append, hall]
   show (true && (room1 w br L' && true)) = true
   rw [e1, decide_eq_false hq]; rfl
 ·refine Vc.xa_2_3 hP fun gv sv hr179_2 hx' hall => ?_
  try clear hP
  subst hr179_2
  rw [List.length_map, List.take_length] at hall
  refine ⟨items_lst (hx' _ _ hk), ?_⟩
  refine SS_ret (E_cb ?_)
  rw [<- show room w LL br = true from hall]; exact K _ hx'
end
end Vc
end
section
namespace Vc
open PySem PyProof.Rows
noncomputable def law_looks_b : List St :=
  [.asg 4 (.lst []),
  .for [5] (.pl (.call "range" [(.bin .Mod (.call "_law_mixed" [(.nm 0), (.nm 2)]) (.bin .Add (.nm 3) (.ci 1)))])) [.asg 6 (.call "_law_mixed" [(.nm 0), (.bin .Add (.bin .Add (.nm 2) (.ci 1)) (.bin .Mult (.ci 2) (.nm 5)))]),
  .asg 7 (.call "_law_mixed" [(.nm 0), (.bin .Add (.bin .Add (.nm 2) (.ci 2)) (.bin .Mult (.ci 2) (.nm 5)))]),
  .exp (.meth (.nm 4) "append" [(.call "_law_look" [(.nm 1), (.nm 6), (.nm 7)])])],
  .ret (.nm 4)]
section
variable {C : Cx} {d : Md} {ρ : Lo} {H : MH} {Q : V -> MH -> Prop} {X : XP} {n : Nat} {q : Bool}
variable {w : Wk} {pa lk : Addr} {br : List Nat} {LL : List Lk} {most : Nat}
theorem looks_ct {vs vg vd vr vl : Vs} {a : Addr} {ns : List Int} {first : Int} {many : Nat} (G : C.Good) (S : Std C) (Dc : Def C "_law_cell" law_cell_vs 2 law_cell_b) (Dm : Def C "_law_mixed" law_mixed_vs 2 law_mixed_b)
  (Dg : Def C "_law_given" vg 2 law_given_b) (hvg : vg.length = 3) (Dd : Def C "_law_due" vd 3 law_due_b) (hvd : vd.length = 4) (Dr : Def C "_law_run" vr 3 law_run_b) (hvr : vr.length = 5) (Dl : Def C "_law_look" vl 3 law_look_b) (hvl : vl.length = 12)
  (D : Def C "_law_looks" vs 4 law_looks_b) (hv : vs.length = 8) (hw : w.Ok most) (hm : most <= 10) (hp : H pa = some (.lst (w.ps.map Pt.v))) (ha : H a = some (.fro (ns.map .int))) (hl : ns.length <= 63) (hf : 0 <= first) (hmy : many <= 10)
  (K : ∀ (lr : Addr) (LL : List Lk) H', Ext H H' -> H lr = none -> H' lr = some (.lst (LL.map lkv)) -> (∀ L ∈ LL, LkOk w L.1 L.2) -> LL.length <= many -> Q (.ref lr) H') : CallW C ⟨n + 4, true⟩ "_law_looks" [.ref a, w.v pa, .int first, .int many] H Q X := by
 have hz : 10000 < sizeLine := by decide
 refine D.call G rfl ?_
 rw [hv]
 unfold law_looks_b
 refine SS_asg (E_lst (Es_nil ?_))
 refine ⟨by decide, fun lr hlr => ?_⟩
 have x0 : Ext H (upd H lr (.lst [])) := .new hlr
 have l0 : upd H lr (.lst []) lr = some (.lst (([] : List Lk).map lkv)) := upd_self ..
 generalize upd H lr (.lst []) = H1 at x0 l0
 refine SS_for ?_
 refine E_call (Std.n_range (by assumption)) callee_type (Es_cons (E_bin ?_))
 refine E_fn Dm.fn ?_
 refine Es_cons (E_nm rfl (Es_cons (E_nm rfl (Es_nil ?_))))
 refine mixed_ct G Dc Dm (x0 _ _ ha) hl hf fun H2 x2 => ?_
 refine E_bin (E_nm rfl (E_ci (bin_add ?_)))
 refine bin_modp (by (clear hvg hvd hvr hvl hv hm hl hf hmy hz; omega)) ?_
 have h1 := Int.emod_nonneg (mixed ns first) (show (many : Int) + 1 ≠ 0 by (clear hvg hvd hvr hvl hv hm hl hf hmy hz; omega))
 have h2 := Int.emod_lt_of_pos (mixed ns first) (show 0 < (many : Int) + 1 by (clear hvg hvd hvr hvl hv hm hl hf hmy hz h1; omega))
 generalize mixed ns first % ((many : Int) + 1) = cnt at h1 h2
 refine Es_nil ?_
 refine cv_range1 ?_
 refine ⟨_, itq_rng rfl (by (clear hvg hvd hvr hvl hv hm hl hf hmy hz h1 h2; omega)) (by (clear hvg hvd hvr hvl hv hm hl hf hmy hz h1 h2; omega)) (by (clear hvg hvd hvr hvl hv hm hl hf hmy hz h2; omega)) (by (clear hvg hvd hvr hvl hv hm hl hf hz h1; omega)), rfl, ?_⟩
 refine for_inv (P := fun i ρ H' => ∃ kk ce mo, ∃ LL : List Lk, ρ = [some (.ref a), some (w.v pa), some (.int first), some (.int many), some (.ref lr), kk, ce, mo] /\ Ext H H' /\ H' lr = some (.lst (LL.map lkv)) /\ (∀ L ∈ LL, LkOk w L.1 L.2) /\ LL.length <= i)
  (Vc.xi_4_5 none none none ([]) rfl (x0.trans x2) (x2 _ _ l0) (by simp) (by simp)) (fun i x ρ H' R hP hx hR => ?_) fun ρ H' hP => ?_
 ·refine Vc.xa_4_5 hP fun kk ce mo LL hr170_4 hx' hl' hok hll => ?_
  try clear hP
  subst hr170_4
  refine Vc.xa_0_2 (rng_get hx) fun hr171_0 hi => ?_
  subst hr171_0
  simp only [Int.zero_add]
  refine ⟨rfl, _, rfl, ?_⟩
  refine SS_asg ?_
  refine E_fn Dm.fn ?_
  refine Es_cons (E_nm rfl (Es_cons (E_bin (E_bin (E_nm rfl (E_ci (bin_add (E_bin (E_ci (E_nm rfl ?_))))))))))
  refine bin_mul ?_ (.of_left (by decide))
  refine bin_add (Es_nil ?_)
  refine mixed_ct G Dc Dm (hx' _ _ ha) hl (by (clear hvg hvd hvr hvl hv hm hl hmy hz h1 h2 hll hi; omega)) fun H3 x3 => ?_
  refine SS_asg ?_
  refine E_fn Dm.fn ?_
  refine Es_cons (E_nm rfl (Es_cons (E_bin (E_bin (E_nm rfl (E_ci (bin_add (E_bin (E_ci (E_nm rfl ?_))))))))))
  refine bin_mul ?_ (.of_left (by decide))
  refine bin_add (Es_nil ?_)
  have x03 := hx'.trans x3
  refine mixed_ct G Dc Dm (x03 _ _ ha) hl (by (clear hvg hvd hvr hvl hv hm hl hmy hz h1 h2 hll hi; omega)) fun H4 x4 => ?_
  have x04 := x03.trans x4
  refine SS_exp (E_meth (E_nm rfl ?_))
  have l4 := (x3.trans x4) _ _ hl'
  refine ⟨_, mget_append l4, callee_builtin, ?_⟩
  refine Es_cons ?_
  refine E_fn Dl.fn ?_
  refine Es_cons (E_nm rfl (Es_cons (E_nm rfl (Es_cons (E_nm rfl (Es_nil ?_))))))
  refine llook_ct (n := n) (w := w) (pa := pa) G S Dg hvg Dd hvd Dr hvr Dl hvl hw hm (x04 _ _ hp) fun g sn H5 x5 L => ?_
  refine Es_nil ?_
  refine cv_append (x5 _ _ l4) (by rw [List.length_map]; (clear hvg hvd hvr hvl hv hm hl hf h1; omega)) (SS_nil (hR _ _ (Vc.xi_4_5 _ _ _ (LL ++ [(g, sn)]) rfl ((x04.trans x5).mut hlr) ?_ ?_ ?_)))
  ·rw [upd_self, List.map_append]; rfl
  ·intro L' hL'
   rcases List.mem_append.mp hL' with q | q
   ·exact hok L' q
   ·simp at q; subst q; exact L
  ·simp; (clear hvg hvd hvr hvl hv hm hl hf hmy hz h1 h2 hi; omega)
 ·refine Vc.xa_4_5 hP fun kk ce mo LL hr203_4 hx' hl' hok hll => ?_
  try clear hP
  subst hr203_4
  rw [rng_len] at hll
  refine ⟨rfl, ?_⟩
  refine SS_ret (E_nm rfl ?_)
  exact K lr LL H' hx' hlr hl' hok (by (clear hvg hvd hvr hvl hv hm hl hf hmy hz h1; omega))
end
end Vc
end
section
set_option maxHeartbeats 1000000
namespace Vc
open PySem PyProof.Rows
noncomputable def sets_of_vs : Vs := [locv "many", locv "found", locv "row", locv "longer", celv "one", locv "first"]
noncomputable def sets_of_b : List St :=
  [.asg 1 (.lst [(.tup [])]),
  .asg 2 (.lst [(.tup [])]),
  .whl (.cmp .NotEq (.nm 2) (.lst [])) [.asg 3 (.lst []),
  .for [4] (.pl (.nm 2)) [.asg 5 (.ci 0),
  .ife (.cmp .NotEq (.nm 4) (.tup [])) [.asg 5 (.bin .Add (.sub (.nm 4) (.una .USub (.ci 1))) (.ci 1))] [],
  .exp (.meth (.nm 3) "extend" [(.comp 1 (.bin .Add (.nm 4) (.tup [(.nm 6)])) (.call "range" [(.nm 5), (.nm 0)]) [])])],
  .exp (.meth (.nm 1) "extend" [(.nm 3)]),
  .asg 2 (.nm 3)],
  .ret (.nm 1)]
noncomputable def is_within_vs : Vs := [locv "one", celv "other"]
noncomputable def is_within_b : List St :=
  [.ret (.call "all" [(.comp 1 (.cmp .In (.nm 2) (.nm 1)) (.nm 0) [])])]
noncomputable def least_sets_vs : Vs := [locv "work", locv "looks", locv "found", celv "one"]
noncomputable def least_sets_b : List St :=
  [.asg 2 (.lst []),
  .for [3] (.pl (.call "sets_of" [(.call "len" [(.sub (.nm 0) (.ci 2))])])) [.ife (.bop .And [(.una .Not (.call "any" [(.comp 1 (.call "is_within" [(.nm 4), (.nm 3)]) (.nm 2) [])])), (.call "has_room" [(.nm 0), (.nm 1), (.nm 3)])]) [.exp (.meth (.nm 2) "append" [(.nm 3)])] []],
  .ret (.nm 2)]
noncomputable def fstOf (one : List Nat) : Nat := match one.getLast? with | none => 0 | some x => x + 1
noncomputable def longer (m : Nat) (one : List Nat) : List (List Nat) := (List.range (m - fstOf one)).map fun j => one ++ [fstOf one + j]
noncomputable def lev (m : Nat) : Nat -> List (List Nat)
 | 0 => [[]]
 | k + 1 => (lev m k).flatMap (longer m)
noncomputable def levs (m : Nat) : Nat -> List (List Nat)
 | 0 => [[]]
 | k + 1 => levs m k ++ lev m (k + 1)
theorem lev_facts : ∀ m, m < 8 -> lev m (m + 1) = [] /\ (∀ k, k < m + 1 -> lev m k ≠ []) /\ ∀ k, k < 9 -> (lev m k).length <= 100 /\ (levs m k).length <= 200 /\ (lev m k).all (fun one => decide (one.length <= 8) && decide (fstOf one <= 8)) = true := by decide +kernel
theorem levs_ok : ∀ m, m < 8 -> (levs m m).all (fun one => decide (one.Pairwise (· < ·)) && one.all (fun x => decide (x < m)) && decide (one.length <= 8)) = true /\ (levs m m).length <= 200 := by decide +kernel
theorem flat_take {α β : Type} (f : α -> List β) (l : List α) (i : Nat) : ((l.take i).flatMap f).length <= (l.flatMap f).length := by
 have : l.flatMap f = (l.take i).flatMap f ++ (l.drop i).flatMap f := by rw [<- List.flatMap_append, List.take_append_drop]
 rw [this, List.length_append]; omega
theorem flat_snoc {α β : Type} {f : α -> List β} {l : List α} {i : Nat} {x : α} (h : l[i]? = some x) : (l.take (i + 1)).flatMap f = (l.take i).flatMap f ++ f x := by
 rw [List.take_add_one, h, List.flatMap_append]; simp
theorem seq_last {n : Nat} (h : 0 < n) : seqIndex? (-1) n = some (n - 1) := by
 have e : (-1 : Int) < 0 := by decide
 simp only [seqIndex?, if_pos e]
 rw [if_pos (by simp; (clear e; omega))]
 congr 1; (clear h e; omega)
noncomputable def wthn (one other : List Nat) : Bool := one.all fun x => decide (x ∈ other)
noncomputable def lstep (w : Wk) (LL : List Lk) (f : List (List Nat)) (one : List Nat) : List (List Nat) := if (!(f.any fun l => wthn l one)) = true /\ room w LL one = true then f ++ [one] else f
noncomputable def leastS (w : Wk) (LL : List Lk) : List (List Nat) := (levs w.ps.length w.ps.length).foldl (lstep w LL) []
theorem lfold_len (w : Wk) (LL : List Lk) : ∀ (l f : List (List Nat)), (l.foldl (lstep w LL) f).length <= f.length + l.length
 | [], _ => Nat.le_refl _
 | o :: l, f => by
  have h1 : (lstep w LL f o).length <= f.length + 1 := by unfold lstep; split <;> simp
  have := lfold_len w LL l (lstep w LL f o)
  rw [List.foldl_cons, List.length_cons]; omega
theorem lfold_mem (w : Wk) (LL : List Lk) : ∀ (l f : List (List Nat)) (x : List Nat), x ∈ l.foldl (lstep w LL) f -> x ∈ f ∨ x ∈ l
 | [], _, _, h => .inl h
 | o :: l, f, x, h => by
  rcases lfold_mem w LL l _ x h with q | q
  ·unfold lstep at q
   split at q
   ·rcases List.mem_append.mp q with q | q
    ·exact .inl q
    ·simp at q; subst q; exact .inr (by simp)
   ·exact .inl q
  ·exact .inr (by simp [q])
section
variable {C : Cx} {X : XP} {n : Nat} {H : MH} {Q : V -> MH -> Prop} {w : Wk} {pa lk : Addr} {br : List Nat} {LL : List Lk} {most : Nat} {d : Md}
theorem vds_brs {H : MH} : ∀ (l : List (List Nat)), VDs H (l.map brv) (l.map fun o => PyData.tuple (o.map fun (b : Nat) => PyData.int b))
 | [] => .nil
 | o :: l => .cons (.tup (vds_br o)) (vds_brs l)
theorem lay_brs : ∀ (l : List (List Nat)), PyData.canLayAll0 (l.map fun o => PyData.tuple (o.map fun (b : Nat) => PyData.int b)) = true
 | [] => rfl
 | o :: l => by rw [List.map_cons, PyData.canLayAll0, lay_brs l]; rw [show (PyData.tuple (o.map fun (b : Nat) => PyData.int b)).canLay0 = true by rw [PyData.canLay0]; exact lay_br o]; rfl
theorem brs_nil {a e : Addr} {l : List (List Nat)} (h : H a = some (.lst (l.map brv))) (he : H e = some (.lst [])) (q : Q (.bool (!decide (l = []))) H) : CmpW C d .NotEq (.ref a) (.ref e) H Q X := by
 refine cmp_ne (.lst h (vds_brs l)) (.lst he .nil) (by rw [PyData.canLay0]; exact lay_brs l) rfl (by simp only [PyData.depth, PyData.depthAll]; omega) ?_
 have : PyData.eqv (.list (l.map fun o => PyData.tuple (o.map fun (b : Nat) => PyData.int b))) (.list []) = decide (l = []) := by
  cases l with
  | nil => rfl
  | cons a l => simp [PyData.eqv, PyData.eqvAll]
 rw [this]; exact q
theorem br_nil {one : List Nat} (q : Q (.bool (!decide (one = []))) H) : CmpW C d .NotEq (brv one) (.tup []) H Q X := by
 refine cmp_ne (.tup (vds_br one)) (.tup .nil) (by rw [PyData.canLay0]; exact lay_br one) rfl (by simp only [PyData.depth, PyData.depthAll]; omega) ?_
 have : PyData.eqv (.tuple (one.map fun (b : Nat) => PyData.int b)) (.tuple []) = decide (one = []) := by
  cases one with
  | nil => rfl
  | cons a l => simp [PyData.eqv, PyData.eqvAll]
 rw [this]; exact q
theorem sets_of_ct {m : Nat} (G : C.Good) (S : Std C) (D : Def C "sets_of" sets_of_vs 1 sets_of_b) (hm : m <= 7) (K : ∀ r H', Ext H H' -> H r = none -> H' r = some (.lst ((levs m m).map brv)) -> Q (.ref r) H') : CallW C ⟨n + 1, true⟩ "sets_of" [.int m] H Q X := by
 have hz : 10000 < sizeLine := by decide
 refine Vc.xa_0_3 (lev_facts m (by (clear hz; omega))) fun hend hne hlev => ?_
 refine D.call G rfl ?_
 unfold sets_of_b
 refine SS_asg (E_lst (Es_cons (E_tup (Es_nil ?_))))
 refine ⟨by decide, ?_⟩
 refine Es_nil ?_
 refine ⟨by decide, fun fo hfo => ?_⟩
 refine SS_asg (E_lst (Es_cons (E_tup (Es_nil ?_))))
 refine ⟨by decide, ?_⟩
 refine Es_nil ?_
 refine ⟨by decide, fun ro hro => ?_⟩
 have x0 : Ext H (upd (upd H fo (.lst [.tup []])) ro (.lst [.tup []])) := (Ext.new hfo).more hro
 have f0 := (Ext.new (o := .lst [V.tup []]) hro) _ _ (upd_self H fo (.lst [V.tup []]))
 have r0 := upd_self (upd H fo (.lst [V.tup []])) ro (.lst [V.tup []])
 generalize upd (upd H fo (.lst [.tup []])) ro (.lst [.tup []]) = H1 at x0 f0 r0
 refine SS_whl (m + 2) (whl_inv (P := fun n' ρ H' => ∃ k ro lo on fi, ρ = [some (.int m), some (.ref fo), some (.ref ro), lo, on, fi] /\ n' = m + 1 - k /\ k <= m + 1 /\ Ext H H' /\ H' fo = some (.lst ((levs m k).map brv)) /\ H' ro = some (.lst ((lev m k).map brv))) (fun n' ρ H' R hP hR => ?_) (m + 1) _ _ ⟨0, ro, none, none, none, rfl, rfl, by (clear hm hz; omega), x0, f0, r0⟩ (m + 2) (by (clear hm hz; omega)))
 refine Vc.xa_5_6 hP fun k ro' lo on fi hr116_5 hr116_6 hk hx hf hr => ?_
 try clear hP
 subst hr116_5
 subst hr116_6
 refine Vc.xa_0_3 (hlev k (by (clear hz; omega))) fun hl1 hl2 hl3 => ?_
 refine c_tcmp (E_nm rfl (E_lst (Es_nil ?_)))
 refine ⟨by decide, fun c hc => ?_⟩
 have x1 := hx.more (o := .lst []) hc
 have f1 := (Ext.new (o := .lst []) hc) _ _ hf
 have r1 := (Ext.new (o := .lst []) hc) _ _ hr
 refine brs_nil r1 (upd_self ..) ?_
 generalize upd H' c (.lst []) = H2 at x1 f1 r1
 refine tru_bool ?_
 by_cases hnil : lev m k = []
 ·rw [show (!decide (lev m k = [])) = false by rw [decide_eq_true hnil]; rfl, if_neg (by decide)]
  refine c_ret_n rfl ?_
  have hk' : (levs m k) = levs m m := by
   rcases Nat.lt_or_ge k (m + 1) with q | q
   ·exact absurd hnil (hne k q)
   ·obtain rfl : k = m + 1 := by (clear hm hz hl1 hl2; omega)
    show levs m m ++ lev m (m + 1) = _
    rw [hend, List.append_nil]
  rw [<- hk'] at K
  exact K fo _ x1 hfo f1
 ·rw [show (!decide (lev m k = [])) = true by rw [decide_eq_false hnil]; rfl, if_pos rfl]
  have hkm : k <= m := by
   rcases Nat.lt_or_ge m k with q | q
   ·exact absurd (by rw [show k = m + 1 by (clear hm hz hl1 hl2 hnil; omega)]; exact hend) hnil
   ·exact q
  refine Vc.xa_0_3 (hlev (k + 1) (by (clear hz hk hl1 hl2 hnil; omega))) fun hn1 hn2 zz => ?_
  refine SS_asg (E_lst (Es_nil ?_))
  refine ⟨by decide, fun lo hlo => ?_⟩
  have x2 := x1.more (o := .lst []) hlo
  have f2 := (Ext.new (o := .lst []) hlo) _ _ f1
  have r2 := (Ext.new (o := .lst []) hlo) _ _ r1
  have l2 := upd_self H2 lo (.lst [])
  have hlf : lo ≠ fo := fun e => by rw [e, f1] at hlo; cases hlo
  have hlr : lo ≠ ro' := fun e => by rw [e, r1] at hlo; cases hlo
  have hlH : H lo = none := by
   cases e : H lo with
   | none => rfl
   | some o => have := x1 _ _ e; rw [hlo] at this; cases this
  generalize upd H2 lo (.lst []) = H3 at x2 f2 r2 l2
  refine SS_for ?_
  refine E_nm rfl ?_
  refine ⟨_, ⟨.inl rfl, fun zz zz zz e => by cases e⟩, items_lst r2, ?_⟩
  refine for_inv (P := fun i ρ H' => ∃ on fi, ρ = [some (.int m), some (.ref fo), some (.ref ro'), some (.ref lo), on, fi] /\ Ext H H' /\ H' fo = some (.lst ((levs m k).map brv)) /\ H' ro' = some (.lst ((lev m k).map brv)) /\ H' lo = some (.lst ((((lev m k).take i).flatMap (longer m)).map brv)))
   (Vc.xi_2_5 on fi rfl x2 f2 r2 l2) (fun i x ρ H4 R' hP hx4 hR' => ?_) fun ρ H4 hP => ?_
  ·refine Vc.xa_2_5 hP fun on fi hr162_2 hx' hf' hr' hl' => ?_
   try clear hP
   subst hr162_2
   rw [List.getElem?_map, Option.map_eq_some_iff] at hx4
   refine Vc.xa_1_2 hx4 fun one hoi hr164_2 => ?_
   try clear hx4
   subst hr164_2
   obtain ⟨hol, hof⟩ : one.length <= 8 /\ fstOf one <= 8 := by simpa using List.all_eq_true.mp hl3 one (List.mem_of_getElem? hoi)
   have hft := flat_take (longer m) (lev m k) i
   refine ⟨items_lst hr', _, rfl, ?_⟩
   show wpSs C _ _ [some (.int m), some (.ref fo), some (.ref ro'), some (.ref lo), some (brv one), fi] _ _ _
   refine SS_asg (E_ci ?_)
   refine SS_join (J := fun ρ' H' => ρ' = [some (.int m), some (.ref fo), some (.ref ro'), some (.ref lo), some (brv one), some (.int (fstOf one))] /\ H' = H4) (fun ρ' H5 hJ => ?_) fun R2 hR2 => ?_
   ·refine Vc.xa_0_2 hJ fun hr171_0 hr171_1 => ?_
    try clear hJ
    subst hr171_0
    subst hr171_1
    refine SS_exp (E_meth (E_nm rfl ?_))
    refine ⟨_, mget_l hl' PySem.F.slot_list_extend PySem.F.type_list_extend, callee_builtin, ?_⟩
    refine Es_cons ?_
    refine E_comp ?_
    refine E_call (Std.n_range (by assumption)) callee_type (c_es2 rfl rfl ?_)
    refine cv_range2 ?_
    refine ⟨_, itq_rng rfl (by (clear hm hz hk hl1 hl2 hnil hkm hn1 hn2 hlf hlr hol hof hft; omega)) (by (clear hm hz hk hl1 hl2 hnil hkm hn1 hn2 hlf hlr hol hft; omega)) (by (clear hm hz hk hl1 hl2 hnil hkm hn1 hn2 hlf hlr hol hof hft; omega)) (by (clear hz hk hl1 hl2 hnil hkm hn1 hn2 hlf hlr hol hof hft; omega)), rfl, by rw [rng_len]; (clear hk hl1 hl2 hnil hkm hn1 hn2 hlf hlr hol hof hft; omega), ?_⟩
    refine comp_inv (P := fun j acc H' => acc = ((List.range j).map fun t => one ++ [fstOf one + t]).map brv /\ H' = H5) ⟨rfl, rfl⟩ (fun j x acc H' R3 hP hx3 hR3 => ?_) fun acc H' hP => ⟨rfl, ?_⟩
    ·refine Vc.xa_0_2 hP fun hr180_0 hr180_1 => ?_
     try clear hP
     subst hr180_0
     subst hr180_1
     refine Vc.xa_0_2 (rng_get hx3) fun hr181_0 hj => ?_
     subst hr181_0
     refine ⟨rfl, _, rfl, ?_⟩
     refine Ts_nil (if_t (E_bin (E_nm rfl (E_tup (c_es1 rfl ?_)))))
     refine ⟨show 1 <= sizeLine by decide, ?_⟩
     refine bin_tcat (by simp; (clear hm hk hl1 hl2 hnil hkm hn1 hn2 hlf hlr hof hft hj; omega)) ?_
     refine hR3 _ _ ⟨?_, rfl⟩
     rw [List.range_succ, List.map_append, List.map_append]
     show List.map brv _ ++ [_] = List.map brv _ ++ [brv (one ++ [fstOf one + j])]
     unfold brv
     rw [List.map_append]; rfl
    refine Vc.xa_0_2 hP fun hr191_0 hr191_1 => ?_
    try clear hP
    subst hr191_0
    subst hr191_1
    rw [rng_len, show ((m : Int) - (fstOf one : Int)).toNat = m - fstOf one by (clear hm hz hk hl1 hl2 hnil hkm hn1 hn2 hlf hlr hol hof hft; omega)]
    have hlong : (List.range (m - fstOf one)).map (fun t => one ++ [fstOf one + t]) = longer m one := rfl
    rw [hlong]
    have hll : (longer m one).length <= 7 := by unfold longer; simp; (clear hz hk hl1 hl2 hnil hkm hn1 hn2 hlf hlr hol hof hft; omega)
    refine ⟨by rw [List.length_map]; (clear hm hk hl1 hl2 hnil hkm hn1 hn2 hlf hlr hol hof hft; omega), fun c hc => ?_⟩
    have x5 := hx'.more (o := .lst ((longer m one).map brv)) hc
    have f5 := (Ext.new (o := .lst ((longer m one).map brv)) hc) _ _ hf'
    have r5 := (Ext.new (o := .lst ((longer m one).map brv)) hc) _ _ hr'
    have l5 := (Ext.new (o := .lst ((longer m one).map brv)) hc) _ _ hl'
    have c5 := upd_self H' c (.lst ((longer m one).map brv))
    generalize upd H' c (.lst ((longer m one).map brv)) = H6 at x5 f5 r5 l5 c5
    refine Es_nil ?_
    refine cv_extend l5 c5 (by rw [List.length_map, List.length_map]; simp only [lev] at hn1; (clear hm hk hl1 hl2 hnil hkm hn2 hlf hlr hol hof; omega)) ?_
    refine SS_nil (hR' _ _ (Vc.xi_2_5 _ _ rfl (x5.mut hlH) ((upd_ne (Ne.symm hlf)).trans f5) ((upd_ne (Ne.symm hlr)).trans r5) ?_))
    rw [upd_self, flat_snoc hoi, List.map_append]
   ·refine c_tcmp (E_nm rfl (E_tup (Es_nil ?_)))
    refine ⟨by decide, ?_⟩
    refine br_nil ?_
    refine tru_bool ?_
    by_cases h0 : one = []
    ·rw [show (!decide (one = [])) = false by rw [decide_eq_true h0]; rfl, if_neg (by decide)]
     refine SS_nil (hR2 _ _ ⟨?_, rfl⟩)
     subst h0; rfl
    ·rw [show (!decide (one = [])) = true by rw [decide_eq_false h0]; rfl, if_pos rfl]
     refine SS_asg (E_bin (E_sub (E_nm rfl (E_una (E_ci (una_neg ?_))))))
     have hlen : 0 < one.length := List.length_pos_iff.mpr h0
     refine sub_tup (i := -1) (x := .int (one.getLast h0)) (j := one.length - 1) (by rw [List.length_map]; exact seq_last hlen) (by rw [List.length_map]; (clear hm hk hl1 hl2 hnil hkm hn1 hn2 hlf hlr hof hft h0 hlen; omega)) (by rw [List.getElem?_map, <- List.getLast?_eq_getElem?, List.getLast?_eq_some_getLast h0]; rfl) ?_
     refine E_ci (bin_add ?_)
     refine SS_nil (hR2 _ _ ⟨?_, rfl⟩)
     have : fstOf one = one.getLast h0 + 1 := by unfold fstOf; rw [List.getLast?_eq_some_getLast h0]
     rw [this]; rfl
  ·refine Vc.xa_2_5 hP fun on fi hr223_2 hx' hf' hr' hl' => ?_
   try clear hP
   subst hr223_2
   refine ⟨items_lst hr', ?_⟩
   rw [List.length_map, List.take_length] at hl'
   change H4 lo = some (.lst ((lev m (k + 1)).map brv)) at hl'
   refine SS_exp (E_meth (E_nm rfl ?_))
   refine ⟨_, mget_l hf' PySem.F.slot_list_extend PySem.F.type_list_extend, callee_builtin, ?_⟩
   refine c_es1 rfl ?_
   refine cv_extend hf' hl' (by rw [List.length_map, List.length_map]; (clear hm hk hl1 hnil hkm hn2 hlf hlr; omega)) ?_
   refine SS_asg (E_nm rfl ?_)
   refine SS_nil (hR (m + 1 - (k + 1)) _ _ (by (clear hm hz hk hl1 hl2 hnil hn1 hn2 hlf hlr; omega)) ⟨k + 1, lo, _, _, _, rfl, rfl, by (clear hm hz hk hl1 hl2 hnil hn1 hn2 hlf hlr; omega), hx'.mut hfo, ?_, (upd_ne hlf).trans hl'⟩)
   rw [upd_self, <- List.map_append]; rfl
theorem within_ct {one other : List Nat} (G : C.Good) (S : Std C) (D : Def C "is_within" is_within_vs 2 is_within_b) (hl : one.length <= 100) (K : ∀ H', Ext H H' -> Q (.bool (wthn one other)) H') : CallW C ⟨n + 1, true⟩ "is_within" [brv one, brv other] H Q X := by
 have hz : 10000 < sizeLine := by decide
 refine D.call G rfl ?_
 unfold is_within_b
 refine SS_ret (E_call (Std.n_all (by assumption)) callee_builtin (Es_cons ?_))
 refine E_comp ?_
 refine E_nm rfl ?_
 refine ⟨_, ⟨.inl rfl, fun zz zz zz e => by cases e⟩, rfl, by rw [List.length_map]; omega, ?_⟩
 refine comp_inv (P := fun i acc H' => acc = ((one.take i).map fun x => decide (x ∈ other)).map .bool /\ H' = H) ⟨rfl, rfl⟩ (fun i x acc H' R hP hx hR => ?_) fun acc H' hP => ⟨rfl, ?_⟩
 ·refine Vc.xa_0_2 hP fun hr244_0 hr244_1 => ?_
  try clear hP
  subst hr244_0
  subst hr244_1
  rw [List.getElem?_map, Option.map_eq_some_iff] at hx
  refine Vc.xa_1_2 hx fun y hyi hr246_2 => ?_
  try clear hx
  subst hr246_2
  refine ⟨rfl, _, rfl, ?_⟩
  refine Ts_nil (if_t (c_cmp_nn rfl rfl ?_))
  refine in_br (hR _ _ ⟨?_, rfl⟩)
  rw [List.take_add_one, hyi, List.map_append, List.map_append]; rfl
 refine Vc.xa_0_2 hP fun hr251_0 hr251_1 => ?_
 try clear hP
 subst hr251_0
 subst hr251_1
 rw [show (one.map fun (b : Nat) => V.int b).length = one.length from List.length_map .., List.take_length]
 refine ⟨by simp; omega, fun r hr => ?_⟩
 refine Es_nil ?_
 refine cv_all rfl (upd_self ..) ?_
 rw [List.all_map]
 exact K _ (.new hr)
theorem least_sets_ct (W : WlD C) (Ds : Def C "sets_of" sets_of_vs 1 sets_of_b) (Di : Def C "is_within" is_within_vs 2 is_within_b) (D : Def C "least_sets" least_sets_vs 2 least_sets_b) (hw : w.Ok most) (hm : most <= 7) (hp : H pa = some (.lst (w.ps.map Pt.v))) (hk : H lk = some (.lst (LL.map lkv))) (hL : LksOk w LL)
  (K : ∀ r H', Ext H H' -> H r = none -> H' r = some (.lst ((leastS w LL).map brv)) -> Q (.ref r) H') : CallW C ⟨n + 17, true⟩ "least_sets" [w.v pa, .ref lk] H Q X := by
 have hz : 10000 < sizeLine := by decide
 have hp2 := hw.p2
 have G := W.G; have S := W.S
 refine Vc.xa_0_2 (levs_ok w.ps.length (by (clear hz; omega))) fun hall hln => ?_
 refine D.call G rfl ?_
 unfold least_sets_b
 refine SS_asg (E_lst (Es_nil ?_))
 refine ⟨by decide, fun fo hfo => ?_⟩
 have x0 : Ext H (upd H fo (.lst [])) := .new hfo
 have f0 := upd_self H fo (.lst [])
 generalize upd H fo (.lst []) = H1 at x0 f0
 refine SS_for ?_
 refine E_fn Ds.fn ?_
 refine Es_cons (E_call (Std.n_len (by assumption)) callee_builtin (Es_cons (c_sub_nc rfl ?_)))
 refine sub_t2 rfl ?_
 refine Es_nil ?_
 refine cv_len_list (items_lst (x0 _ _ hp)) (by rw [List.length_map]; (clear hln; omega)) ?_
 rw [List.length_map]
 refine Es_nil ?_
 refine sets_of_ct (n := n + 15) (m := w.ps.length) G S Ds (by (clear hz hln; omega)) fun so H2 x2 hso hs2 => ?_
 have hne : fo ≠ so := fun e => by rw [e, hso] at f0; cases f0
 refine ⟨_, ⟨.inl rfl, fun zz zz zz e => by cases e⟩, items_lst hs2, ?_⟩
 refine for_inv (P := fun i ρ H' => ∃ on, ρ = [some (w.v pa), some (.ref lk), some (.ref fo), on] /\ Ext H H' /\ H' so = some (.lst ((levs w.ps.length w.ps.length).map brv)) /\ H' fo = some (.lst ((((levs w.ps.length w.ps.length).take i).foldl (lstep w LL) []).map brv)))
  ⟨none, rfl, x0.trans x2, hs2, x2 _ _ f0⟩ (fun i x ρ H' R hP hx hR => ?_) fun ρ H' hP => ?_
 ·refine Vc.xa_1_4 hP fun on hr286_1 hx' hs' hf' => ?_
  try clear hP
  subst hr286_1
  rw [List.getElem?_map, Option.map_eq_some_iff] at hx
  refine Vc.xa_1_2 hx fun one hoi hr288_2 => ?_
  try clear hx
  subst hr288_2
  have hone := List.all_eq_true.mp hall one (List.mem_of_getElem? hoi)
  simp only [Bool.and_eq_true, decide_eq_true_eq, List.all_eq_true] at hone
  have hstep : ((levs w.ps.length w.ps.length).take (i + 1)).foldl (lstep w LL) [] = lstep w LL (((levs w.ps.length w.ps.length).take i).foldl (lstep w LL) []) one := by
   rw [List.take_add_one, hoi, List.foldl_append]; rfl
  have hfl := lfold_len w LL ((levs w.ps.length w.ps.length).take i) []
  have hfm := lfold_mem w LL ((levs w.ps.length w.ps.length).take i) []
  rw [hstep] at hR
  have hmem : ∀ l ∈ ((levs w.ps.length w.ps.length).take i).foldl (lstep w LL) [], l.length <= 8 := fun l hl => by
   rcases hfm l hl with q | q
   ·cases q
   ·have := List.all_eq_true.mp hall l (List.mem_of_mem_take q)
    simp only [Bool.and_eq_true, decide_eq_true_eq, List.all_eq_true] at this
    exact this.2
  rw [List.length_take] at hfl
  clear hfm hstep
  generalize ((levs w.ps.length w.ps.length).take i).foldl (lstep w LL) [] = f at hfl hf' hR hmem
  simp only [List.length_nil] at hfl
  refine ⟨items_lst hs', _, rfl, ?_⟩
  show wpSs C _ _ [some (w.v pa), some (.ref lk), some (.ref fo), some (brv one)] _ _ _
  refine SS_ife (T_bop (A_and (T_not (T_call (E_call (Std.n_any (by assumption)) callee_builtin (Es_cons ?_))))))
  refine E_comp ?_
  refine E_nm rfl ?_
  refine ⟨_, ⟨.inl rfl, fun zz zz zz e => by cases e⟩, items_lst hf', by rw [List.length_map]; (clear hm hp2 hne hone; omega), ?_⟩
  refine comp_inv (P := fun j acc H'' => acc = ((f.take j).map fun l => wthn l one).map .bool /\ Ext H' H'') ⟨rfl, .refl _⟩ (fun j x acc H'' R' hQ hx2 hR2 => ?_) fun acc H'' hQ => ⟨?_, ?_⟩
  ·refine Vc.xa_0_2 hQ fun hr313_0 xq => ?_
   try clear hQ
   subst hr313_0
   rw [List.getElem?_map, Option.map_eq_some_iff] at hx2
   refine Vc.xa_1_2 hx2 fun y hyj hr315_2 => ?_
   try clear hx2
   subst hr315_2
   refine ⟨items_lst (xq _ _ hf'), _, rfl, ?_⟩
   refine Ts_nil (if_t ?_)
   refine E_fn Di.fn ?_
   refine c_es2 rfl rfl ?_
   refine within_ct (n := n + 15) (one := y) (other := one) G S Di (by have := hmem y (List.mem_of_getElem? hyj); (clear hm hz hp2 hln hne hone hfl; omega)) fun H3 x3 => ?_
   refine hR2 _ _ ⟨?_, xq.trans x3⟩
   rw [List.take_add_one, hyj, List.map_append, List.map_append]; rfl
  ·refine Vc.xa_0_2 hQ fun hr323_0 xq => ?_
   try clear hQ
   subst hr323_0
   exact items_lst (xq _ _ hf')
  refine Vc.xa_0_2 hQ fun hr325_0 xq => ?_
  try clear hQ
  subst hr325_0
  rw [show (f.map brv).length = f.length from List.length_map .., List.take_length]
  refine ⟨by simp; (clear hm hp2 hne hone; omega), fun r hr => ?_⟩
  have x4 := xq.more (o := .lst ((f.map fun l => wthn l one).map .bool)) hr
  refine Es_nil ?_
  refine cv_any rfl (upd_self ..) ?_
  rw [List.any_map]
  generalize upd H'' r (.lst ((f.map fun l => wthn l one).map .bool)) = H4 at x4
  refine tru_bool ?_
  have x04 := hx'.trans x4
  have e0 : (id ∘ fun l => wthn l one) = fun l => wthn l one := rfl
  rw [e0]
  cases h1 : f.any fun l => wthn l one with
  | true =>
   have es : lstep w LL f one = f := by unfold lstep; rw [h1, if_neg (fun q => Bool.false_ne_true q.1)]
   refine if_nt (if_f (SS_app0 ?_))
   refine SS_nil (hR _ _ ⟨_, rfl, x04, x4 _ _ hs', ?_⟩)
   rw [es]; exact x4 _ _ hf'
  | false =>
   refine if_nf (A_and (T_call ?_))
   refine E_fn W.h.fn ?_
   refine c_es3 rfl rfl rfl ?_
   refine has_room_ct (n := n) (br := one) W hw hm (x04 _ _ hp) (x04 _ _ hk) hL fun H5 x5 => ?_
   have x05 := x04.trans x5
   refine tru_bool ?_
   cases h2 : room w LL one with
   | true =>
    have es : lstep w LL f one = f ++ [one] := by unfold lstep; rw [h1, h2, if_pos ⟨rfl, rfl⟩]
    rw [if_pos rfl]
    refine A_nil_and (if_t (SS_app1 (SS_exp (E_meth (E_nm rfl ?_)))))
    refine ⟨_, mget_append (x5 _ _ (x4 _ _ hf')), callee_builtin, ?_⟩
    refine c_es1 rfl ?_
    refine cv_append (x5 _ _ (x4 _ _ hf')) (by rw [List.length_map]; (clear hm hp2 hne hone; omega)) (SS_nil (hR _ _ ⟨_, rfl, x05.mut hfo, (upd_ne (Ne.symm hne)).trans (x5 _ _ (x4 _ _ hs')), ?_⟩))
    rw [upd_self, es, List.map_append]; rfl
   | false =>
    have es : lstep w LL f one = f := by unfold lstep; rw [h2, if_neg (fun q => Bool.false_ne_true q.2)]
    rw [if_neg (by decide)]
    refine if_f (SS_app0 ?_)
    refine SS_nil (hR _ _ ⟨_, rfl, x05, x5 _ _ (x4 _ _ hs'), ?_⟩)
    rw [es]; exact x5 _ _ (x4 _ _ hf')
 ·refine Vc.xa_1_4 hP fun on hr365_1 hx' hs' hf' => ?_
  try clear hP
  subst hr365_1
  refine ⟨items_lst hs', ?_⟩
  refine c_ret_n rfl ?_
  rw [List.length_map, List.take_length] at hf'
  exact K fo _ hx' hfo hf'
end
end Vc
end
section
set_option maxRecDepth 100000
namespace Vc
open PyProof.Rows
section
variable (c : Nat -> Nat -> Bool)
noncomputable def tLt (p : Array Nat) (i j : Nat) : Option Bool := p[i]?.bind fun x => p[j]?.bind fun y => some (c x y)
noncomputable def tAsc (p : Array Nat) (lo : Nat) : Nat -> Nat -> Option Nat
 | 0, n => some n
 | f + 1, n => (tLt c p (lo + n) (lo + n - 1)).bind fun b => bif b then some n else tAsc p lo f (n + 1)
noncomputable def tCount (p : Array Nat) (lo nrem : Nat) : Option Nat := (tAsc c p lo (nrem - 1) 1).bind fun n =>
 bif n == nrem then some n else bif Nat.ble 2 n then (tLt c p lo (lo + n - 1)).bind fun b => bif b then some n else none else none
noncomputable def tPlace (p : Array Nat) (lo k : Nat) : Nat -> Nat -> Nat -> Option Nat
 | 0, l, _ => some l
 | f + 1, l, r => bif Nat.ble r l then some l else (tLt c p (lo + k) (lo + (l + r) / 2)).bind fun b => bif b then tPlace p lo k f l ((l + r) / 2) else tPlace p lo k f ((l + r) / 2 + 1) r
noncomputable def tBin (lo : Nat) : Nat -> Array Nat -> Nat -> Option (Array Nat)
 | 0, p, _ => some p
 | f + 1, p, k => (tPlace c p lo k k 0 k).bind fun l => tBin lo f (bubble p (lo + k) (lo + k - (lo + l))) (k + 1)
noncomputable def tUp (b : Nat -> Option Bool) (mx : Nat) : Nat -> Nat -> Nat -> Option (Nat × Nat)
 | 0, l, o => some (l, o)
 | f + 1, l, o => bif Nat.ble mx o then some (l, o) else (b o).bind fun x => bif x then some (l, o) else tUp b mx f o (2 * o + 1)
noncomputable def tHalf (b : Nat -> Option Bool) : Nat -> Nat -> Nat -> Option Nat
 | 0, _, h => some h
 | f + 1, l, h => bif Nat.ble h l then some h else (b (l + (h - l) / 2)).bind fun x => bif x then tHalf b f (l + (h - l) / 2 + 1) h else tHalf b f l (l + (h - l) / 2)
noncomputable def tAt (p : Array Nat) (key base i : Nat) : Option Bool := p[base + i]?.bind fun x => some (!c key x)
noncomputable def tAt' (p : Array Nat) (key base i : Nat) : Option Bool := p[base + i]?.bind fun x => some (c x key)
noncomputable def tGalR (p : Array Nat) (key base n : Nat) : Option Nat := (tAt c p key base 0).bind fun b => bif b then
  (tUp (fun o => (tAt c p key base o).map (!·)) n n 0 1).bind fun r => tHalf (tAt c p key base) n (r.1 + 1) (min r.2 n) else none
noncomputable def tGalL (p : Array Nat) (key base n : Nat) : Option Nat := (tAt' c p key base (n - 1)).bind fun b => bif b then none else
  (tUp (fun o => tAt' c p key base (n - 1 - o)) (n - 1 + 1) n 0 1).bind fun r => tHalf (tAt' c p key base) n (n - 1 + 1 - min r.2 (n - 1 + 1)) (n - 1 - r.1)
noncomputable def tMerge (a b : Array Nat) : Nat -> Array Nat -> Nat -> Nat -> Nat -> Nat -> Option (Array Nat)
 | 0, _, _, _, _, _ => none
 | f + 1, out, ia, ib, ac, bc => b[ib]?.bind fun y => a[ia]?.bind fun x => bif c y x then
   (bif ib + 1 == b.size then none else bif Nat.ble 7 (bc + 1) then none else tMerge a b f (out.push y) ia (ib + 1) 0 (bc + 1))
  else bif ia + 1 + 1 == a.size then some (out.push x ++ b.extract ib b.size ++ a.extract (ia + 1) a.size)
  else bif Nat.ble 7 (ac + 1) then none else tMerge a b f (out.push x) (ia + 1) ib (ac + 1) 0
noncomputable def tLo (a b : Array Nat) : Option (Array Nat) := b[0]?.bind fun y => bif 1 == b.size then none else bif 0 + 1 == a.size then none else tMerge c a b (a.size + b.size) #[y] 0 1 0 0
noncomputable def tPut (p : Array Nat) (at_ : Nat) (m : Array Nat) : Array Nat := m.toList.zipIdx.foldl (fun a x => a.setIfInBounds (at_ + x.2) x.1) p
noncomputable abbrev Pend := Array (Nat × Nat × Nat)
noncomputable def tMid (p : Array Nat) (sa na sb nb : Nat) : Option (Array Nat) := p[sa + na - 1]?.bind fun key => (tGalL c p key sb nb).bind fun n =>
 bif n == 0 then none else bif !Nat.ble na n then none else (tLo c (p.extract sa sb) (p.extract sb (sb + n))).map (tPut p sa)
noncomputable def tMergeAt (p : Array Nat) (q : Pend) (i : Nat) : Option (Array Nat × Pend) := q[i]?.bind fun x => q[i + 1]?.bind fun y => p[y.1]?.bind fun key => (tGalR c p key x.1 x.2.1).bind fun k =>
 bif x.2.1 - k == 0 then none else (tMid c p (x.1 + k) (x.2.1 - k) y.1 y.2.1).map fun p' => (p', (q.setIfInBounds i (x.1, x.2.1 + y.2.1, x.2.2)).eraseIdxIfInBounds (i + 1))
end
end Vc
end
section
set_option maxRecDepth 100000
namespace Vc
open PySem PySem.W PyProof.Rows
section
variable {M : Model} {A : Around} {E : Value -> Shared -> Prop} {σ β : Type} {s : Shared}
theorem tC_mono {α : Type} {m : StateT σ Sem α} {Q Q' : α -> σ -> Shared -> Prop} {st : σ} (h : kasC M A E m Q st s) (hq : ∀ a st' s', Q a st' s' -> Q' a st' s') : kasC M A E m Q' st s :=
 wpAny_mono h (fun r s' => hq r.1 r.2 s') fun zz zz e => e
theorem t_rangeL {f : Nat -> β -> StateT σ Sem (ForInStep β)} {F : β -> σ -> Prop} (I : Nat -> Nat -> β -> σ -> Prop) (hz : ∀ a b st, I 0 a b st -> F b st)
  (hs : ∀ k a b st, I (k + 1) a b st -> kasC M A E (f a b) (fun r st' s' => s' = s /\ match r with | .done b' => F b' st' | .yield b' => I k (a + 1) b' st') st s) :
  ∀ n a b st, I n a b st -> kasC M A E (forIn (List.range' a n) b f) (fun b' st' s' => s' = s /\ F b' st') st s := by
 intro n
 induction n with
 | zero => intro a b st h; exact kasC_nil ⟨rfl, hz a b st h⟩
 | succ n ih =>
  intro a b st h
  refine kasC_cons (tC_mono (hs n a b st h) fun r st' s' h' => ?_)
  obtain ⟨rfl, h'⟩ := h'
  cases r with
  | done b' => exact ⟨rfl, h'⟩
  | yield b' => exact ih (a + 1) b' st' h'
theorem t_range {f : Nat -> β -> StateT σ Sem (ForInStep β)} {F : β -> σ -> Prop} {Q : β -> σ -> Shared -> Prop} {a b : Nat} {x : β} {st : σ} (I : Nat -> Nat -> β -> σ -> Prop) (h0 : I (b - a) a x st) (hz : ∀ a b st, I 0 a b st -> F b st)
  (hs : ∀ k a b st, I (k + 1) a b st -> kasC M A E (f a b) (fun r st' s' => s' = s /\ match r with | .done b' => F b' st' | .yield b' => I k (a + 1) b' st') st s) (hq : ∀ b st, F b st -> Q b st s) :
  kasC M A E (forIn [a:b] x f) Q st s :=
 tC_mono (kasC_range (t_rangeL I hz hs _ _ _ _ h0)) fun b st s' h => by obtain ⟨rfl, h⟩ := h; exact hq b st h
end
section
variable {prog : Program} {w : World} {A : Around} {E : Value -> Shared -> Prop} {κ : SortKind} {itm : Nat -> Keyed} {c : Nat -> Nat -> Bool} {s : Shared} {p : Array Nat} {q : Pend}
noncomputable def tS (κ : SortKind) (itm : Nat -> Keyed) (p : Array Nat) (q : Pend) : SortSt := SortSt.mk' κ (p.map itm) q 7 none
noncomputable def tC (prog : Program) (w : World) (A : Around) (κ : SortKind) (itm : Nat -> Keyed) (c : Nat -> Nat -> Bool) (s : Shared) : Prop :=
 ∀ i j (C : Bool -> Shared -> Prop), C (c i j) s -> wpAny (model prog w) A (keyLt' κ (itm i).1 (itm j).1) C (fun zz zz => False) s
theorem t_cmp {i j : Nat} {Q : Option Bool -> SortSt -> Shared -> Prop} (hc : tC prog w A κ itm c s) (h : Q (some (c i j)) (tS κ itm p q) s) : kasC (model prog w) A E (lt' (itm i) (itm j)) Q (tS κ itm p q) s := by
 rw [lt'_eq]
 refine kasC_bind (kasC_get ?_)
 refine kasC_bind (kasC_lift (wpAny_attempt (wpAny_mono (hc i j (fun b s' => b = c i j /\ s' = s) ⟨rfl, rfl⟩) (fun b s' hb => ?_) fun zz zz hF => hF.elim)))
 refine Vc.xa_0_2 hb fun hr42_0 hr42_1 => ?_
 try clear hb
 subst hr42_0
 subst hr42_1
 exact kasC_pure h
theorem t_elem {arr : Array Nat} {i x : Nat} {Q : Keyed -> SortSt -> Shared -> Prop} {st : SortSt} (h : arr[i]? = some x) (hq : Q (itm x) st s) : kasC (model prog w) A E (elem' (arr.map itm) i) Q st s := by
 rw [elem'_eq, Array.getElem?_map, h]
 exact kasC_pure hq
theorem t_lt {i j : Nat} {b : Bool} {Q : Option Bool -> SortSt -> Shared -> Prop} (hc : tC prog w A κ itm c s) (h : tLt c p i j = some b) (hq : Q (some b) (tS κ itm p q) s) : kasC (model prog w) A E (ltAt' i j) Q (tS κ itm p q) s := by
 refine Vc.xa_1_2 (Option.bind_eq_some_iff.mp h) fun x h1 h => ?_
 refine Vc.xa_1_2 (Option.bind_eq_some_iff.mp h) fun y h2 h => ?_
 cases h
 rw [ltAt'_eq]
 refine kasC_bind (kasC_get ?_)
 refine kasC_bind (t_elem h1 (kasC_bind (t_elem h2 (t_cmp hc hq))))
theorem nble {a b : Nat} (h : Nat.ble a b = false) : ¬ a <= b := fun z => by rw [Nat.ble_eq_true_of_le z] at h; cases h
theorem t_no {α : Type} {u : Prop} [Decidable u] {x y : StateT SortSt Sem α} {Q : α -> SortSt -> Shared -> Prop} {st : SortSt} (h : ¬ u) (hy : kasC (model prog w) A E y Q st s) : kasC (model prog w) A E (if u then x else y) Q st s := by rw [if_neg h]; exact hy
theorem t_yes {α : Type} {u : Prop} [Decidable u] {x y : StateT SortSt Sem α} {Q : α -> SortSt -> Shared -> Prop} {st : SortSt} (h : u) (hy : kasC (model prog w) A E x Q st s) : kasC (model prog w) A E (if u then x else y) Q st s := by rw [if_pos h]; exact hy
theorem t_ltb {α ρ : Type} {F : Bool -> Option ρ} {r : ρ} {i j : Nat} {k : Option Bool -> StateT SortSt Sem α} {Q : α -> SortSt -> Shared -> Prop} (hc : tC prog w A κ itm c s) (e : (tLt c p i j).bind F = some r) (h : ∀ b, F b = some r -> kasC (model prog w) A E (k (some b)) Q (tS κ itm p q) s) :
  kasC (model prog w) A E (ltAt' i j >>= k) Q (tS κ itm p q) s := (Option.bind_eq_some_iff.mp e).elim fun b e => kasC_bind (t_lt hc e.1 (h b e.2))
theorem t_b {α ρ : Type} {b : Bool} {X' Y' : Option ρ} {r : ρ} {x y : StateT SortSt Sem α} {Q : α -> SortSt -> Shared -> Prop} {st : SortSt} (e : (bif b then X' else Y') = some r) (h1 : X' = some r -> kasC (model prog w) A E x Q st s) (h2 : Y' = some r -> kasC (model prog w) A E y Q st s) :
  kasC (model prog w) A E (if b = true then x else y) Q st s := by
 cases b with
 | true => exact t_yes rfl (h1 e)
 | false => exact t_no Bool.false_ne_true (h2 e)
theorem t_ble {α ρ : Type} {u : Prop} [Decidable u] {a b : Nat} {X' Y' : Option ρ} {r : ρ} {x y : StateT SortSt Sem α} {Q : α -> SortSt -> Shared -> Prop} {st : SortSt} (hu : u ↔ a <= b) (e : (bif Nat.ble a b then X' else Y') = some r) (h1 : X' = some r -> kasC (model prog w) A E x Q st s) (h2 : Y' = some r -> kasC (model prog w) A E y Q st s) :
  kasC (model prog w) A E (if u then x else y) Q st s := by
 cases g : Nat.ble a b with
 | true => rw [g] at e; exact t_yes (hu.mpr (Nat.le_of_ble_eq_true g)) (h1 e)
 | false => rw [g] at e; exact t_no (fun z => nble g (hu.mp z)) (h2 e)
theorem t_rangeP {ι β : Type} {f : Nat -> β -> StateT SortSt Sem (ForInStep β)} {F : β -> SortSt -> Prop} {Q : β -> SortSt -> Shared -> Prop} {a b : Nat} (S : ι -> β) (T : ι -> SortSt) (I : Nat -> ι -> Prop) (i0 : ι) (h0 : I (b - a) i0) (hz : ∀ i, I 0 i -> F (S i) (T i))
  (hs : ∀ k x i, I (k + 1) i -> kasC (model prog w) A E (f x (S i)) (fun r st' s' => s' = s /\ match r with | .done b' => F b' st' | .yield b' => ∃ i', b' = S i' /\ st' = T i' /\ I k i') (T i) s) (hq : ∀ b st, F b st -> Q b st s) :
  kasC (model prog w) A E (forIn [a:b] (S i0) f) Q (T i0) s := by
 refine t_range (F := F) (fun k zz b st => ∃ i', b = S i' /\ st = T i' /\ I k i') ⟨i0, rfl, rfl, h0⟩ (fun a b st h => ?_) (fun k a b st h => ?_) hq
 ·obtain ⟨i', rfl, rfl, h⟩ := h
  exact hz i' h
 ·obtain ⟨i', rfl, rfl, h⟩ := h
  exact hs k a i' h
theorem t_count {lo nrem n : Nat} {Q : Option Nat -> SortSt -> Shared -> Prop} (hc : tC prog w A κ itm c s) (h : tCount c p lo nrem = some n) (hq : Q (some n) (tS κ itm p q) s) : kasC (model prog w) A E (countRun' lo nrem) Q (tS κ itm p q) s := by
 refine Vc.xa_1_2 (Option.bind_eq_some_iff.mp h) fun m h1 h2 => ?_
 rw [countRun'_eq]
 refine kasC_bind (t_rangeP (F := fun b st => b = (none, m) /\ st = tS κ itm p q) (fun n => (none, n)) (fun zz => tS κ itm p q) (fun k n => tAsc c p lo k n = some m) 1 h1 (fun n e => ⟨congrArg _ (Option.some.inj e), rfl⟩) (fun k x n e => t_ltb hc e fun b e => t_b e (fun e => kasC_pure ⟨rfl, congrArg _ (Option.some.inj e), rfl⟩) fun e => kasC_pure ⟨rfl, n + 1, rfl, rfl, e⟩) fun b st h => ?_)
 rw [h.1, h.2]
 exact t_b h2 (fun e => Option.some.inj e ▸ kasC_pure hq) fun e => t_ble Iff.rfl e (fun e => t_ltb hc e fun b e => t_b e (fun e => Option.some.inj e ▸ kasC_pure hq) fun e => nomatch e) fun e => nomatch e
theorem t_move {k l : Nat} {Q : Unit -> SortSt -> Shared -> Prop} (h : Q () (tS κ itm (bubble p k (k - l)) q) s) : kasC (model prog w) A E (moveDown' k l) Q (tS κ itm p q) s := by
 rw [moveDown'_eq]
 refine kasC_modify ?_
 have e : setArr (tS κ itm p q) (bubble (arrOf (tS κ itm p q)) k (k - l)) = tS κ itm (bubble p k (k - l)) q := by
  show SortSt.mk' κ (bubble (p.map itm) k (k - l)) q 7 none = SortSt.mk' κ ((bubble p k (k - l)).map itm) q 7 none
  have e1 : bubble (p.map itm) k (k - l) = (bubble p k (k - l)).map itm := kas_swaps_map itm (fun i => k - i) (fun i => k - i - 1) _ p
  rw [e1]
 rw [e]; exact h
theorem t_bin {lo n ok : Nat} {pf : Array Nat} {Q : Bool -> SortSt -> Shared -> Prop} (hc : tC prog w A κ itm c s) (h : tBin c lo (n - max ok 1) p (max ok 1) = some pf) (hq : Q true (tS κ itm pf q) s) : kasC (model prog w) A E (binarySort' lo n ok) Q (tS κ itm p q) s := by
 rw [binarySort'_eq]
 refine kasC_bind (t_range (F := fun b st => b = (none, ()) /\ st = tS κ itm pf q) (fun k a b st => b = (none, ()) /\ ∃ p', st = tS κ itm p' q /\ tBin c lo k p' a = some pf) ⟨rfl, p, rfl, h⟩ ?_ ?_ ?_)
 ·rintro a b st ⟨rfl, p', rfl, e⟩
  cases e; exact ⟨rfl, rfl⟩
 ·rintro k a b st ⟨rfl, p', rfl, e⟩
  refine Vc.xa_1_2 (Option.bind_eq_some_iff.mp e) fun l e1 e2 => ?_
  exact kasC_bind (t_rangeP (F := fun b st => st = tS κ itm p' q /\ ∃ r, b = (none, l, r)) (fun i : Nat × Nat => (none, i.1, i.2)) (fun zz => tS κ itm p' q) (fun f i => tPlace c p' lo a f i.1 i.2 = some l) (0, a) e1 (fun i e => ⟨rfl, i.2, congrArg (fun z => (none, z, i.2)) (Option.some.inj e)⟩)
   (fun f x i e => t_ble Iff.rfl e (fun e => kasC_pure ⟨rfl, rfl, i.2, congrArg (fun z => (none, z, i.2)) (Option.some.inj e)⟩) fun e => t_ltb hc e fun b e => t_b e (fun e => kasC_pure ⟨rfl, (i.1, (i.1 + i.2) / 2), rfl, rfl, e⟩) fun e => kasC_pure ⟨rfl, ((i.1 + i.2) / 2 + 1, i.2), rfl, rfl, e⟩)
   fun b st h => h.2.elim fun r hb => hb ▸ h.1 ▸ kasC_bind (t_move (kasC_pure ⟨rfl, rfl, _, rfl, e2⟩)))
 ·rintro b st ⟨rfl, rfl⟩
  exact kasC_pure hq
end
end Vc
end
section
set_option maxRecDepth 100000
namespace Vc
open PySem PySem.W PyProof.Rows
noncomputable def gallop' : Bool -> Keyed -> Array Keyed -> Nat -> Nat -> Nat -> StateT SortSt Sem (Option Nat) := sortPriv% PySem.Builtin.gallop
noncomputable def mergeLo' : Array Keyed -> Array Keyed -> StateT SortSt Sem (Array Keyed) := sortPriv% PySem.Builtin.mergeLo
section
variable {prog : Program} {w : World} {A : Around} {E : Value -> Shared -> Prop} {κ : SortKind} {itm : Nat -> Keyed} {c : Nat -> Nat -> Bool} {s : Shared} {p p' : Array Nat} {q : Pend}
theorem t_bey {α ρ : Type} {key base i : Nat} {F : Bool -> Option ρ} {r : ρ} {k : Option Bool -> StateT SortSt Sem α} {Q : α -> SortSt -> Shared -> Prop} (hc : tC prog w A κ itm c s) (e : (tAt c p key base i).bind F = some r) (h : ∀ b, F b = some r -> kasC (model prog w) A E (k (some b)) Q (tS κ itm p' q) s) :
  kasC (model prog w) A E ((elem' (p.map itm) (base + i) >>= fun x => if false = true then lt' x (itm key) else (lt' (itm key) x >>= fun l => pure (Option.map (fun x => !x) l))) >>= k) Q (tS κ itm p' q) s := by
 refine Vc.xa_1_2 (Option.bind_eq_some_iff.mp e) fun b e e' => ?_
 refine Vc.xa_1_2 (Option.bind_eq_some_iff.mp e) fun x h1 h2 => ?_
 cases h2
 exact kasC_bind (kasC_bind (t_elem h1 (t_no Bool.false_ne_true (kasC_bind (t_cmp hc (kasC_pure (h _ e')))))))
theorem t_bey' {α ρ : Type} {key base i : Nat} {F : Bool -> Option ρ} {r : ρ} {k : Option Bool -> StateT SortSt Sem α} {Q : α -> SortSt -> Shared -> Prop} (hc : tC prog w A κ itm c s) (e : (tAt' c p key base i).bind F = some r) (h : ∀ b, F b = some r -> kasC (model prog w) A E (k (some b)) Q (tS κ itm p' q) s) :
  kasC (model prog w) A E ((elem' (p.map itm) (base + i) >>= fun x => if true = true then lt' x (itm key) else (lt' (itm key) x >>= fun l => pure (Option.map (fun x => !x) l))) >>= k) Q (tS κ itm p' q) s := by
 refine Vc.xa_1_2 (Option.bind_eq_some_iff.mp e) fun b e e' => ?_
 refine Vc.xa_1_2 (Option.bind_eq_some_iff.mp e) fun x h1 h2 => ?_
 cases h2
 exact kasC_bind (kasC_bind (t_elem h1 (t_yes rfl (t_cmp hc (h _ e')))))
theorem t_galR {key base n r : Nat} {Q : Option Nat -> SortSt -> Shared -> Prop} (hc : tC prog w A κ itm c s) (h : tGalR c p key base n = some r) (hq : Q (some r) (tS κ itm p' q) s) : kasC (model prog w) A E (gallop' false (itm key) (p.map itm) base n 0) Q (tS κ itm p' q) s := by
 with_unfolding_all refine t_bey hc h fun b e => t_b e (fun e => (Option.bind_eq_some_iff.mp e).elim fun lo e => ?_) fun e => nomatch e
 refine kasC_bind (t_rangeP (F := fun b st => st = tS κ itm p' q /\ b = (none, lo.1, lo.2)) (fun i : Nat × Nat => (none, i.1, i.2)) (fun zz => tS κ itm p' q) (fun f i => tUp (fun o => (tAt c p key base o).map (!·)) n f i.1 i.2 = some lo) (0, 1) e.1 (fun i e => ⟨rfl, congrArg (fun z : Nat × Nat => (none, z.1, z.2)) (Option.some.inj e)⟩)
  (fun f x i e => t_ble Iff.rfl e (fun e => kasC_pure ⟨rfl, rfl, congrArg (fun z : Nat × Nat => (none, z.1, z.2)) (Option.some.inj e)⟩) fun e => t_bey hc (by rw [Nat.zero_add]; exact (Option.bind_map ..).symm.trans e) fun b e => t_b e (fun e => kasC_pure ⟨rfl, rfl, congrArg (fun z : Nat × Nat => (none, z.1, z.2)) (Option.some.inj e)⟩) fun e => kasC_pure ⟨rfl, (i.2, 2 * i.2 + 1), rfl, rfl, e⟩)
  fun b st h => h.2 ▸ h.1 ▸ ?_)
 exact kasC_bind (t_rangeP (F := fun b st => st = tS κ itm p' q /\ ∃ x, b = (none, x, r)) (fun i : Nat × Nat => (none, i.1, i.2)) (fun zz => tS κ itm p' q) (fun f i => tHalf (tAt c p key base) f i.1 i.2 = some r) (0 + lo.1 + 1, 0 + min lo.2 (n - 0)) (by rw [Nat.zero_add, Nat.zero_add]; exact e.2) (fun i e => ⟨rfl, i.1, congrArg (fun z => (none, i.1, z)) (Option.some.inj e)⟩)
  (fun f x i e => t_ble Iff.rfl e (fun e => kasC_pure ⟨rfl, rfl, i.1, congrArg (fun z => (none, i.1, z)) (Option.some.inj e)⟩) fun e => t_bey hc e fun b e => t_b e (fun e => kasC_pure ⟨rfl, (i.1 + (i.2 - i.1) / 2 + 1, i.2), rfl, rfl, e⟩) fun e => kasC_pure ⟨rfl, (i.1, i.1 + (i.2 - i.1) / 2), rfl, rfl, e⟩)
  fun b st h => h.2.elim fun x hb => hb ▸ h.1 ▸ kasC_pure hq)
theorem t_galL {key base n r : Nat} {Q : Option Nat -> SortSt -> Shared -> Prop} (hc : tC prog w A κ itm c s) (h : tGalL c p key base n = some r) (hq : Q (some r) (tS κ itm p' q) s) : kasC (model prog w) A E (gallop' true (itm key) (p.map itm) base n (n - 1)) Q (tS κ itm p' q) s := by
 with_unfolding_all refine t_bey' hc h fun b e => t_b e (fun e => nomatch e) (fun e => (Option.bind_eq_some_iff.mp e).elim fun lo e => ?_)
 refine kasC_bind (t_rangeP (F := fun b st => st = tS κ itm p' q /\ b = (none, lo.1, lo.2)) (fun i : Nat × Nat => (none, i.1, i.2)) (fun zz => tS κ itm p' q) (fun f i => tUp (fun o => tAt' c p key base (n - 1 - o)) (n - 1 + 1) f i.1 i.2 = some lo) (0, 1) e.1 (fun i e => ⟨rfl, congrArg (fun z : Nat × Nat => (none, z.1, z.2)) (Option.some.inj e)⟩)
  (fun f x i e => t_ble Iff.rfl e (fun e => kasC_pure ⟨rfl, rfl, congrArg (fun z : Nat × Nat => (none, z.1, z.2)) (Option.some.inj e)⟩) fun e => t_bey' hc e fun b e => t_b e (fun e => kasC_pure ⟨rfl, rfl, congrArg (fun z : Nat × Nat => (none, z.1, z.2)) (Option.some.inj e)⟩) fun e => kasC_pure ⟨rfl, (i.2, 2 * i.2 + 1), rfl, rfl, e⟩)
  fun b st h => h.2 ▸ h.1 ▸ ?_)
 exact kasC_bind (t_rangeP (F := fun b st => st = tS κ itm p' q /\ ∃ x, b = (none, x, r)) (fun i : Nat × Nat => (none, i.1, i.2)) (fun zz => tS κ itm p' q) (fun f i => tHalf (tAt' c p key base) f i.1 i.2 = some r) (n - 1 + 1 - min lo.2 (n - 1 + 1), n - 1 - lo.1) e.2 (fun i e => ⟨rfl, i.1, congrArg (fun z => (none, i.1, z)) (Option.some.inj e)⟩)
  (fun f x i e => t_ble Iff.rfl e (fun e => kasC_pure ⟨rfl, rfl, i.1, congrArg (fun z => (none, i.1, z)) (Option.some.inj e)⟩) fun e => t_bey' hc e fun b e => t_b e (fun e => kasC_pure ⟨rfl, (i.1 + (i.2 - i.1) / 2 + 1, i.2), rfl, rfl, e⟩) fun e => kasC_pure ⟨rfl, (i.1, i.1 + (i.2 - i.1) / 2), rfl, rfl, e⟩)
  fun b st h => h.2.elim fun x hb => hb ▸ h.1 ▸ kasC_pure hq)
theorem t_once {β : Type} {f : Nat -> β -> StateT SortSt Sem (ForInStep β)} {Q : β -> SortSt -> Shared -> Prop} {n : Nat} {x : β} {st : SortSt} (hn : 0 < n) (F : β -> SortSt -> Prop)
  (hs : kasC (model prog w) A E (f 0 x) (fun r st' s' => s' = s /\ ∃ b, r = .done b /\ F b st') st s) (hq : ∀ b st, F b st -> Q b st s) : kasC (model prog w) A E (forIn [:n] x f) Q st s := by
 refine kasC_range ?_
 obtain ⟨m, rfl⟩ : ∃ m, n = m + 1 := ⟨n - 1, by omega⟩
 refine kasC_cons (tC_mono hs fun r st' s' h => ?_)
 obtain ⟨rfl, b, rfl, h⟩ := h
 exact hq b st' h
theorem t_el {α ρ : Type} {arr : Array Nat} {i : Nat} {F : Nat -> Option ρ} {r : ρ} {k : Keyed -> StateT SortSt Sem α} {Q : α -> SortSt -> Shared -> Prop} {st : SortSt} (e : (arr[i]?).bind F = some r) (h : ∀ x, arr[i]? = some x -> F x = some r -> kasC (model prog w) A E (k (itm x)) Q st s) :
  kasC (model prog w) A E (elem' (arr.map itm) i >>= k) Q st s := (Option.bind_eq_some_iff.mp e).elim fun x e => kasC_bind (t_elem e.1 (h x e.1 e.2))
theorem t_beq {α ρ : Type} {a : Nat} {b : Array Nat} {X' Y' : Option ρ} {r : ρ} {x y : StateT SortSt Sem α} {Q : α -> SortSt -> Shared -> Prop} {st : SortSt} (e : (bif a == b.size then X' else Y') = some r) (h1 : X' = some r -> kasC (model prog w) A E x Q st s) (h2 : Y' = some r -> kasC (model prog w) A E y Q st s) :
  kasC (model prog w) A E (if (a == (b.map itm).size) = true then x else y) Q st s := t_b (by rw [Array.size_map]; exact e) h1 h2
theorem t_rangeQ {ι β : Type} {f : Nat -> β -> StateT SortSt Sem (ForInStep β)} {F : β -> SortSt -> Prop} {Q : β -> SortSt -> Shared -> Prop} {a b : Nat} {x : β} (S : ι -> β) (T : ι -> SortSt) (I : Nat -> ι -> Prop) (i0 : ι) (hx : x = S i0) (h0 : I (b - a) i0) (hz : ∀ i, I 0 i -> F (S i) (T i))
  (hs : ∀ k x i, I (k + 1) i -> kasC (model prog w) A E (f x (S i)) (fun r st' s' => s' = s /\ match r with | .done b' => F b' st' | .yield b' => ∃ i', b' = S i' /\ st' = T i' /\ I k i') (T i) s) (hq : ∀ b st, F b st -> Q b st s) :
  kasC (model prog w) A E (forIn [a:b] x f) Q (T i0) s := hx ▸ t_rangeP S T I i0 h0 hz hs hq
theorem t_mergeLo {a b r : Array Nat} {Q : Array Keyed -> SortSt -> Shared -> Prop} (hc : tC prog w A κ itm c s) (h : tLo c a b = some r) (hq : Q (r.map itm) (tS κ itm p' q) s) : kasC (model prog w) A E (mergeLo' (a.map itm) (b.map itm)) Q (tS κ itm p' q) s := by
 with_unfolding_all refine kasC_bind (kasC_lift (wpAny_rule ?_))
 refine t_el h fun y hy e => t_beq e (fun e => nomatch e) fun e => t_beq e (fun e => nomatch e) fun e => kasC_bind (kasC_get (kasC_bind (t_once ?_ (fun b st => st = tS κ itm p' q /\ b.1 = some (r.map itm)) ?_ ?_)))
 ·rw [Array.size_map, Array.size_map]
  have := (Array.getElem?_eq_some_iff.mp hy).1
  omega
 ·refine kasC_bind (t_rangeQ (F := fun b st => st = tS κ itm p' q /\ b.1 = some (r.map itm)) (fun i : Array Nat × Nat × Nat × Nat × Nat => (none, Array.map itm i.1, i.2.1, i.2.2.1, i.2.2.2.1, i.2.2.2.2)) (fun zz => tS κ itm p' q) (fun f i => tMerge c a b f i.1 i.2.1 i.2.2.1 i.2.2.2.1 i.2.2.2.2 = some r) (#[y], 0, 1, 0, 0) (by simp) (by rw [Array.size_map, Array.size_map]; exact e) (fun i e => nomatch e)
   (fun f x i e => t_el e fun vb g1 e => t_el e fun va g2 e => kasC_bind (t_cmp hc (t_b e
    (fun e => kasC_bind (t_elem g1 (t_beq e (fun e => nomatch e) fun e => t_ble Iff.rfl e (fun e => nomatch e) fun e => kasC_pure ⟨rfl, (i.1.push vb, i.2.1, i.2.2.1 + 1, 0, i.2.2.2.2 + 1), by rw [Array.map_push], rfl, e⟩)))
    fun e => kasC_bind (t_elem g2 (t_beq e (fun e => kasC_pure ⟨rfl, rfl, by rw [<- Option.some.inj e]; simp⟩) fun e => t_ble Iff.rfl e (fun e => nomatch e) fun e => kasC_pure ⟨rfl, (i.1.push va, i.2.1 + 1, i.2.2.1, i.2.2.2.1 + 1, 0), by rw [Array.map_push], rfl, e⟩)))))
   fun b st h => ?_)
  obtain ⟨x1, x2⟩ := b
  refine Vc.xa_0_2 h fun hr64_0 hx => ?_
  try clear h
  subst hr64_0
  cases hx
  exact kasC_pure ⟨rfl, _, rfl, rfl, rfl⟩
 ·rintro ⟨x1, x2⟩ st ⟨rfl, hx⟩
  cases hx
  exact kasC_pure hq
theorem t_set {σ : Type} {st st' : σ} {Q : PUnit -> σ -> Shared -> Prop} {M : Model} (h : Q ⟨⟩ st' s) : kasC M A E (set st' : StateT σ Sem PUnit) Q st s := by
 unfold kasC; rw [StateT.run_set]; exact wpAny_pure h
theorem t_put (itm : Nat -> Keyed) (sa : Nat) : ∀ (l : List (Nat × Nat)) (p : Array Nat), (l.map fun x => (itm x.1, x.2)).foldl (fun a (x : Keyed × Nat) => a.setIfInBounds (sa + x.2) x.1) (p.map itm) = (l.foldl (fun a x => a.setIfInBounds (sa + x.2) x.1) p).map itm
 | [], _ => rfl
 | x :: l, p => by
  show (l.map fun x => (itm x.1, x.2)).foldl _ ((p.map itm).setIfInBounds (sa + x.2) (itm x.1)) = _
  rw [<- Array.map_setIfInBounds]
  exact t_put itm sa l _
theorem zipIdx_map' {α β : Type} (f : α -> β) : ∀ (l : List α) (k : Nat), (l.map f).zipIdx k = (l.zipIdx k).map fun x => (f x.1, x.2)
 | [], _ => rfl
 | x :: l, k => by simp [zipIdx_map' f l]
theorem t_mergeAt {i : Nat} {r : Array Nat × Pend} {Q : Bool -> SortSt -> Shared -> Prop} (hc : tC prog w A κ itm c s) (h : tMergeAt c p q i = some r) (hq : Q true (tS κ itm r.1 r.2) s) : kasC (model prog w) A E (mergeAt' i) Q (tS κ itm p q) s := by
 refine Vc.xa_1_2 (Option.bind_eq_some_iff.mp h) fun ho82_0 h1 h => ?_
 obtain ⟨sa, na, pw⟩ := ho82_0
 refine Vc.xa_1_2 (Option.bind_eq_some_iff.mp h) fun ho83_0 h2 h => ?_
 obtain ⟨sb, nb, pw'⟩ := ho83_0
 refine Vc.xa_1_2 (Option.bind_eq_some_iff.mp h) fun key h3 h => ?_
 refine Vc.xa_1_2 (Option.bind_eq_some_iff.mp h) fun k h4 h => ?_
 dsimp only at h h3 h4
 cases e1 : (na - k == 0) with
 | true => rw [e1] at h; cases h
 | false =>
  rw [e1] at h
  refine Vc.xa_1_2 (Option.map_eq_some_iff.mp h) fun p' h5 h6 => ?_
  refine Vc.xa_1_2 (Option.bind_eq_some_iff.mp h5) fun key' h7 h5 => ?_
  refine Vc.xa_1_2 (Option.bind_eq_some_iff.mp h5) fun n h8 h5 => ?_
  cases e2 : (n == 0) with
  | true => rw [e2] at h5; cases h5
  | false =>
   cases e3 : Nat.ble (na - k) n with
   | false => rw [e2, e3] at h5; cases h5
   | true =>
    rw [e2, e3] at h5
    refine Vc.xa_1_2 (Option.map_eq_some_iff.mp h5) fun m h9 h10 => ?_
    with_unfolding_all refine kasC_bind (kasC_get ?_)
    have h1' : (pendingOf (tS κ itm p q))[i]? = some (sa, na, pw) := h1
    have h2' : (pendingOf (tS κ itm p q))[i + 1]? = some (sb, nb, pw') := h2
    rw [h1', h2']
    refine kasC_bind (t_set ?_)
    refine kasC_bind (t_elem (arr := p) h3 (kasC_bind (t_galR (p := p) (p' := p) (q := (Array.setIfInBounds q i (sa, na + nb, pw)).eraseIdxIfInBounds (i + 1)) hc h4 ?_)))
    refine t_no (fun z => Bool.false_ne_true (e1.symm.trans z)) ?_
    refine kasC_bind (t_elem (arr := p) h7 (kasC_bind (t_galL (p := p) (p' := p) (q := (Array.setIfInBounds q i (sa, na + nb, pw)).eraseIdxIfInBounds (i + 1)) hc h8 ?_)))
    refine t_no (fun z => Bool.false_ne_true (e2.symm.trans z)) ?_
    refine t_yes (Nat.le_of_ble_eq_true e3) ?_
    have x1 : arrOf (tS κ itm p q) = p.map itm := rfl
    refine kasC_bind ?_
    rw [show (sortPriv% PySem.Builtin.SortState.a) (tS κ itm p q) = p.map itm from rfl, <- Array.map_extract, <- Array.map_extract]
    refine t_mergeLo (p' := p) hc h9 ?_
    refine kasC_bind (kasC_modify (kasC_bind (kasC_get (kasC_pure ?_))))
    have e5 : List.foldl (fun a (x : Keyed × Nat) => a.setIfInBounds (sa + k + x.2) x.1) (p.map itm) (m.map itm).toList.zipIdx = p'.map itm := by
     rw [<- h10, Array.toList_map, zipIdx_map', t_put]; rfl
    rw [<- h6] at hq
    have e6 : tS κ itm p' ((Array.setIfInBounds q i (sa, na + nb, pw)).eraseIdxIfInBounds (i + 1)) = SortSt.mk' κ (List.foldl (fun a (x : Keyed × Nat) => a.setIfInBounds (sa + k + x.2) x.1) (p.map itm) (m.map itm).toList.zipIdx) ((Array.setIfInBounds q i (sa, na + nb, pw)).eraseIdxIfInBounds (i + 1)) 7 none := by rw [e5]; rfl
    rw [e6] at hq
    exact hq
noncomputable def tColl (c : Nat -> Nat -> Bool) (pw : Nat) : Nat -> Array Nat -> Pend -> Option (Array Nat × Pend)
 | 0, p, q => some (p, q)
 | f + 1, p, q => match (if q.size > 1 then q[q.size - 2]? else none) with
  | none => some (p, q)
  | some x => bif Nat.ble x.2.2 pw then some (p, q) else (tMergeAt c p q (q.size - 2)).bind fun r => tColl c pw f r.1 r.2
noncomputable def tEndAt (q : Pend) : Nat := if ((if q.size - 2 > 0 then q[q.size - 2 - 1]?.map (·.2.1) else none).any (· < (q[q.size - 2 + 1]?.elim 0 (·.2.1)))) = true then q.size - 2 - 1 else q.size - 2
noncomputable def tEnd (c : Nat -> Nat -> Bool) : Nat -> Array Nat -> Pend -> Option (Array Nat × Pend)
 | 0, p, q => some (p, q)
 | f + 1, p, q => bif Nat.ble q.size 1 then some (p, q) else (tMergeAt c p q (tEndAt q)).bind fun r => tEnd c f r.1 r.2
noncomputable def tPush {ρ : Type} (c : Nat -> Nat -> Bool) (n m : Nat) (p : Array Nat) (q : Pend) (k : Array Nat -> Pend -> Option ρ) : Option ρ := match q.back? with
 | none => k p q
 | some x => (tColl c (power' n (2 * x.1 + x.2.1) (2 * x.1 + x.2.1 + x.2.1 + m) n) n p q).bind fun r => k r.1 (r.2.modify (r.2.size - 1) fun y => (y.1, y.2.1, power' n (2 * x.1 + x.2.1) (2 * x.1 + x.2.1 + x.2.1 + m) n))
theorem tPush_none {ρ : Type} {n m : Nat} {k : Array Nat -> Pend -> Option ρ} (h : q.back? = none) : tPush c n m p q k = k p q := by unfold tPush; rw [h]
theorem tPush_some {ρ : Type} {n m : Nat} {k : Array Nat -> Pend -> Option ρ} {x : Nat × Nat × Nat} (h : q.back? = some x) : tPush c n m p q k = (tColl c (power' n (2 * x.1 + x.2.1) (2 * x.1 + x.2.1 + x.2.1 + m) n) n p q).bind fun r => k r.1 (r.2.modify (r.2.size - 1) fun y => (y.1, y.2.1, power' n (2 * x.1 + x.2.1) (2 * x.1 + x.2.1 + x.2.1 + m) n)) := by unfold tPush; rw [h]
noncomputable def tRuns (c : Nat -> Nat -> Bool) (n mr : Nat) : Nat -> Array Nat -> Pend -> Nat -> Option (Array Nat × Pend)
 | 0, p, q, _ => some (p, q)
 | f + 1, p, q, lo => bif Nat.ble n lo then some (p, q) else (tCount c p lo (n - lo)).bind fun m => bif Nat.ble (m + 1) mr then
   (tBin c lo (min (n - lo) mr - max m 1) p (max m 1)).bind fun p' => tPush c n (min (n - lo) mr) p' q fun p q => tRuns c n mr f p (q.push (lo, min (n - lo) mr, 0)) (lo + min (n - lo) mr)
  else tPush c n m p q fun p q => tRuns c n mr f p (q.push (lo, m, 0)) (lo + m)
noncomputable def tSort (c : Nat -> Nat -> Bool) (n : Nat) : Option (Array Nat) := (tRuns c n (minRun' n n 0) n (List.range n).toArray #[] 0).bind fun r => (tEnd c n r.1 r.2).map (·.1)
theorem t_coll {α : Type} {n pw : Nat} {r : Array Nat × Pend} {f : Nat -> Option PUnit × PUnit -> StateT SortSt Sem (ForInStep (Option PUnit × PUnit))} {k : Option PUnit × PUnit -> StateT SortSt Sem α} {Q : α -> SortSt -> Shared -> Prop} (hf : ∀ x b, f x b = (get >>= fun l => match (if (pendingOf l).size > 1 then (pendingOf l)[(pendingOf l).size - 2]? else none) with
   | some (_, _, older) => if older <= pw then pure (ForInStep.done (none, ())) else (mergeAt' ((pendingOf l).size - 2) >>= fun g => if (!g) = true then pure (ForInStep.done (some (), ())) else pure (ForInStep.yield (none, ())))
   | _ => pure (ForInStep.done (none, ())))) (hc : tC prog w A κ itm c s) (e : tColl c pw n p q = some r) (h : kasC (model prog w) A E (k (none, ())) Q (tS κ itm r.1 r.2) s) : kasC (model prog w) A E (forIn [:n] (none, ()) f >>= k) Q (tS κ itm p q) s := by
 refine kasC_bind (t_rangeP (F := fun b st => b = (none, ()) /\ st = tS κ itm r.1 r.2) (fun _ : Array Nat × Pend => (none, ())) (fun i => tS κ itm i.1 i.2) (fun f i => tColl c pw f i.1 i.2 = some r) (p, q) e (fun i e => ⟨rfl, by cases e; rfl⟩) (fun m x i e => ?_) fun b st h' => h'.1 ▸ h'.2 ▸ h)
 rw [hf]
 refine kasC_bind (kasC_get ?_)
 unfold tColl at e
 cases g : (if i.2.size > 1 then i.2[i.2.size - 2]? else none) with
 | none =>
  rw [g] at e; cases e
  rw [show (if (pendingOf (tS κ itm i.1 i.2)).size > 1 then (pendingOf (tS κ itm i.1 i.2))[(pendingOf (tS κ itm i.1 i.2)).size - 2]? else none) = none from g]
  exact kasC_pure ⟨rfl, rfl, rfl⟩
 | some y =>
  obtain ⟨y1, y2, y3⟩ := y
  rw [g] at e
  rw [show (if (pendingOf (tS κ itm i.1 i.2)).size > 1 then (pendingOf (tS κ itm i.1 i.2))[(pendingOf (tS κ itm i.1 i.2)).size - 2]? else none) = some (y1, y2, y3) from g]
  exact t_ble Iff.rfl e (fun e => kasC_pure ⟨rfl, rfl, by cases e; rfl⟩) fun e => (Option.bind_eq_some_iff.mp e).elim fun r' e => kasC_bind (t_mergeAt hc e.1 (t_no Bool.false_ne_true (kasC_pure ⟨rfl, r', rfl, rfl, e.2⟩)))
theorem t_sort {n : Nat} {r : Array Nat} {Q : Unit -> SortSt -> Shared -> Prop} (hc : tC prog w A κ itm c s) (h : tSort c n = some r) (hq : ∀ q, Q () (tS κ itm r q) s) : kasC (model prog w) A E sortRuns' Q (tS κ itm (List.range n).toArray #[]) s := by
 refine Vc.xa_1_2 (Option.bind_eq_some_iff.mp h) fun r0 h1 h2 => ?_
 refine Vc.xa_1_2 (Option.map_eq_some_iff.mp h2) fun r1 h3 h4 => ?_
 have hsz : (arrOf (tS κ itm (List.range n).toArray #[])).size = n := by show ((List.range n).toArray.map itm).size = n; simp
 rw [sortRuns'_eq]
 refine kasC_bind (kasC_get ?_)
 dsimp only
 rw [hsz]
 refine kasC_bind (t_rangeP (F := fun b st => st = tS κ itm r0.1 r0.2 /\ ∃ lo, b = (none, lo)) (fun i : Array Nat × Pend × Nat => (none, i.2.2)) (fun i => tS κ itm i.1 i.2.1) (fun f i => tRuns c n (minRun' n n 0) f i.1 i.2.1 i.2.2 = some r0) (_, #[], 0) h1 (fun i e => ⟨by cases e; rfl, _, rfl⟩)
  (fun f x i e => t_ble Iff.rfl e (fun e => kasC_pure ⟨rfl, by cases e; rfl, _, rfl⟩) fun e => (Option.bind_eq_some_iff.mp e).elim fun m e => kasC_bind (t_count hc e.1 (t_ble Iff.rfl e.2 (fun e => (Option.bind_eq_some_iff.mp e).elim fun p2 e => kasC_bind (kasC_lift (wpAny_rule (kasC_bind (t_bin hc e.1 (t_no Bool.false_ne_true ?_))))))
   fun e => ?_))) fun b st h => h.2.elim fun lo hb => hb ▸ h.1 ▸ kasC_bind (t_rangeP (F := fun b st => b = (none, ()) /\ st = tS κ itm r1.1 r1.2) (fun _ : Array Nat × Pend => (none, ())) (fun i => tS κ itm i.1 i.2) (fun f i => tEnd c f i.1 i.2 = some r1) (r0.1, r0.2) h3 (fun i e => ⟨rfl, by cases e; rfl⟩)
    (fun f x i e => kasC_bind (kasC_get ?_))
    fun b st h => h.1 ▸ h.2 ▸ kasC_pure (h4 ▸ hq _)))
 ·replace e := e.2
  refine kasC_bind (kasC_get ?_)
  cases e7 : i.2.1.back? with
  | none =>
   rw [show (pendingOf (tS κ itm p2 i.2.1)).back? = none from e7]
   exact kasC_bind (kasC_modify (kasC_pure ⟨rfl, (p2, _, _), rfl, rfl, (tPush_none e7).symm.trans e⟩))
  | some x =>
   rw [show (pendingOf (tS κ itm p2 i.2.1)).back? = some (x.1, x.2.1, x.2.2) from e7]
   refine (Option.bind_eq_some_iff.mp ((tPush_some e7).symm.trans e)).elim fun r e => ?_
   exact t_coll (fun x b => rfl) hc e.1 (kasC_bind (kasC_modify (kasC_bind (kasC_modify (kasC_pure ⟨rfl, (r.1, _, _), rfl, rfl, e.2⟩)))))
 ·refine kasC_bind (kasC_get ?_)
  cases e7 : i.2.1.back? with
  | none =>
   rw [show (pendingOf (tS κ itm i.1 i.2.1)).back? = none from e7]
   exact kasC_bind (kasC_modify (kasC_pure ⟨rfl, (i.1, _, _), rfl, rfl, (tPush_none e7).symm.trans e⟩))
  | some x =>
   rw [show (pendingOf (tS κ itm i.1 i.2.1)).back? = some (x.1, x.2.1, x.2.2) from e7]
   refine (Option.bind_eq_some_iff.mp ((tPush_some e7).symm.trans e)).elim fun r e => ?_
   exact t_coll (fun x b => rfl) hc e.1 (kasC_bind (kasC_modify (kasC_bind (kasC_modify (kasC_pure ⟨rfl, (r.1, _, _), rfl, rfl, e.2⟩)))))
 ·exact t_ble Iff.rfl e (fun e => kasC_pure ⟨rfl, rfl, by cases e; rfl⟩) fun e => (Option.bind_eq_some_iff.mp e).elim fun r' e => kasC_bind (t_mergeAt hc e.1 (t_no Bool.false_ne_true (kasC_pure ⟨rfl, r', rfl, rfl, e.2⟩)))
end
noncomputable def keys (m : Nat) : List (List Nat) := (List.range m).foldl (fun l i => l ++ l.map (· ++ [i])) [[]]
noncomputable def lexLt : List Nat -> List Nat -> Bool
 | [], [] => false
 | [], _ :: _ => true
 | _ :: _, [] => false
 | x :: xs, y :: ys => bif x.beq y then lexLt xs ys else x.blt y
noncomputable def kLt (x y : List Nat) : Bool := bif x.length.beq y.length then lexLt x y else x.length.blt y.length
noncomputable def clp (n i : Nat) : Nat := bif Nat.blt i n then i else 0
noncomputable def cmpK (K : List (List Nat)) (n i j : Nat) : Bool := kLt (K.getD (clp n i) []) (K.getD (clp n j) [])
end Vc
end
section
set_option maxRecDepth 100000
namespace Vc
open PySem PySem.W PyProof.Rows
noncomputable def IsTi (h : Heap) (l : List Nat) (v : Value) : Prop := ∃ a o xs n, v = .ref a /\ h.get? a = some o /\ o.cls = .type "tuple" /\ o.data = .seq xs n /\ Tis l xs.toList
where Tis : List Nat -> List Value -> Prop
 | [], [] => True
 | k :: ks, v :: vs => (∃ t, v = .int k t) /\ Tis ks vs
 | [], _ :: _ => False
 | _ :: _, [] => False
section
variable {prog : Program} {w : World} {A : Around} {E : Value -> Shared -> Prop} {s : Shared}
theorem ti_items : ∀ {l : List Nat} {vs : List Value}, IsTi.Tis l vs -> ItemsAre (intKind prog w) (l.map fun (k : Nat) => (k : Int)) vs
 | [], [], _ => .nil
 | k :: ks, v :: vs, r => by
  obtain ⟨⟨t, rfl⟩, r⟩ := r
  exact .cons (by show decide ((k : Int) = (k : Int)) = true; exact decide_eq_true rfl) (ti_items r)
 | [], _ :: _, r => (show False from r).elim
 | _ :: _, [], r => (show False from r).elim
theorem IsTi.key {h : Heap} {l : List Nat} {a : Addr} (x : IsTi h l (.ref a)) : IsTupleKey (intKind prog w) h (l.map fun (k : Nat) => (k : Int)) a := by
 refine Vc.xa_4_5 x fun zz o xs n e h1 h2 h3 h4 => ?_
 try clear x
 cases e
 exact ⟨o, xs, n, h1, h2, h3, ti_items h4⟩
theorem nat_inj_map : ∀ {x y : List Nat}, x.map (fun (k : Nat) => (k : Int)) = y.map (fun (k : Nat) => (k : Int)) -> x = y
 | [], [], _ => rfl
 | _ :: _, [], h => by cases h
 | [], _ :: _, h => by cases h
 | a :: x, b :: y, h => by
  simp only [List.map_cons, List.cons.injEq, Int.ofNat_inj] at h
  rw [h.1, nat_inj_map h.2]
theorem lexLt_irr : ∀ x : List Nat, lexLt x x = false
 | [] => rfl
 | k :: x => by unfold lexLt; rw [show Nat.beq k k = true from Nat.beq_refl k]; exact lexLt_irr x
theorem ti_lt_tree {x y : List Nat} {a b : Addr} {P : PySem.Fin -> Shared -> Prop} (hx : IsTi s.heap x (.ref a)) (hy : IsTi s.heap y (.ref b)) (h : P (.done (.ret (.bool (lexLt x y)))) s) :
  wpAny (model prog w) A (Builtin.«tuple.__lt__» ⟨[.ref a, .ref b], []⟩) P E s := by
 obtain ⟨_, oa, xs, na, e, hoa, _, hda, hia⟩ := hx
 cases e
 obtain ⟨_, ob, ys, nb, e, hob, hcb, hdb, hib⟩ := hy
 cases e
 show wpAny _ _ (isInstance (.ref b) (.type "tuple") >>= _) _ _ s
 refine wpAny_bind (wpAny_isInstance (T := "tuple") ⟨_, hob, hcb⟩ isSubtype_tuple_tuple ?_)
 simp only [Bool.not_true, Bool.false_eq_true, if_false]
 refine wpAny_bind (wpAny_tupleItemsOf hoa hda ?_)
 refine wpAny_bind (wpAny_tupleItemsOf hob hdb ?_)
 refine wpAny_bind ?_
 refine wpAny_forIn_list _ (fun rest r s' => r.1 = none /\ s' = s /\ ∃ x' y' xs' ys', rest = List.zip xs' ys' /\ IsTi.Tis x' xs' /\ IsTi.Tis y' ys' /\ lexLt x' y' = lexLt x y /\ decide (xs'.length < ys'.length) = decide (xs.size < ys.size))
  _ ?_ ?_ _ _ ⟨rfl, rfl, x, y, xs.toList, ys.toList, rfl, hia, hib, rfl, by simp⟩
 ·rintro ⟨u, v⟩ rest r s' ⟨hr, rfl, x', y', xs', ys', hz, hx', hy', hl, hlen⟩
  match x', xs', hx' with
  | [], [], _ => simp at hz
  | [], _ :: _, r => exact (show False from r).elim
  | _ :: _, [], r => exact (show False from r).elim
  | k1 :: x'', u' :: xs'', hx' =>
   match y', ys', hy' with
   | [], [], _ => simp at hz
   | [], _ :: _, r => exact (show False from r).elim
   | _ :: _, [], r => exact (show False from r).elim
   | k2 :: y'', v' :: ys'', hy' =>
    simp only [List.zip_cons_cons, List.cons.injEq, Prod.mk.injEq] at hz
    obtain ⟨⟨rfl, rfl⟩, rfl⟩ := hz
    obtain ⟨⟨t, rfl⟩, hx'⟩ := hx'
    obtain ⟨⟨t', rfl⟩, hy'⟩ := hy'
    refine wpAny_bind (wpAny_eqBool_int ?_)
    rw [<- hl] at h
    dsimp only [lexLt] at h hl
    by_cases hk : k1 = k2
    ·subst hk
     rw [show Nat.beq k1 k1 = true from Nat.beq_refl k1] at hl
     rw [show ((k1 : Int) == (k1 : Int)) = true from beq_self_eq_true _]
     simp only [Bool.not_true, Bool.false_eq_true, if_false]
     exact wpAny_pure ⟨rfl, rfl, x'', y'', xs'', ys'', rfl, hx', hy', hl, by simpa using hlen⟩
    ·have e1 : Nat.beq k1 k2 = false := by
      cases e : Nat.beq k1 k2 with
      | false => rfl
      | true => exact (hk (Nat.eq_of_beq_eq_true e)).elim
     rw [e1] at h
     rw [show ((k1 : Int) == (k2 : Int)) = false from beq_eq_false_iff_ne.mpr fun z => hk (Int.ofNat_inj.mp z)]
     simp only [Bool.not_false, if_true]
     refine wpAny_bind (wpAny_rule (wpAny_bind (wpAny_lt_int ?_)))
     have e2 : decide ((k1 : Int) < (k2 : Int)) = Nat.blt k1 k2 := by
      cases e : Nat.blt k1 k2 with
      | true => exact decide_eq_true (Int.ofNat_lt.mpr (Nat.le_of_ble_eq_true e))
      | false => exact decide_eq_false fun z => by rw [show Nat.blt k1 k2 = true from Nat.ble_eq_true_of_le (Int.ofNat_lt.mp z)] at e; cases e
     rw [e2]
     exact wpAny_bind (wpAny_pure (wpAny_pure (wpAny_pure h)))
 ·rintro ⟨r1, r2⟩ s' ⟨hr, rfl, x', y', xs', ys', hz, hx', hy', hl, hlen⟩
  simp only at hr
  subst hr
  refine wpAny_pure ?_
  have hfin : decide (xs.size < ys.size) = lexLt x y := by
   rw [<- hl, <- hlen]
   match x', xs', hx', y', ys', hy' with
   | [], [], _, [], [], _ => rfl
   | [], [], _, _ :: _, _ :: _, _ => simp [lexLt]
   | _ :: _, _ :: _, _, [], [], _ => simp [lexLt]
   | _ :: _, _ :: _, _, _ :: _, _ :: _, _ => simp at hz
   | [], _ :: _, r, _, _, _ => exact (show False from r).elim
   | _ :: _, [], r, _, _, _ => exact (show False from r).elim
   | [], [], _, [], _ :: _, r => exact (show False from r).elim
   | [], [], _, _ :: _, [], r => exact (show False from r).elim
   | _ :: _, _ :: _, _, [], _ :: _, r => exact (show False from r).elim
   | _ :: _, _ :: _, _, _ :: _, [], r => exact (show False from r).elim
  show P (.done (.ret (.bool (decide (xs.size < ys.size))))) s'
  rw [hfin]; exact h
theorem ti_lt {x y : List Nat} {a b : Addr} {Q : Bool -> Shared -> Prop} (hu : A.units < cLine) (hx : IsTi s.heap x (.ref a)) (hy : IsTi s.heap y (.ref b)) (h : Q (lexLt x y) s) : wpAny (model prog w) A (oneLt' false (.ref a) (.ref b)) Q E s := by
 have tx : s.TypeIs (.ref a) "tuple" := by obtain ⟨_, o, _, _, e, h1, h2, _⟩ := hx; cases e; exact ⟨o, h1, h2⟩
 have ty : s.TypeIs (.ref b) "tuple" := by obtain ⟨_, o, _, _, e, h1, h2, _⟩ := hy; cases e; exact ⟨o, h1, h2⟩
 refine kat_one _ _ ?_
 refine wpAny_richCompare_same_room (op := .Lt) tx ty F.slot_tuple_lt (wpAny_call_entry F.slot_tuple_lt tx F.entry_tuple_lt (ti_lt_tree hx hy ⟨_, rfl, (fun e => nomatch e), ?_⟩) (F.args_tuple_lt_2 _ _)) hu
 exact h
noncomputable def IsLt (h : Heap) (l : List Nat) (v : Value) : Prop := ∃ a o xs n t b, v = .ref a /\ h.get? a = some o /\ o.cls = .type "tuple" /\ o.data = .seq xs n /\ xs = #[.int (l.length : Nat) t, .ref b] /\ IsTi h l (.ref b)
theorem lt_pair {x y : List Nat} {v v' : Value} {Q : Bool -> Shared -> Prop} (hu : A.units < cLine) (hv : IsLt s.heap x v) (hv' : IsLt s.heap y v') (h : Q (kLt x y) s) : wpAny (model prog w) A (keyLt' (tuples' true) v v') Q E s := by
 refine Vc.xa_6_6 hv fun a o xs n t b hr122_6 ho hc hd hr122_10 hx => ?_
 try clear hv
 subst hr122_6
 subst hr122_10
 refine Vc.xa_6_6 hv' fun a' o' xs' n' t' b' hr123_6 ho' hc' hd' hr123_10 hy => ?_
 try clear hv'
 subst hr123_6
 subst hr123_10
 refine kat_lt ho hd ho' hd' (kat_cons (wpAny_eqBool_int ?_))
 unfold kLt at h
 by_cases hk : x.length = y.length
 ·rw [hk]
  rw [show Nat.beq x.length y.length = true by rw [hk]; exact Nat.beq_refl _] at h
  rw [show (((y.length : Nat) : Int) == ((y.length : Nat) : Int)) = true from beq_self_eq_true _]
  refine kat_yes (kat_cons (wpAny_eqBool_tuple (knd := intKind prog w) hu hx.key hy.key ?_))
  by_cases he : x = y
  ·subst he
   rw [decide_eq_true rfl]
   refine kat_yes (kat_nil ?_)
   rw [show (bif true then lexLt x x else Nat.blt x.length x.length) = lexLt x x from rfl, lexLt_irr] at h
   exact h
  ·rw [decide_eq_false fun z => he (nat_inj_map z)]
   exact kat_no (ti_lt hu hx hy h)
 ·rw [show (((x.length : Nat) : Int) == ((y.length : Nat) : Int)) = false from beq_eq_false_iff_ne.mpr fun z => hk (Int.ofNat_inj.mp z)]
  rw [show Nat.beq x.length y.length = false by
   cases e : Nat.beq x.length y.length with
   | false => rfl
   | true => exact (hk (Nat.eq_of_beq_eq_true e)).elim] at h
  refine kat_no (oneLt_int ?_)
  rw [show decide (((x.length : Nat) : Int) < ((y.length : Nat) : Int)) = Nat.blt x.length y.length by
   cases e : Nat.blt x.length y.length with
   | true => exact decide_eq_true (Int.ofNat_lt.mpr (Nat.le_of_ble_eq_true e))
   | false => exact decide_eq_false fun z => by rw [show Nat.blt x.length y.length = true from Nat.ble_eq_true_of_le (Int.ofNat_lt.mp z)] at e; cases e]
  exact h
theorem ltups_of {l : List (List Nat)} {vs : List Value} (hl : l.length = vs.length) (h : ∀ (i : Nat) p v, l[i]? = some p -> vs[i]? = some v -> IsLt s.heap p v) : ∃ fs, KatTups s.heap vs fs /\ fs.length = vs.length /\ ∀ v ∈ fs, ∃ i t, v = .int i t := by
 induction vs generalizing l with
 | nil => exact ⟨[], .nil, rfl, fun zz h => by cases h⟩
 | cons v vs ih =>
  cases l with
  | nil => cases hl
  | cons p l =>
   refine Vc.xa_1_3 (ih (l := l) (Nat.succ.inj hl) fun i p v e e' => h (i + 1) p v e e') fun fs h1 h2 h3 => ?_
   refine Vc.xa_6_6 (h 0 p v rfl rfl) fun a o xs n t b hr158_6 ho hc hd hr158_10 zz => ?_
   subst hr158_6
   subst hr158_10
   refine ⟨.int p.length t :: fs, .cons ho hc hd rfl h1, by simp [h2], fun v hv => ?_⟩
   rcases List.mem_cons.mp hv with rfl | hv
   ·exact ⟨_, _, rfl⟩
   ·exact h3 v hv
theorem clp_lt {n i : Nat} (h : i < n) : clp n i = i := by unfold clp; rw [show Nat.blt i n = true from Nat.ble_eq_true_of_le h]; rfl
theorem clp_le {n : Nat} (h : 0 < n) (i : Nat) : clp n i < n := by
 unfold clp
 cases e : Nat.blt i n with
 | true => exact Nat.le_of_ble_eq_true e
 | false => exact h
noncomputable def itV (vs : List Value) (i : Nat) : Keyed := (vs.getD (clp vs.length i) .none, vs.getD (clp vs.length i) .none)
theorem itV_all (vs : List Value) : vs.toArray.zip vs.toArray = (List.range vs.length).toArray.map (itV vs) := by
 apply Array.toList_inj.mp
 rw [Array.toList_zip, Array.toList_map, List.toList_toArray, List.toList_toArray]
 refine List.ext_getElem (by simp) fun i h1 h2 => ?_
 have hi : i < vs.length := by simpa using h2
 rw [List.getElem_zip, List.getElem_map, List.getElem_range]
 unfold itV
 rw [clp_lt hi, List.getD_eq_getElem?_getD, List.getElem?_eq_getElem hi]; rfl
theorem sort_keys {a : Addr} {vs : List Value} {l : List (List Nat)} {n : Nat} {r : Array Nat} {P : PySem.Fin -> Shared -> Prop} (hu : A.units < cLine) (ho : s.heap.get? a = some (seqObj "list" vs.toArray n)) (hl : l.length = vs.length) (h2 : 2 <= vs.length) (hz : vs.length <= 1000)
  (hI : ∀ h' : Heap, (∀ b o, b ≠ a -> s.heap.get? b = some o -> h'.get? b = some o) -> ∀ (i : Nat) p v, l[i]? = some p -> vs[i]? = some v -> IsLt h' p v)
  (hs : tSort (cmpK l vs.length) vs.length = some r) (hr : ∀ i ∈ r.toList, i < vs.length) (hrl : r.toList.length <= 1000)
  (h : P (.done (.ret .none)) { s with heap := sortedHeap s.heap a vs (r.toList.map fun i => vs.getD i Value.none).toArray }) :
  wpAny (model prog w) A (Builtin.«list.sort» ⟨[.ref a], []⟩) P E s := by
 rw [list_sort_plain]
 have ha : a < s.heap.objs.size := Heap.lt_size ho
 have hz' : 1000 < sizeLine := by decide
 refine wpAny_bind (listItems_at ho rfl ?_)
 refine wpAny_bind (listUpdate_at ho rfl ?_ (by rw [List.size_toArray]; (clear hu hl h2 hrl ha; omega)) (Nat.zero_le _))
 obtain ⟨e1, ho1⟩ : ∃ e1, (s.heap.update a (Obj.mapSeq fun zz => #[])).get? a = some (seqObj "list" #[] e1) := ⟨_, get?_update_seq ho (fun zz => #[])⟩
 refine wpAny_bind (seqEpoch_at ho1 rfl ?_)
 refine wpAny_bind (wpAny_newTuple ?_ (by show vs.length <= _; (clear hu hl h2 hrl ha; omega)))
 refine wpAny_bind (wpAny_newList ?_ (Nat.zero_le _))
 refine wpAny_holding ?_
 have keep : ∀ b o, b ≠ a -> s.heap.get? b = some o -> (((s.heap.update a (Obj.mapSeq fun zz => #[])).push (seqObj "tuple" vs.toArray 0)).push (seqObj "list" #[] 0)).get? b = some o := fun b o nb e =>
  Heap.get?_push_of_some _ (Heap.get?_push_of_some _ ((Heap.get?_update_other _ _ (Ne.symm nb)).trans e))
 have ho6 : (((s.heap.update a (Obj.mapSeq fun zz => #[])).push (seqObj "tuple" vs.toArray 0)).push (seqObj "list" #[] 0)).get? a = some (seqObj "list" #[] e1) := Heap.get?_push_of_some _ (Heap.get?_push_of_some _ ho1)
 have hI' := hI _ keep
 show wpAny (model prog w) A _ P E { s with heap := ((s.heap.update a (Obj.mapSeq fun zz => #[])).push (seqObj "tuple" vs.toArray 0)).push (seqObj "list" #[] 0) }
 unfold sortedHeap at h
 generalize ((s.heap.update a (Obj.mapSeq fun zz => #[])).push (seqObj "tuple" vs.toArray 0)).push (seqObj "list" #[] 0) = h6 at h ho6 hI'
 dsimp only
 have hn2 : ¬ vs.toArray.size < 2 := by rw [List.size_toArray]; (clear hu hl hz hrl ha hz'; omega)
 rw [if_neg hn2, if_neg hn2]
 refine Vc.xa_1_3 (ltups_of (s := { s with heap := h6 }) hl hI') fun fs t1 t2 t3 => ?_
 refine wpAny_bind (kat_kind (s := { s with heap := h6 }) (T := .type "int") t1 (by (clear hu hl hz hrl ha hz' hn2; omega)) (fun v hv => by obtain ⟨i, t, rfl⟩ := t3 v hv; exact Looks.of_pure rfl) (by decide) ?_)
 rw [itV_all]
 have hc : tC prog w A (tuples' true) (itV vs) (cmpK l vs.length) { s with heap := h6 } := fun i j C hC => by
  have gi := clp_le (n := vs.length) (by (clear hu hl hz hrl ha hz' hn2 t2; omega)) i
  have gj := clp_le (n := vs.length) (by (clear hu hl h2 hz hrl ha hz' hn2 t2; omega)) j
  refine lt_pair (s := { s with heap := h6 }) hu (hI' (clp vs.length i) (l.getD (clp vs.length i) []) _ ?_ ?_) (hI' (clp vs.length j) (l.getD (clp vs.length j) []) _ ?_ ?_) hC
  ·rw [List.getD_eq_getElem?_getD, List.getElem?_eq_getElem (hl ▸ gi)]; rfl
  ·show vs[clp vs.length i]? = some (vs.getD (clp vs.length i) .none)
   rw [List.getD_eq_getElem?_getD, List.getElem?_eq_getElem gi]; rfl
  ·rw [List.getD_eq_getElem?_getD, List.getElem?_eq_getElem (hl ▸ gj)]; rfl
  ·show vs[clp vs.length j]? = some (vs.getD (clp vs.length j) .none)
   rw [List.getD_eq_getElem?_getD, List.getElem?_eq_getElem gj]; rfl
 refine wpAny_bind (wpAny_mono (t_sort (E := E) (Q := fun zz st' s' => s' = { s with heap := h6 } /\ (arrOf st').map (·.2) = (r.toList.map fun i => vs.getD i Value.none).toArray /\ failedOf st' = none) hc hs fun q => ⟨rfl, ?_, rfl⟩) ?_ fun zz zz e => e)
 ·show (r.map (itV vs)).map (·.2) = _
  apply Array.toList_inj.mp
  rw [Array.toList_map, Array.toList_map, List.map_map, List.toList_toArray]
  refine List.map_congr_left fun i hi => ?_
  show vs.getD (clp vs.length i) .none = _
  rw [clp_lt (hr i hi)]
 ·rintro ⟨⟨⟩, st'⟩ s' ⟨rfl, hp, hf⟩
  dsimp only at hp hf
  rw [hp, hf]
  have hsz : r.toList.length <= 1000 := hrl
  refine wpAny_bind (seqEpoch_at ho6 rfl ?_)
  refine wpAny_bind (listUpdate_at ho6 rfl ?_ (Nat.zero_le _) (by rw [List.size_toArray, List.length_map]; (clear hu hl h2 hz hrl ha hn2 t2; omega)))
  simp only [bne_self_eq_false, Bool.false_eq_true, if_false]
  exact wpAny_pure h
end
section
variable {C : Cx} {d : Md} {H : MH} {A : Around} {s : Shared} {Q : V -> MH -> Prop} {X : XP}
noncomputable def ltv (o : List Nat) : V := .tup [.int o.length, .tup (o.map fun (b : Nat) => V.int b)]
theorem ti_of {h : Heap} : ∀ {l : List Nat} {vs : List Value}, VRs C h (l.map fun (b : Nat) => V.int b) vs -> IsTi.Tis l vs
 | [], [], _ => trivial
 | _ :: _, _ :: _, r => ⟨r.head, ti_of r.tail⟩
 | [], _ :: _, r => (show False from r).elim
 | _ :: _, [], r => (show False from r).elim
theorem ltv_is {h : Heap} {l : List (List Nat)} {vs : List Value} (r : VRs C h (l.map ltv) vs) {i : Nat} {p : List Nat} {v : Value} (e : l[i]? = some p) (e' : vs[i]? = some v) : IsLt h p v := by
 have e2 : (l.map ltv)[i]? = some (ltv p) := by rw [List.getElem?_map, e]; rfl
 refine Vc.xa_1_2 (r.get e2) fun v' h1 h2 => ?_
 rw [e'] at h1; cases h1
 unfold ltv at h2
 dsimp only [VR] at h2
 refine Vc.xa_2_3 h2 fun a items ho249_2 ho249_3 rs => ?_
 try clear h2
 obtain ⟨rfl, _⟩ := ho249_2
 obtain ⟨o, ho, hc, n, hd⟩ := ho249_3
 refine Vc.xa_2_3 rs.inv_cons fun v1 vs1 q1 r1 rs => ?_
 refine Vc.xa_2_3 rs.inv_cons fun v2 vs2 q2 r2 rs => ?_
 have q3 := rs.inv_nil
 dsimp only [VR] at r1; dsimp only [VR] at r2
 refine Vc.xa_1_1 r1 fun t hr254_1 => ?_
 try clear r1
 subst hr254_1
 refine Vc.xa_2_3 r2 fun b items' ho255_2 ho255_3 rs' => ?_
 try clear r2
 obtain ⟨rfl, _⟩ := ho255_2
 obtain ⟨o', ho', hc', n', hd'⟩ := ho255_3
 refine ⟨a, o, items, n, t, b, rfl, ho, hc, hd, Array.toList_inj.mp ?_, b, o', items', n', rfl, ho', hc', hd', ti_of rs'⟩
 rw [q1, q2, q3]
theorem vrs_pick' {h : Heap} {l : List V} {vs : List Value} (r : VRs C h l vs) : ∀ (is : List Nat), (∀ i ∈ is, i < l.length) -> VRs C h (is.map fun i => l.getD i .none) (is.map fun i => vs.getD i Value.none)
 | [], _ => VRs.nil
 | i :: is, hi => by
  have hl := hi i (by simp)
  refine Vc.xa_1_2 (r.get (List.getElem?_eq_getElem hl)) fun v h1 h2 => ?_
  refine VRs.cons ?_ (vrs_pick' r is fun j hj => hi j (by simp [hj]))
  dsimp only
  rw [List.getD_eq_getElem?_getD, List.getD_eq_getElem?_getD, List.getElem?_eq_getElem hl, h1]; exact h2
theorem cv_sortk {a : Addr} {l : List (List Nat)} {r : Array Nat} (h : H a = some (.lst (l.map ltv))) (h2 : 2 <= l.length) (hz : l.length <= 1000) (hs : tSort (cmpK l l.length) l.length = some r) (hr : ∀ i ∈ r.toList, i < l.length) (hrl : r.toList.length <= 1000)
  (q : ∀ x, H x = none -> Q (.ref x) (upd H x (.lst ((r.toList.map fun i => l.getD i []).map ltv)))) : CallV C d (.builtin "sorted") [.ref a] H Q X := fun A s cs ok rs => by
 refine Vc.xa_1_2 (args1 rs) fun c hr269_1 rc => ?_
 subst hr269_1
 dsimp only [VR] at rc; subst rc
 obtain ⟨h0, items, ⟨n, hL⟩, rs⟩ := ok.rel _ _ h
 have hz' : 1000 < sizeLine := by decide
 have hn := rs.length
 rw [List.length_map] at hn
 obtain ⟨vs, rfl⟩ : ∃ vs : List Value, items = vs.toArray := ⟨items.toList, by rw [Array.toArray_toList]⟩
 simp only [List.toList_toArray] at rs hn
 refine Calls.call_function_entry kind_sorted plain_sorted entry_sorted (args_sorted1 _) ?_
 unfold Builtin.«sorted»
 refine wpAny_bind (m := checkCount "sorted" 1 1 _) (wpAny_pure ?_)
 refine wpAny_bind (collect_list (IsL.isList (n := n) hL) ?_ (by (clear h2 hrl; omega)))
 refine wpAny_bind (wpAny_newList ?_ (by (clear h2 hrl; omega)))
 have keep : ∀ b o, s.heap.get? b = some o -> ((s.heap.push (seqObj "list" #[] 0)).update s.heap.objs.size (Obj.mapSeq (· ++ vs.toArray))).get? b = some o := fun b o e =>
  (Heap.get?_update_other _ _ (Ne.symm (Nat.ne_of_lt (Heap.lt_size e)))).trans (Heap.get?_push_of_some _ e)
 have hsz : ((s.heap.push (seqObj "list" #[] 0)).update s.heap.objs.size (Obj.mapSeq (· ++ vs.toArray))).objs.size = s.heap.objs.size + 1 := by rw [Heap.size_update, size_push']
 generalize (s.heap.push (seqObj "list" #[] 0)).update s.heap.objs.size (Obj.mapSeq (· ++ vs.toArray)) = h1 at keep hsz
 have hoL : (h1.push (seqObj "list" vs.toArray 0)).get? h1.objs.size = some (seqObj "list" vs.toArray 0) := Heap.get?_push_size _ rfl
 have hlt : ∀ b o, s.heap.get? b = some o -> b ≠ h1.objs.size := fun b o e => Nat.ne_of_lt (Nat.lt_of_lt_of_le (Heap.lt_size e) (by rw [hsz]; exact Nat.le_succ _))
 have hnone : s.heap.get? h1.objs.size = none := by
  cases e : s.heap.get? h1.objs.size with
  | none => rfl
  | some o => exact (hlt _ _ e rfl).elim
 have hu : A.units + 2 < cLine := by have := ok.room.2; (clear h2 hz hrl hz' hn hsz; omega)
 refine wpAny_bind (wpAny_holding (wpAny_call_entry slot_list_sort ⟨_, hoL, rfl⟩ entry_list_sort (sort_keys (s := { s with heap := h1.push (seqObj "list" vs.toArray 0) }) (l := l) (r := r) hu hoL hn (by (clear hz hrl hz' hsz hu; omega)) (by (clear h2 hrl hz' hsz hu; omega)) (fun h' k i x v e e' => ?_) (by rw [<- hn]; exact hs) (by rw [<- hn]; exact hr) hrl ⟨_, rfl, ?_⟩) (args_list_sort _)))
 ·obtain ⟨b, o, xs, m, t, u, rfl, ho, hc, hd, hx, b', o', xs', m', e1, ho', r2⟩ := ltv_is rs e e'
  cases e1
  exact ⟨b, o, xs, m, t, u, rfl, k b o (hlt b o ho) (Heap.get?_push_of_some _ (keep b o ho)), hc, hd, hx, u, o', xs', m', rfl, k u o' (hlt u o' ho') (Heap.get?_push_of_some _ (keep u o' ho')), r2⟩
 ·have key : VRs C s.heap ((r.toList.map fun i => l.getD i []).map ltv) (r.toList.map fun i => vs.getD i Value.none) := by
   have e0 := vrs_pick' rs r.toList (fun i hi => by rw [List.length_map]; exact hr i hi)
   have e1 : (r.toList.map fun i => (l.map ltv).getD i V.none) = (r.toList.map fun i => l.getD i []).map ltv := by
    rw [List.map_map]
    refine List.map_congr_left fun i hi => ?_
    have := hr i hi
    show (l.map ltv).getD i V.none = ltv (l.getD i [])
    rw [List.getD_eq_getElem?_getD, List.getD_eq_getElem?_getD, List.getElem?_map, List.getElem?_eq_getElem this]; rfl
   rw [e1] at e0; exact e0
  generalize (r.toList.map fun i => vs.getD i Value.none) = out at key
  refine Vc.xa_1_1 (sortedHeap_at (h := h1.push (seqObj "list" vs.toArray 0)) (a := h1.objs.size) (vs := vs) (out := out.toArray) hoL) fun e he => ?_
  have k2 : ∀ b o, s.heap.get? b = some o -> (sortedHeap (h1.push (seqObj "list" vs.toArray 0)) h1.objs.size vs out.toArray).get? b = some o := fun b o q => by
   have q2 := Heap.get?_push_of_some (seqObj "list" vs.toArray 0) (keep b o q)
   rw [sortedHeap_old (hlt b o q) (Heap.lt_size q2)]; exact q2
  have h0r : C.h0.get? h1.objs.size = Option.none := fresh_top ok.top hnone
  exact wpAny_pure ⟨_, rfl, qp' ((Step.keeps (s' := { s with heap := sortedHeap (h1.push (seqObj "list" vs.toArray 0)) h1.objs.size vs out.toArray }) ok.rel ok.top k2 rfl rfl).adopt (o := .lst ((r.toList.map fun i => l.getD i []).map ltv)) hnone ⟨h0r, out.toArray, ⟨e, he⟩, key.keep (.of_keeps k2)⟩) .ref_ (q _ (ok.rel.fresh hnone))⟩
end
end Vc
end
section
set_option maxHeartbeats 1000000
set_option maxRecDepth 100000
namespace Vc
open PySem PyProof.Rows
noncomputable def law_subsets_vs : Vs := [locv "_law_many", locv "_law_found", celv "_law_part_here"]
noncomputable def law_subsets_b : List St :=
  [.asg 1 (.lst [(.tup [])]),
  .for [2] (.pl (.call "range" [(.nm 0)])) [.asg 1 (.bin .Add (.nm 1) (.comp 1 (.bin .Add (.nm 3) (.tup [(.nm 2)])) (.nm 1) []))],
  .ret (.comp 1 (.sub (.nm 3) (.ci 1)) (.call "sorted" [(.comp 1 (.tup [(.call "len" [(.nm 3)]), (.nm 3)]) (.nm 1) [])]) [])]
noncomputable def law_within_vs : Vs := [locv "_law_one", celv "_law_other"]
noncomputable def law_within_b : List St :=
  [.ret (.cmp .Eq (.comp 1 (.nm 2) (.nm 0) [(.cmp .NotIn (.nm 2) (.nm 1))]) (.lst []))]
noncomputable def law_least_vs : Vs := [locv "_law_subsets_here", locv "_law_good", locv "_law_found", celv "_law_one", locv "_law_fits"]
noncomputable def law_least_b : List St :=
  [.asg 2 (.lst []),
  .fz 3 4 (.nm 0) (.nm 1) [.ife (.bop .And [(.nm 4), (.cmp .Eq (.comp 1 (.nm 5) (.nm 2) [(.call "_law_within" [(.nm 5), (.nm 3)])]) (.lst []))]) [.exp (.meth (.nm 2) "append" [(.nm 3)])] []],
  .ret (.nm 2)]
noncomputable def law_sets_same_vs : Vs := [locv "_law_found", locv "_law_due_here", locv "_law_one"]
noncomputable def law_sets_same_b : List St :=
  [.ife (.bop .Or [(.una .Not (.call "isinstance" [(.nm 0), (.gl "list")])), (.cmp .NotEq (.nm 0) (.nm 1))]) [.ret (.cb false)] [],
  .for [2] (.pl (.nm 0)) [.ife (.bop .Or [(.una .Not (.call "isinstance" [(.nm 2), (.gl "tuple")])), (.cmp .NotEq (.comp 1 (.nm 3) (.nm 2) [(.call "isinstance" [(.nm 3), (.gl "bool")])]) (.lst []))]) [.ret (.cb false)] []],
  .ret (.cb true)]
theorem keys_succ (i : Nat) : keys (i + 1) = keys i ++ (keys i).map (· ++ [i]) := by unfold keys; rw [List.range_succ, List.foldl_append]; rfl
noncomputable def ksOk (m : Nat) : Bool := match tSort (cmpK (keys m) (keys m).length) (keys m).length with
 | none => false
 | some r => r.toList.all (fun i => decide (i < (keys m).length)) && decide (r.toList.length <= 200) && decide ((r.toList.map fun i => (keys m).getD i []) = levs m m)
theorem ks_ok : ∀ m, m < 8 -> (1 <= m -> ksOk m = true) /\ (keys m).length <= 200 /\ (1 <= m -> 2 <= (keys m).length) /\ (keys m).all (fun o => decide (o.length <= 8)) = true := by decide +kernel
theorem ks_get {m : Nat} (h1 : 1 <= m) (h7 : m <= 7) : ∃ r, tSort (cmpK (keys m) (keys m).length) (keys m).length = some r /\ (∀ i ∈ r.toList, i < (keys m).length) /\ r.toList.length <= 200 /\ (r.toList.map fun i => (keys m).getD i []) = levs m m := by
 have h := (ks_ok m (by (clear h1; omega))).1 h1
 unfold ksOk at h
 cases e : tSort (cmpK (keys m) (keys m).length) (keys m).length with
 | none => rw [e] at h; cases h
 | some r =>
  rw [e] at h
  simp only [Bool.and_eq_true, decide_eq_true_eq, List.all_eq_true] at h
  exact ⟨r, rfl, h.1.1, h.1.2, h.2⟩
section
variable {C : Cx} {X : XP} {n : Nat} {H : MH} {Q : V -> MH -> Prop} {w : Wk} {pa lk : Addr} {br : List Nat} {LL : List Lk} {most : Nat} {d : Md} {ρ : Lo}
theorem SS_fz {K : KP} {X : XS} {i j : Nat} {a b : Ex} {body ts : List St} (hG : C.G "zip" (.type "zip")) (hq : d.q = true)
  (h : wpEs C d [a, b] ρ H (fun vl H1 => ∃ la lb, ∃ xs : List V, ∃ ys : List Bool, ∃ f acc, vl = [.ref la, .ref lb] /\ (la ≠ f /\ lb ≠ f) /\ (H1 la = some (.lst xs) /\ H1 lb = some (.lst (ys.map .bool))) /\ H1 f = some (.lst acc) /\
   wpZ (fun ρ' H' K' => wpSs C d body ρ' H' K' (fun zz zz zz => False)) f i j xs (ys.map .bool) ρ acc (fun ρ' acc' => wpSs C d ts ρ' (upd H1 f (.lst acc')) K X)) (fun c H1 => X c ρ H1)) : wpSs C d (.fz i j a b body :: ts) ρ H K X := by
 dsimp only [wpSs, wpS]; exact ⟨hG, hq, h⟩
theorem zip_inv {stp : Lo -> MH -> KP -> Prop} {f : Addr} {i j : Nat} {K : Lo -> List V -> Prop} {xs ys : List V} {acc : List V} (P : Nat -> Lo -> List V -> Prop) (P0 : P 0 ρ acc) (hl : xs.length = ys.length) (hfl : ∀ k ρ acc, P k ρ acc -> flats ρ /\ acc.all flat = true)
  (step : ∀ k x y ρ acc (Hz : MH) (R : KP), P k ρ acc -> xs[k]? = some x -> ys[k]? = some y -> Hz f = some (.lst acc) -> (∀ ρ' H' acc', (∀ a, a ≠ f -> (Hz a).isSome = true -> H' a = Hz a) -> H' f = some (.lst acc') -> P (k + 1) ρ' acc' -> R .next ρ' H') -> stp (lss ρ [i, j] [x, y]) Hz R)
  (fin : ∀ ρ acc, P xs.length ρ acc -> K ρ acc) : wpZ stp f i j xs ys ρ acc K := by
 have go : ∀ (xs' ys' : List V) (k : Nat) (ρ : Lo) (acc : List V), xs.drop k = xs' -> ys.drop k = ys' -> k <= xs.length -> P k ρ acc -> wpZ stp f i j xs' ys' ρ acc K := by
  intro xs'
  induction xs' with
  | nil =>
   intro ys' k ρ acc e1 e2 hk hP
   have : k = xs.length := by have := List.drop_eq_nil_iff.mp e1; (clear hl; omega)
   subst this
   exact ⟨hfl _ _ _ hP, fin _ _ hP⟩
  | cons x xs' ih =>
   intro ys' k ρ acc e1 e2 hk hP
   have hlt : k < xs.length := by
    rcases Nat.lt_or_ge k xs.length with h | h
    ·exact h
    ·rw [List.drop_eq_nil_of_le h] at e1; cases e1
   rw [List.drop_eq_getElem_cons hlt] at e1
   rw [List.drop_eq_getElem_cons (hl ▸ hlt)] at e2
   cases e1; cases e2
   refine ⟨hfl _ _ _ hP, fun Hz hz => step k _ _ ρ acc Hz _ hP (List.getElem?_eq_getElem hlt) (List.getElem?_eq_getElem (hl ▸ hlt)) hz fun ρ' H' acc' h1 h2 h3 => ⟨h1, acc', h2, ?_⟩⟩
   exact ih _ (k + 1) ρ' acc' rfl rfl hlt h3
 exact go _ _ 0 ρ acc rfl rfl (Nat.zero_le _) P0
theorem subsets_ct {m : Nat} (G : C.Good) (S : Std C) (D : Def C "_law_subsets" law_subsets_vs 1 law_subsets_b) (h1 : 1 <= m) (hm : m <= 7) (K : ∀ r H', Ext H H' -> H r = none -> H' r = some (.lst ((levs m m).map brv)) -> Q (.ref r) H') : CallW C ⟨n + 1, true⟩ "_law_subsets" [.int m] H Q X := by
 have hz : 10000 < sizeLine := by decide
 refine D.call G rfl ?_
 unfold law_subsets_b
 refine SS_asg (E_lst (Es_cons (E_tup (Es_nil ?_))))
 refine ⟨by decide, ⟨by decide, fun fo hfo => ?_⟩⟩
 refine SS_for ?_
 refine E_call (Std.n_range (by assumption)) callee_type (c_es1 rfl ?_)
 refine cv_range1 ?_
 refine ⟨_, itq_rng rfl (by (clear h1 hm hz; omega)) (by (clear h1 hm hz; omega)) (by (clear h1 hm hz; omega)) (by (clear h1 hz; omega)), rfl, ?_⟩
 refine for_inv (P := fun i ρ H' => ∃ fo pv, ρ = [some (.int m), some (.ref fo), pv] /\ Ext H H' /\ H fo = none /\ H' fo = some (.lst ((keys i).map brv))) (Vc.xi_2_4 fo none rfl (.new hfo) hfo (upd_self ..)) (fun i x ρ H' R hP hx hR => ?_) fun ρ H' hP => ?_
 ·refine Vc.xa_2_4 hP fun f1 pv hr87_2 hx' hf1 hf2 => ?_
  try clear hP
  subst hr87_2
  refine Vc.xa_0_2 (rng_get hx) fun hr88_0 hi' => ?_
  subst hr88_0
  have hi7 : i < 8 := by (clear h1 hz; omega)
  have hk := ks_ok i hi7
  have hk2 := ks_ok (i + 1) (by (clear h1 hz hi7 hk; omega))
  have hko := List.all_eq_true.mp hk.2.2.2
  refine ⟨rfl, _, rfl, ?_⟩
  show wpSs C _ _ [some (.int m), some (.ref f1), some (.int (0 + (i : Int)))] _ _ _
  refine SS_asg (E_bin (E_nm rfl ?_))
  refine E_comp ?_
  refine E_nm rfl ?_
  refine ⟨_, ⟨.inl rfl, fun zz zz zz e => by cases e⟩, items_lst hf2, by rw [List.length_map]; (clear h1 hm hi' hi7 hk2; omega), ?_⟩
  refine comp_inv (P := fun j acc H'' => acc = (((keys i).take j).map (· ++ [i])).map brv /\ H'' = H') ⟨rfl, rfl⟩ (fun j x acc H'' R' hQ hx2 hR2 => ?_) fun acc H'' hQ => ⟨?_, ?_⟩
  ·refine Vc.xa_0_2 hQ fun hr100_0 hr100_1 => ?_
   try clear hQ
   subst hr100_0
   subst hr100_1
   rw [List.getElem?_map, Option.map_eq_some_iff] at hx2
   refine Vc.xa_1_2 hx2 fun y hyj hr102_2 => ?_
   try clear hx2
   subst hr102_2
   have hy := hko y (List.mem_of_getElem? hyj)
   simp only [decide_eq_true_eq] at hy
   refine ⟨items_lst hf2, _, rfl, ?_⟩
   refine Ts_nil (if_t (E_bin (E_nm rfl (E_tup (c_es1 rfl ?_)))))
   refine ⟨show 1 <= sizeLine by decide, ?_⟩
   refine bin_tcat (by simp; (clear h1 hm hi' hi7 hk hk2; omega)) (hR2 _ _ ⟨?_, rfl⟩)
   rw [List.take_add_one, hyj, List.map_append, List.map_append]
   show _ ++ [V.tup (y.map (fun (b : Nat) => V.int b) ++ [V.int (0 + (i : Int))])] = _ ++ [brv (y ++ [i])]
   unfold brv
   rw [List.map_append, Int.zero_add]; rfl
  ·refine Vc.xa_0_2 hQ fun hr113_0 hr113_1 => ?_
   try clear hQ
   subst hr113_0
   subst hr113_1
   exact items_lst hf2
  refine Vc.xa_0_2 hQ fun hr115_0 hr115_1 => ?_
  try clear hQ
  subst hr115_0
  subst hr115_1
  rw [show ((keys i).map brv).length = (keys i).length from List.length_map .., List.take_length]
  refine ⟨by simp; (clear h1 hm hi' hi7 hk2; omega), fun r hr => ?_⟩
  refine bin_cat (items_lst ((Ext.new hr) _ _ hf2)) items_new (by simp; (clear h1 hm hi' hi7 hk2; omega)) fun c hc => ?_
  refine SS_nil (hR _ _ (Vc.xi_2_4 c _ rfl ((hx'.more hr).more hc) ((hx'.more hr).gone hc) ?_))
  rw [upd_self, keys_succ, List.map_append]
 ·refine Vc.xa_2_4 hP fun f1 pv hr122_2 hx' hf1 hf2 => ?_
  try clear hP
  subst hr122_2
  rw [rng_len] at hf2
  have em : (((m : Int) - 0).toNat) = m := by (clear h1 hm hz; omega)
  rw [em] at hf2
  have hk := ks_ok m (by (clear h1 hz em; omega))
  have hko := List.all_eq_true.mp hk.2.2.2
  refine Vc.xa_1_4 (ks_get h1 hm) fun r hr1 hr2 hr3 hr4 => ?_
  refine ⟨rfl, ?_⟩
  refine SS_ret ?_
  refine E_comp ?_
  refine E_call (Std.n_sorted (by assumption)) callee_builtin (Es_cons ?_)
  refine E_comp ?_
  refine E_nm rfl ?_
  refine ⟨_, ⟨.inl rfl, fun zz zz zz e => by cases e⟩, items_lst hf2, by rw [List.length_map]; (clear h1 hm em hr3; omega), ?_⟩
  refine comp_inv (P := fun j acc H'' => acc = ((keys m).take j).map ltv /\ H'' = H') ⟨rfl, rfl⟩ (fun j x acc H'' R' hQ hx2 hR2 => ?_) fun acc H'' hQ => ⟨?_, ?_⟩
  ·refine Vc.xa_0_2 hQ fun hr137_0 hr137_1 => ?_
   try clear hQ
   subst hr137_0
   subst hr137_1
   rw [List.getElem?_map, Option.map_eq_some_iff] at hx2
   refine Vc.xa_1_2 hx2 fun y hyj hr139_2 => ?_
   try clear hx2
   subst hr139_2
   have hy := hko y (List.mem_of_getElem? hyj)
   simp only [decide_eq_true_eq] at hy
   refine ⟨items_lst hf2, _, rfl, ?_⟩
   refine Ts_nil (if_t (E_tup (Es_cons (E_call (Std.n_len (by assumption)) callee_builtin (c_es1 rfl ?_)))))
   refine cv_len_tup (by rw [List.length_map]; (clear h1 hm em hk hr3; omega)) ?_
   rw [List.length_map]
   refine c_es1 rfl ?_
   refine ⟨show 2 <= sizeLine by decide, hR2 _ _ ⟨?_, rfl⟩⟩
   rw [List.take_add_one, hyj, List.map_append]; rfl
  ·refine Vc.xa_0_2 hQ fun hr149_0 hr149_1 => ?_
   try clear hQ
   subst hr149_0
   subst hr149_1
   exact items_lst hf2
  refine Vc.xa_0_2 hQ fun hr151_0 hr151_1 => ?_
  try clear hQ
  subst hr151_0
  subst hr151_1
  rw [show ((keys m).map brv).length = (keys m).length from List.length_map .., List.take_length]
  refine ⟨by simp; (clear h1 hm em hr3; omega), fun r1 hr1' => ?_⟩
  refine Es_nil ?_
  refine cv_sortk (upd_self ..) (hk.2.2.1 h1) (by (clear h1 hm hz em hr3; omega)) hr1 hr2 (by (clear h1 hm hz em hk; omega)) fun r2 hr2' => ?_
  rw [hr4]
  have x2 := (hx'.more (o := .lst ((keys m).map ltv)) hr1').more (o := .lst ((levs m m).map ltv)) hr2'
  have i2 := upd_self (upd H'' r1 (.lst ((keys m).map ltv))) r2 (.lst ((levs m m).map ltv))
  generalize upd (upd H'' r1 (.lst ((keys m).map ltv))) r2 (.lst ((levs m m).map ltv)) = H2 at x2 i2
  have hle : (levs m m).length <= 200 := (levs_ok m (by (clear h1 hz em hk hr3; omega))).2
  refine ⟨_, ⟨.inl rfl, fun zz zz zz e => by cases e⟩, items_lst i2, by rw [List.length_map]; (clear h1 hm em hk hr3; omega), ?_⟩
  refine comp_inv (P := fun j acc H'' => acc = ((levs m m).take j).map brv /\ H'' = H2) ⟨rfl, rfl⟩ (fun j x acc H'' R' hQ hx2 hR2 => ?_) fun acc H'' hQ => ⟨?_, ?_⟩
  ·refine Vc.xa_0_2 hQ fun hr163_0 hr163_1 => ?_
   try clear hQ
   subst hr163_0
   subst hr163_1
   rw [List.getElem?_map, Option.map_eq_some_iff] at hx2
   refine Vc.xa_1_2 hx2 fun y hyj hr165_2 => ?_
   try clear hx2
   subst hr165_2
   refine ⟨items_lst i2, _, rfl, ?_⟩
   refine Ts_nil (if_t (c_sub_nc rfl ?_))
   refine sub_t1 rfl (hR2 _ _ ⟨?_, rfl⟩)
   rw [List.take_add_one, hyj, List.map_append]; rfl
  ·refine Vc.xa_0_2 hQ fun hr170_0 hr170_1 => ?_
   try clear hQ
   subst hr170_0
   subst hr170_1
   exact items_lst i2
  refine Vc.xa_0_2 hQ fun hr172_0 hr172_1 => ?_
  try clear hQ
  subst hr172_0
  subst hr172_1
  rw [show ((levs m m).map ltv).length = (levs m m).length from List.length_map .., List.take_length]
  refine ⟨by simp; (clear h1 hm em hk hr3; omega), fun r3 hr3' => ?_⟩
  exact K _ _ (x2.more hr3') (x2.gone hr3') (upd_self ..)
theorem brs_nilE {a e : Addr} {l : List (List Nat)} (h : H a = some (.lst (l.map brv))) (he : H e = some (.lst [])) (q : Q (.bool (decide (l = []))) H) : CmpW C d .Eq (.ref a) (.ref e) H Q X := by
 refine cmp_eq (.lst h (vds_brs l)) (.lst he .nil) (by rw [PyData.canLay0]; exact lay_brs l) rfl (by simp only [PyData.depth, PyData.depthAll]; omega) ?_
 have : PyData.eqv (.list (l.map fun o => PyData.tuple (o.map fun (b : Nat) => PyData.int b))) (.list []) = decide (l = []) := by
  cases l with
  | nil => rfl
  | cons a l => simp [PyData.eqv, PyData.eqvAll]
 rw [this]; exact q
theorem brs_same {b c : Addr} {l : List (List Nat)} (h : H b = some (.lst (l.map brv))) (h' : H c = some (.lst (l.map brv))) (q : Q (.bool false) H) : CmpW C d .NotEq (.ref b) (.ref c) H Q X := by
 have lay : (PyData.list (l.map fun o => PyData.tuple (o.map fun (b : Nat) => PyData.int b))).canLay0 = true := by rw [PyData.canLay0]; exact lay_brs l
 have dep : ∀ l : List (List Nat), PyData.depthAll (l.map fun o => PyData.tuple (o.map fun (b : Nat) => PyData.int b)) <= 1 := fun l => by
  induction l with
  | nil => exact Nat.zero_le _
  | cons o l ih => simp only [List.map_cons, PyData.depthAll, PyData.depth, dep_br]; omega
 refine cmp_ne (.lst h (vds_brs l)) (.lst h' (vds_brs l)) lay lay (by have := dep l; simp only [PyData.depth]; omega) ?_
 rw [SeqAt.eqv_refl _ lay]; exact q
theorem nil_same {a e : Addr} {l : List Nat} (h : H a = some (.lst (l.map fun (b : Nat) => V.int b))) (he : H e = some (.lst [])) (q : Q (.bool (decide (l = []))) H) : CmpW C d .Eq (.ref a) (.ref e) H Q X := by
 refine cmp_eq (.lst h (vds_br l)) (.lst he .nil) (by rw [PyData.canLay0]; exact lay_br l) rfl (by simp only [PyData.depth, dep_br]; decide) ?_
 have : PyData.eqv (.list (l.map fun (b : Nat) => PyData.int b)) (.list []) = decide (l = []) := by
  cases l with
  | nil => rfl
  | cons a l => simp [PyData.eqv, PyData.eqvAll]
 rw [this]; exact q
theorem wthn_filter (one other : List Nat) : decide (one.filter (fun x => !decide (x ∈ other)) = []) = wthn one other := by
 unfold wthn
 induction one with
 | nil => rfl
 | cons x l ih =>
  rw [List.filter_cons, List.all_cons, <- ih]
  by_cases h : x ∈ other
  ·rw [decide_eq_true h]; rfl
  ·rw [decide_eq_false h]; simp
theorem lwithin_ct {one other : List Nat} (G : C.Good) (S : Std C) (D : Def C "_law_within" law_within_vs 2 law_within_b) (hl : one.length <= 100) (K : ∀ H', Ext H H' -> Q (.bool (wthn one other)) H') : CallW C ⟨n + 1, true⟩ "_law_within" [brv one, brv other] H Q X := by
 have hz : 10000 < sizeLine := by decide
 refine D.call G rfl ?_
 unfold law_within_b
 refine SS_ret (E_cmp ?_)
 refine E_comp ?_
 refine E_nm rfl ?_
 refine ⟨_, ⟨.inl rfl, fun zz zz zz e => by cases e⟩, rfl, by rw [List.length_map]; omega, ?_⟩
 refine comp_inv (P := fun i acc H' => acc = ((one.take i).filter (fun x => !decide (x ∈ other))).map (fun (b : Nat) => V.int b) /\ H' = H) ⟨rfl, rfl⟩ (fun i x acc H' R hP hx hR => ?_) fun acc H' hP => ⟨rfl, ?_⟩
 ·refine Vc.xa_0_2 hP fun hr217_0 hr217_1 => ?_
  try clear hP
  subst hr217_0
  subst hr217_1
  rw [List.getElem?_map, Option.map_eq_some_iff] at hx
  refine Vc.xa_1_2 hx fun y hyi hr219_2 => ?_
  try clear hx
  subst hr219_2
  refine ⟨rfl, _, rfl, ?_⟩
  refine Ts_cons (c_tcmp_nn rfl rfl ?_)
  refine nin_br ?_
  cases hy : !decide (y ∈ other) with
  | true =>
   refine tru_bool (if_t (Ts_nil (if_t (E_nm rfl ?_))))
   refine hR _ _ ⟨?_, rfl⟩
   rw [ftake hyi hy, if_pos rfl, List.map_append]; rfl
  | false =>
   refine tru_bool (if_f (if_f ?_))
   refine hR _ _ ⟨?_, rfl⟩
   rw [ftake hyi hy, if_neg Bool.false_ne_true, List.append_nil]
 refine Vc.xa_0_2 hP fun hr232_0 hr232_1 => ?_
 try clear hP
 subst hr232_0
 subst hr232_1
 rw [show (one.map fun (b : Nat) => V.int b).length = one.length from List.length_map .., List.take_length]
 have hfl := List.length_filter_le (fun x => !decide (x ∈ other)) one
 refine ⟨by rw [List.length_map]; omega, fun r hr => ?_⟩
 refine E_lst (Es_nil ?_)
 refine ⟨by decide, fun e he => ?_⟩
 refine nil_same ((Ext.new he) _ _ (upd_self ..)) (upd_self ..) ?_
 rw [wthn_filter]
 exact K _ ((Ext.new hr).more he)
noncomputable def gstep (f : List (List Nat)) (p : List Nat × Bool) : List (List Nat) := if p.2 = true /\ (f.filter fun l => wthn l p.1) = [] then f ++ [p.1] else f
theorem gstep_len : ∀ (l : List (List Nat × Bool)) (f : List (List Nat)), (l.foldl gstep f).length <= f.length + l.length
 | [], _ => Nat.le_refl _
 | o :: l, f => by
  have h1 : (gstep f o).length <= f.length + 1 := by unfold gstep; split <;> simp
  have := gstep_len l (gstep f o)
  rw [List.foldl_cons, List.length_cons]; omega
theorem gstep_mem : ∀ (l : List (List Nat × Bool)) (f : List (List Nat)) (x : List Nat), x ∈ l.foldl gstep f -> x ∈ f ∨ ∃ b, (x, b) ∈ l
 | [], _, _, h => .inl h
 | o :: l, f, x, h => by
  rcases gstep_mem l _ x h with q | ⟨b, q⟩
  ·unfold gstep at q
   split at q
   ·rcases List.mem_append.mp q with q | q
    ·exact .inl q
    ·simp at q; subst q; exact .inr ⟨o.2, by simp⟩
   ·exact .inl q
  ·exact .inr ⟨b, by simp [q]⟩
theorem flat_brv (o : List Nat) : flat (brv o) = true := by
 show (o.map fun (b : Nat) => V.int b).all isIv = true
 rw [List.all_map]; simp [isIv]
theorem flat_brvs (l : List (List Nat)) : (l.map brv).all flat = true := by
 rw [List.all_map, List.all_eq_true]; exact fun o zz => flat_brv o
theorem flats5 {a b c : Addr} {o : Option (List Nat)} {q : Option Bool} : flats [some (.ref a), some (.ref b), some (.ref c), o.map brv, q.map .bool] := fun i v h => by
 match i, h with
 | 0, h => cases h; rfl
 | 1, h => cases h; rfl
 | 2, h => cases h; rfl
 | 3, h => obtain ⟨x, _, rfl⟩ := Option.map_eq_some_iff.mp (show o.map brv = some v from h); exact flat_brv x
 | 4, h => obtain ⟨x, _, rfl⟩ := Option.map_eq_some_iff.mp (show q.map V.bool = some v from h); rfl
 | _ + 5, h => cases (show (none : Option V) = some v from h)
theorem lleast_ct {su go : Addr} {ss : List (List Nat)} {gs : List Bool} (G : C.Good) (S : Std C) (hZ : C.G "zip" (.type "zip")) (Dw : Def C "_law_within" law_within_vs 2 law_within_b) (D : Def C "_law_least" law_least_vs 2 law_least_b) (hlen : ss.length = gs.length) (hss : ss.length <= 200) (hs8 : ∀ o ∈ ss, o.length <= 100)
  (h1 : H su = some (.lst (ss.map brv))) (h2 : H go = some (.lst (gs.map .bool))) (K : ∀ r H', Ext H H' -> H r = none -> H' r = some (.lst (((ss.zip gs).foldl gstep []).map brv)) -> Q (.ref r) H') : CallW C ⟨n + 2, true⟩ "_law_least" [.ref su, .ref go] H Q X := by
 have hz : 10000 < sizeLine := by decide
 refine D.call G rfl ?_
 unfold law_least_b
 refine SS_asg (E_lst (Es_nil ?_))
 refine ⟨by decide, fun fo hfo => ?_⟩
 have x0 : Ext H (upd H fo (.lst [])) := .new hfo
 have f0 := upd_self H fo (.lst [])
 have n1 : su ≠ fo := fun e => by rw [e, hfo] at h1; cases h1
 have n2 : go ≠ fo := fun e => by rw [e, hfo] at h2; cases h2
 generalize hH1 : upd H fo (.lst []) = H1 at x0 f0
 refine SS_fz hZ rfl ?_
 refine c_es2 rfl rfl ?_
 refine ⟨su, go, ss.map brv, gs, fo, [], rfl, ⟨n1, n2⟩, ⟨x0 _ _ h1, x0 _ _ h2⟩, f0, ?_⟩
 refine zip_inv (P := fun k ρ acc => (∃ o q, ρ = [some (.ref su), some (.ref go), some (.ref fo), Option.map brv o, Option.map V.bool q]) /\ acc = (((ss.zip gs).take k).foldl gstep []).map brv) ⟨⟨none, none, rfl⟩, rfl⟩ (by simp [hlen]) (fun k ρ acc hP => ?_) (fun k x y ρ acc Hz R hP hx hy hz' hR => ?_) fun ρ acc hP => ?_
 ·obtain ⟨⟨o, q, rfl⟩, rfl⟩ := hP
  exact ⟨flats5, flat_brvs _⟩
 ·obtain ⟨⟨o, q, rfl⟩, rfl⟩ := hP
  rw [List.getElem?_map, Option.map_eq_some_iff] at hx hy
  obtain ⟨one, hx, rfl⟩ := hx
  obtain ⟨b, hy, rfl⟩ := hy
  have hzk : (ss.zip gs)[k]? = some (one, b) := by rw [List.getElem?_zip_eq_some]; exact ⟨hx, hy⟩
  have hstep : ((ss.zip gs).take (k + 1)).foldl gstep [] = gstep (((ss.zip gs).take k).foldl gstep []) (one, b) := by rw [List.take_add_one, hzk, List.foldl_append]; rfl
  have hfl := gstep_len ((ss.zip gs).take k) []
  have hfm := gstep_mem ((ss.zip gs).take k) []
  rw [List.length_take, List.length_zip] at hfl
  have hmem : ∀ l ∈ ((ss.zip gs).take k).foldl gstep [], l.length <= 100 := fun l hl => by
   rcases hfm l hl with q | ⟨b, q⟩
   ·cases q
   ·exact hs8 l (List.of_mem_zip (List.mem_of_mem_take q)).1
  have ho := hs8 one (List.mem_of_getElem? hx)
  rw [hstep] at hR
  clear hfm hstep
  generalize ((ss.zip gs).take k).foldl gstep [] = f at hfl hz' hR hmem
  simp only [List.length_nil] at hfl
  show wpSs C _ _ [some (.ref su), some (.ref go), some (.ref fo), some (brv one), some (.bool b)] _ _ _
  have keep : ∀ {H' : MH}, Ext Hz H' -> ∀ a, a ≠ fo -> (Hz a).isSome = true -> H' a = Hz a := fun x a zz ha => by
   refine Vc.xa_1_1 (Option.isSome_iff_exists.mp ha) fun o e => ?_
   rw [e]; exact x _ _ e
  refine SS_ife (T_bop (A_and (T_nm (E_nm rfl (tru_bool ?_)))))
  cases b with
  | false =>
   refine if_f (if_f (SS_app0 ?_))
   refine SS_nil (hR _ _ (f.map brv) (fun zz zz zz => rfl) hz' ⟨⟨some one, some false, rfl⟩, ?_⟩)
   unfold gstep; rw [if_neg (fun q => Bool.false_ne_true q.1)]
  | true =>
   refine if_t (A_and (c_tcmp ?_))
   refine E_comp ?_
   refine E_nm rfl ?_
   refine ⟨_, ⟨.inl rfl, fun zz zz zz e => by cases e⟩, items_lst hz', by rw [List.length_map]; (clear hlen n1 n2 ho; omega), ?_⟩
   refine comp_inv (P := fun j acc H'' => acc = ((f.take j).filter fun l => wthn l one).map brv /\ Ext Hz H'') ⟨rfl, .refl _⟩ (fun j x acc H'' R' hQ hx2 hR2 => ?_) fun acc H'' hQ => ⟨?_, ?_⟩
   ·refine Vc.xa_0_2 hQ fun hr328_0 xq => ?_
    try clear hQ
    subst hr328_0
    rw [List.getElem?_map, Option.map_eq_some_iff] at hx2
    refine Vc.xa_1_2 hx2 fun y hyj hr330_2 => ?_
    try clear hx2
    subst hr330_2
    refine ⟨items_lst (xq _ _ hz'), _, rfl, ?_⟩
    refine Ts_cons (T_call ?_)
    refine E_fn Dw.fn ?_
    refine c_es2 rfl rfl ?_
    refine lwithin_ct (n := n) (one := y) (other := one) G S Dw (hmem y (List.mem_of_getElem? hyj)) fun H3 x3 => ?_
    cases hy : wthn y one with
    | true =>
     refine tru_bool (if_t (Ts_nil (if_t (E_nm rfl ?_))))
     refine hR2 _ _ ⟨?_, xq.trans x3⟩
     rw [ftake (P := fun l => wthn l one) hyj hy, if_pos rfl, List.map_append]; rfl
    | false =>
     refine tru_bool (if_f (if_f ?_))
     refine hR2 _ _ ⟨?_, xq.trans x3⟩
     rw [ftake (P := fun l => wthn l one) hyj hy, if_neg Bool.false_ne_true, List.append_nil]
   ·refine Vc.xa_0_2 hQ fun hr345_0 xq => ?_
    try clear hQ
    subst hr345_0
    exact items_lst (xq _ _ hz')
   refine Vc.xa_0_2 hQ fun hr347_0 xq => ?_
   try clear hQ
   subst hr347_0
   rw [show (f.map brv).length = f.length from List.length_map .., List.take_length]
   have hff := List.length_filter_le (fun l => wthn l one) f
   refine ⟨by rw [List.length_map]; (clear hlen n1 n2 ho; omega), fun r hr => ?_⟩
   refine E_lst (Es_nil ?_)
   refine ⟨by decide, fun e he => ?_⟩
   have x4 := (xq.more (o := .lst ((f.filter fun l => wthn l one).map brv)) hr).more (o := .lst []) he
   refine brs_nilE ((Ext.new he) _ _ (upd_self ..)) (upd_self ..) ?_
   generalize upd (upd H'' r (.lst ((f.filter fun l => wthn l one).map brv))) e (.lst []) = H4 at x4
   by_cases hq : (f.filter fun l => wthn l one) = []
   ·rw [decide_eq_true hq]
    refine tru_bool (if_t (A_nil_and (if_t (SS_app1 (SS_exp (E_meth (E_nm rfl ?_)))))))
    refine ⟨_, mget_append (x4 _ _ hz'), callee_builtin, ?_⟩
    refine c_es1 rfl ?_
    refine cv_append (x4 _ _ hz') (by rw [List.length_map]; (clear hlen n1 n2 ho hff; omega)) ?_
    refine SS_app0 ?_
    refine SS_nil (hR _ _ ((f ++ [one]).map brv) (fun a na ha => ?_) (by rw [upd_self, List.map_append]; rfl) ⟨⟨some one, some true, rfl⟩, ?_⟩)
    ·rw [upd_ne na]; exact keep x4 a na ha
    ·unfold gstep; rw [if_pos ⟨rfl, hq⟩]
   ·rw [decide_eq_false hq]
    refine tru_bool (if_f (if_f (SS_app0 ?_)))
    refine SS_nil (hR _ _ (f.map brv) (keep x4) (x4 _ _ hz') ⟨⟨some one, some true, rfl⟩, ?_⟩)
    unfold gstep; rw [if_neg (fun q => hq q.2)]
 ·refine Vc.xa_0_2 hP fun ho370_0 hr370_1 => ?_
  try clear hP
  obtain ⟨o, q, rfl⟩ := ho370_0
  subst hr370_1
  rw [List.length_map, List.take_of_length_le (by rw [List.length_zip]; (clear hlen hss hz n1 n2; omega))]
  refine c_ret_n rfl ?_
  refine K fo _ ?_ hfo (upd_self ..)
  rw [<- hH1]
  intro b o hb
  rw [upd_ne (fun e => by rw [e, hfo] at hb; cases hb), upd_ne (fun e => by rw [e, hfo] at hb; cases hb)]; exact hb
theorem sets_same_ct {fa da : Addr} {L : List (List Nat)} (G : C.Good) (S : Std C) (D : Def C "_law_sets_same" law_sets_same_vs 2 law_sets_same_b) (hl : L.length <= 300) (hl2 : ∀ o ∈ L, o.length <= 100) (h1 : H fa = some (.lst (L.map brv))) (h2 : H da = some (.lst (L.map brv)))
  (K : ∀ H', Ext H H' -> Q (.bool true) H') : CallW C ⟨n + 1, true⟩ "_law_sets_same" [.ref fa, .ref da] H Q X := by
 have hz : 10000 < sizeLine := by decide
 refine D.call G rfl ?_
 unfold law_sets_same_b
 refine SS_ife (T_bop (A_or (T_not (T_call (E_call (Std.n_isinstance (by assumption)) callee_builtin (c_ess rfl (Es_cons (E_gl (Std.n_list (by assumption)) (Es_nil ?_)))))))))
 refine cv_isi_list S.n_list (items_lst h1) (.inl ⟨rfl, rfl⟩) ?_
 refine tru_bool (if_nt (A_or (c_tcmp_nn rfl rfl ?_)))
 refine brs_same h1 h2 ?_
 refine tru_bool (if_f (A_nil_or (if_f (SS_app0 ?_))))
 refine SS_for ?_
 refine E_nm rfl ?_
 refine ⟨_, ⟨.inl rfl, fun zz zz zz e => by cases e⟩, items_lst h1, ?_⟩
 refine for_inv (P := fun i ρ H' => ∃ u, ρ = [some (.ref fa), some (.ref da), u] /\ Ext H H') ⟨none, rfl, .refl _⟩ (fun i x ρ H' R hP hx hR => ?_) fun ρ H' hP => ?_
 ·refine Vc.xa_1_2 hP fun u hr391_1 hx' => ?_
  try clear hP
  subst hr391_1
  rw [List.getElem?_map, Option.map_eq_some_iff] at hx
  refine Vc.xa_1_2 hx fun one hoi hr393_2 => ?_
  try clear hx
  subst hr393_2
  have ho := hl2 one (List.mem_of_getElem? hoi)
  refine ⟨items_lst (hx' _ _ h1), _, rfl, ?_⟩
  show wpSs C _ _ [some (.ref fa), some (.ref da), some (brv one)] _ _ _
  refine SS_ife (T_bop (A_or (T_not (T_call (E_call (Std.n_isinstance (by assumption)) callee_builtin (c_ess rfl (Es_cons (E_gl (Std.n_tuple (by assumption)) (Es_nil ?_)))))))))
  refine cv_isi (k := true) S.n_tuple (by rfl) ?_
  refine tru_bool (if_nt (A_or (c_tcmp ?_)))
  refine E_comp ?_
  refine E_nm rfl ?_
  refine ⟨_, ⟨.inl rfl, fun zz zz zz e => by cases e⟩, rfl, by rw [List.length_map]; (clear hl; omega), ?_⟩
  refine comp_inv (P := fun j acc H'' => acc = [] /\ H'' = H') ⟨rfl, rfl⟩ (fun j x acc H'' R' hQ hx2 hR2 => ?_) fun acc H'' hQ => ⟨rfl, ?_⟩
  ·refine Vc.xa_0_2 hQ fun hr404_0 hr404_1 => ?_
   try clear hQ
   subst hr404_0
   subst hr404_1
   rw [List.getElem?_map, Option.map_eq_some_iff] at hx2
   refine Vc.xa_1_2 hx2 fun y hyj hr406_2 => ?_
   try clear hx2
   subst hr406_2
   refine ⟨rfl, _, rfl, ?_⟩
   refine Ts_cons (T_call (E_call (Std.n_isinstance (by assumption)) callee_builtin (c_ess rfl (Es_cons (E_gl (Std.n_bool (by assumption)) (Es_nil ?_))))))
   refine cv_isi (k := false) S.n_bool (by rfl) ?_
   refine tru_bool (if_f (if_f ?_))
   exact hR2 _ _ ⟨rfl, rfl⟩
  refine Vc.xa_0_2 hQ fun hr412_0 hr412_1 => ?_
  try clear hQ
  subst hr412_0
  subst hr412_1
  refine ⟨by decide, fun r hr => ?_⟩
  refine E_lst (Es_nil ?_)
  refine ⟨by decide, fun e he => ?_⟩
  refine brs_nil (l := []) ((Ext.new he) _ _ (upd_self ..)) (upd_self ..) ?_
  rw [show (!decide (([] : List (List Nat)) = [])) = false from rfl]
  refine tru_bool (if_f (A_nil_or (if_f (SS_app0 ?_))))
  exact SS_nil (hR _ _ ⟨_, rfl, (hx'.more hr).more he⟩)
 ·refine Vc.xa_1_2 hP fun u hr420_1 hx' => ?_
  try clear hP
  subst hr420_1
  refine ⟨items_lst (hx' _ _ h1), ?_⟩
  refine c_ret_b ?_
  exact K _ hx'
end
end Vc
end
section
namespace Vc
open PySem PySem.W PyProof.Rows
noncomputable def bltOk (p : Program) (x : String) (v : Value) : Bool := bootBuiltins (Str.ofString x) == some v && !(Str.ofString x == ("__name__" : Str)) && !startupNames.contains (Str.ofString x) && !(((recsOf p).map (·.name)).contains (Str.ofString x)) && !(((litsOf p).map (·.1)).contains (Str.ofString x)) && !(((clssOf p []).map (·.name)).contains (Str.ofString x))
theorem g_blt {p : Program} {mean : ExcName -> Option Value} {C : Cx} (T : Top p [] mean C.mg C.mb C.h0) {x : String} {v : Value} (h : bltOk p x v = true) : C.G x v := by
 unfold bltOk at h
 refine Vc.xa_0_2 (Bool.and_eq_true_iff.mp h) fun h h6 => ?_
 refine Vc.xa_0_2 (Bool.and_eq_true_iff.mp h) fun h h5 => ?_
 refine Vc.xa_0_2 (Bool.and_eq_true_iff.mp h) fun h h4 => ?_
 refine Vc.xa_0_2 (Bool.and_eq_true_iff.mp h) fun h h3 => ?_
 refine Vc.xa_0_2 (Bool.and_eq_true_iff.mp h) fun h1 h2 => ?_
 refine .inr ⟨T.free _ (not_mem_of h3) (List.not_mem_nil) (not_mem_of h4) (not_mem_of h5) (not_mem_of h6), ?_⟩
 rw [T.builtins _ fun e => ?_]
 ·exact eq_of_beq h1
 ·rw [e] at h2; exact Bool.false_ne_true h2
end Vc
end
section
namespace Vc
open PySem PyProof.Rows
noncomputable def law5_vs : Vs := [locv "_law_script", celv "_law_work_here", celv "_law_looks_here", locv "_law_subsets_here", locv "_law_due_here", locv "_law_handed", locv "_law_found", locv "_law_less"]
noncomputable def law5_b : List St :=
  [.asg 1 (.call "_law_work" [(.nm 0), (.ci 5)]),
  .ife (.cmp .Eq (.bin .Mod (.call "_law_mixed" [(.nm 0), (.ci 30)]) (.ci 8)) (.ci 1)) [.asg 1 (.tup [(.ci 2), (.sub (.nm 1) (.ci 1)), (.sub (.call "_law_work" [(.nm 0), (.ci 7)]) (.ci 2))])] [],
  .asg 2 (.call "_law_looks" [(.nm 0), (.nm 1), (.ci 14), (.ci 3)]),
  .asg 3 (.call "_law_subsets" [(.call "len" [(.sub (.nm 1) (.ci 2))])]),
  .asg 4 (.call "_law_least" [(.nm 3), (.comp 1 (.call "_law_leaves" [(.nm 1), (.nm 2), (.nm 8)]) (.nm 3) [])]),
  .asg 5 (.call "list" [(.nm 2)]),
  .asg 6 (.call "least_sets" [(.nm 1), (.nm 5)]),
  .ife (.bop .Or [(.una .Not (.call "_law_sets_same" [(.nm 6), (.nm 4)])), (.cmp .NotEq (.nm 5) (.nm 2))]) [.ret (.cb false)] [],
  .asg 7 (.call "least_sets" [(.nm 1), (.sli (.nm 2) .cn (.una .USub (.ci 1)) .cn)]),
  .exp (.meth (.nm 6) "append" [(.tup [(.ci 0)])]),
  .exp (.meth (.nm 5) "clear" []),
  .ife (.una .Not (.call "_law_sets_same" [(.call "least_sets" [(.nm 1), (.nm 2)]), (.nm 4)])) [.ret (.cb false)] [],
  .ret (.bop .And [(.cmp .Eq (.nm 6) (.bin .Add (.nm 4) (.lst [(.tup [(.ci 0)])]))), (.cmp .Eq (.call "least_sets" [(.nm 1), (.sli (.nm 2) .cn (.una .USub (.ci 1)) .cn)]) (.nm 7)), (.cmp .Eq (.call "least_sets" [(.nm 1), (.lst [])]) (.lst [(.tup [])]))])]
section
variable {C : Cx} {X : XP} {a : Addr} {ns : List Int} {H : MH} {Q : V -> MH -> Prop} {d : Md} {w : Wk} {LL : List Lk}
noncomputable def lkd (L : Lk) : PyData := .tuple [.tuple (L.1.map .int), .tuple (L.2.map fun p => .tuple [.int p.1, .int p.2])]
theorem vds_prs {H : MH} : ∀ l : List (Int × Int), VDs H (prs (tld l)) (l.map fun p => PyData.tuple [.int p.1, .int p.2])
 | [] => .nil
 | _ :: l => .cons (.tup (.cons (.int _) (.cons (.int _) .nil))) (vds_prs l)
theorem vds_lks {H : MH} : ∀ LL : List Lk, VDs H (LL.map lkv) (LL.map lkd)
 | [] => .nil
 | L :: LL => .cons (.tup (.cons (.tup (vds_ints L.1)) (.cons (.tup (vds_prs L.2)) .nil))) (vds_lks LL)
theorem lay_ints' : ∀ l : List Int, PyData.canLayAll0 (l.map .int) = true
 | [] => rfl
 | _ :: l => by rw [List.map_cons, PyData.canLayAll0, lay_ints' l]; rfl
theorem lay_prs' : ∀ l : List (Int × Int), PyData.canLayAll0 (l.map fun p => PyData.tuple [.int p.1, .int p.2]) = true
 | [] => rfl
 | _ :: l => by rw [List.map_cons, PyData.canLayAll0, lay_prs' l]; rfl
theorem lay_lks : ∀ LL : List Lk, PyData.canLayAll0 (LL.map lkd) = true
 | [] => rfl
 | L :: LL => by
  rw [List.map_cons, PyData.canLayAll0, lay_lks LL]
  unfold lkd
  rw [PyData.canLay0, PyData.canLayAll0, PyData.canLayAll0, PyData.canLay0, PyData.canLay0, lay_ints', lay_prs']; rfl
theorem dep_ints' : ∀ l : List Int, PyData.depthAll (l.map .int) = 0
 | [] => rfl
 | _ :: l => by rw [List.map_cons, PyData.depthAll, dep_ints' l]; rfl
theorem dep_prs' : ∀ l : List (Int × Int), PyData.depthAll (l.map fun p => PyData.tuple [.int p.1, .int p.2]) <= 1
 | [] => Nat.zero_le _
 | _ :: l => by have := dep_prs' l; simp only [List.map_cons, PyData.depthAll, PyData.depth]; omega
theorem dep_lks : ∀ LL : List Lk, PyData.depthAll (LL.map lkd) <= 3
 | [] => Nat.zero_le _
 | L :: LL => by
  have h1 := dep_lks LL
  have h2 := dep_ints' L.1
  have h3 := dep_prs' L.2
  simp only [List.map_cons, PyData.depthAll, lkd, PyData.depth]
  omega
theorem lks_same {b c : Addr} (h : H b = some (.lst (LL.map lkv))) (h' : H c = some (.lst (LL.map lkv))) (q : Q (.bool false) H) : CmpW C d .NotEq (.ref b) (.ref c) H Q X := by
 have lay : (PyData.list (LL.map lkd)).canLay0 = true := by rw [PyData.canLay0]; exact lay_lks LL
 refine cmp_ne (.lst h (vds_lks LL)) (.lst h' (vds_lks LL)) lay lay (by have := dep_lks LL; simp only [PyData.depth]; omega) ?_
 rw [SeqAt.eqv_refl _ lay]; exact q
theorem brs_sameE {b c : Addr} {l : List (List Nat)} (h : H b = some (.lst (l.map brv))) (h' : H c = some (.lst (l.map brv))) (q : Q (.bool true) H) : CmpW C d .Eq (.ref b) (.ref c) H Q X := by
 have lay : (PyData.list (l.map fun o => PyData.tuple (o.map fun (b : Nat) => PyData.int b))).canLay0 = true := by rw [PyData.canLay0]; exact lay_brs l
 have dep : ∀ l : List (List Nat), PyData.depthAll (l.map fun o => PyData.tuple (o.map fun (b : Nat) => PyData.int b)) <= 1 := fun l => by
  induction l with
  | nil => exact Nat.zero_le _
  | cons o l ih => simp only [List.map_cons, PyData.depthAll, PyData.depth, dep_br]; omega
 refine cmp_eq (.lst h (vds_brs l)) (.lst h' (vds_brs l)) lay lay (by have := dep l; simp only [PyData.depth]; omega) ?_
 rw [SeqAt.eqv_refl _ lay]; exact q
theorem gfold (w : Wk) (LL : List Lk) : ∀ (l f : List (List Nat)), (l.zip (l.map (room w LL))).foldl gstep f = l.foldl (lstep w LL) f
 | [], _ => rfl
 | o :: l, f => by
  rw [List.map_cons, List.zip_cons_cons, List.foldl_cons, List.foldl_cons, gfold w LL l]
  congr 1
  unfold gstep lstep
  have e : ((f.filter fun l => wthn l o) = []) ↔ (!(f.any fun l => wthn l o)) = true := by
   rw [List.filter_eq_nil_iff, Bool.not_eq_true', List.any_eq_false]
  by_cases h1 : room w LL o = true
  ·by_cases h2 : (f.filter fun l => wthn l o) = []
   ·rw [if_pos ⟨h1, h2⟩, if_pos ⟨e.mp h2, h1⟩]
   ·rw [if_neg fun q => h2 q.2, if_neg fun q => h2 (e.mpr q.1)]
  ·rw [if_neg fun q => h1 q.1, if_neg fun q => h1 q.2]
theorem least_none (w : Wk) : leastS w [] = [[]] := by
 have h : ∀ l : List (List Nat), l.foldl (lstep w []) [[]] = [[]] := fun l => by
  induction l with
  | nil => rfl
  | cons o l ih =>
   rw [List.foldl_cons]
   have : lstep w [] [[]] o = [[]] := by unfold lstep; rw [if_neg (fun q => by have := q.1; simp [wthn] at this)]
   rw [this]; exact ih
 have hd : ∀ m k, ∃ t, levs m k = [] :: t := fun m k => by
  induction k with
  | zero => exact ⟨[], rfl⟩
  | succ k ih => obtain ⟨t, e⟩ := ih; exact ⟨t ++ lev m (k + 1), by show levs m k ++ _ = _; rw [e]; rfl⟩
 unfold leastS
 refine Vc.xa_1_1 (hd w.ps.length w.ps.length) fun t e => ?_
 rw [e, List.foldl_cons]
 exact h t
theorem LksOk.init (hL : LksOk w LL) : LksOk w LL.dropLast := ⟨fun L h => hL.ok L (List.dropLast_subset LL h), by rw [List.length_dropLast]; have := hL.len; omega⟩
theorem sl_init (l : List V) : vsl l none (some (-1)) = l.dropLast := by
 unfold vsl
 simp only [Option.elim]
 rw [List.drop_zero, Nat.sub_zero, List.dropLast_eq_take]
 congr 1
 unfold clipAt
 rw [if_pos (by decide)]
 omega
theorem two_ok {w w2 : Wk} (h : w.Ok 5) (h2 : w2.Ok 7) (hi : w.inp = w2.inp) : Wk.Ok ⟨2, w.inp, w2.ps⟩ 7 :=
 ⟨show (2 : Int) <= 2 by decide, show (2 : Int) <= 5 by decide, h.i1, h.i2, h2.p1, h2.p2, fun k p hk => by show p.ok (w.inp + k); rw [hi]; exact h2.pt k p hk, fun u zz => absurd u (show ¬ (3 : Int) < 2 by decide)⟩
structure L05 (C : Cx) (vp vg vr vl vk : Vs) : Prop where
 W : WlD C
 L : LwD C
 Z : C.G "zip" (.type "zip")
 c : Def C "_law_cell" law_cell_vs 2 law_cell_b
 m : Def C "_law_mixed" law_mixed_vs 2 law_mixed_b
 p : Def C "_law_part" vp 2 law_part_b
 pv : vp.length = 6
 k : Def C "_law_work" law_work_vs 2 law_work_b
 g : Def C "_law_given" vg 2 law_given_b
 gv : vg.length = 3
 r : Def C "_law_run" vr 3 law_run_b
 rv : vr.length = 5
 l : Def C "_law_look" vl 3 law_look_b
 lv : vl.length = 12
 s : Def C "_law_looks" vk 4 law_looks_b
 sv : vk.length = 8
 so : Def C "sets_of" sets_of_vs 1 sets_of_b
 wi : Def C "is_within" is_within_vs 2 is_within_b
 le : Def C "least_sets" least_sets_vs 2 least_sets_b
 su : Def C "_law_subsets" law_subsets_vs 1 law_subsets_b
 lw : Def C "_law_within" law_within_vs 2 law_within_b
 ll : Def C "_law_least" law_least_vs 2 law_least_b
 ss : Def C "_law_sets_same" law_sets_same_vs 2 law_sets_same_b
 law : Def C "law" law5_vs 1 law5_b
set_option maxHeartbeats 4000000 in
theorem law05 {vp vg vr vl vk : Vs} (D : L05 C vp vg vr vl vk) (hl : ns.length <= 63) : CallW C ⟨60, true⟩ "law" [.ref a] (H0 a ns) (fun v zz => v = .bool true) X := by
 have hz : 10000 < sizeLine := by decide
 have G := D.W.G; have S := D.W.S
 refine Vc.xa_1_2 D.L.d fun vd hvd Dd => ?_
 refine D.law.call G rfl ?_
 unfold law5_b
 have h0 : H0 a ns a = some (.fro (ns.map .int)) := if_pos rfl
 generalize H0 a ns = H at h0
 refine SS_asg ?_
 refine E_fn D.k.fn ?_
 refine c_ess rfl (c_esc1 ?_)
 refine work_cti (most := 5) G S D.c D.m D.p D.pv D.k h0 hl (by decide) (by decide) fun w0 pa0 H1 hw0 hi0 x1 hpa0 p1 => ?_
 have a1 := x1 _ _ h0
 clear x1 h0
 refine SS_join (J := fun ρ' H' => ∃ w : Wk, ∃ pa, w.Ok 7 /\ ρ' = [some (.ref a), some (w.v pa), none, none, none, none, none, none] /\ H' a = some (.fro (ns.map .int)) /\ H' pa = some (.lst (w.ps.map Pt.v))) (fun ρ' H2 hJ => ?_) fun R hR => ?_
 rotate_left
 ·refine c_tcmp (E_bin ?_)
  refine E_fn D.m.fn ?_
  refine c_ess rfl (c_esc1 ?_)
  refine mixed_ct G D.c D.m a1 hl (by decide) fun H2 x2 => ?_
  refine E_ci ?_
  refine bin_modp (by decide) ?_
  refine E_ci (cmp_eq_int (tru_bool ?_))
  split
  ·refine SS_asg (E_tup (c_esc (Es_cons (c_sub_nc rfl ?_))))
   refine sub_t1 rfl ?_
   refine Es_cons (E_sub ?_)
   refine E_fn D.k.fn ?_
   refine c_ess rfl (c_esc1 ?_)
   refine work_cti (most := 7) G S D.c D.m D.p D.pv D.k (x2 _ _ a1) hl (by decide) (by decide) fun w2 pa2 H3 hw2 hi2 x3 hpa2 p3 => ?_
   refine E_ci ?_
   refine sub_t2 rfl ?_
   refine Es_nil ?_
   refine ⟨show 3 <= sizeLine by decide, ?_⟩
   exact SS_nil (hR _ _ (Vc.xi_2_4 (⟨2, w0.inp, w2.ps⟩) pa2 (two_ok hw0 hw2 (hi0.trans hi2.symm)) rfl (x3 _ _ (x2 _ _ a1)) p3))
  ·exact SS_nil (hR _ _ (Vc.xi_2_4 w0 pa0 (⟨hw0.r1, hw0.r2, hw0.i1, hw0.i2, hw0.p1, by have := hw0.p2; (clear hl hz hvd hi0; omega), hw0.pt, fun u zz => hw0.few u (by decide)⟩) rfl (x2 _ _ a1) (x2 _ _ p1)))
 clear a1 p1
 refine Vc.xa_2_4 hJ fun w pa hw hr179_3 a2 p2 => ?_
 try clear hJ
 subst hr179_3
 have hp1 := hw.p1; have hp2 := hw.p2
 refine SS_asg ?_
 refine E_fn D.s.fn ?_
 refine c_ess rfl (c_ess rfl (c_esc (c_esc1 ?_)))
 refine looks_ct (n := 55) (w := w) (pa := pa) (first := 14) (many := 3) G S D.c D.m D.g D.gv Dd hvd D.r D.rv D.l D.lv D.s D.sv hw (by decide) p2 a2 hl (by decide) (by decide) fun lr LL H3 x3 zz l3 hok hll => ?_
 have hL : LksOk w LL := ⟨hok, by (clear hl hz hvd hi0 hp1 hp2; omega)⟩
 have p3 := x3 _ _ p2
 clear a2 p2 x3 hok
 refine SS_asg ?_
 refine E_fn D.su.fn ?_
 refine Es_cons (E_call (Std.n_len (by assumption)) callee_builtin (Es_cons (c_sub_nc rfl ?_)))
 refine sub_t2 rfl ?_
 refine Es_nil ?_
 refine cv_len_list (items_lst p3) (by rw [List.length_map]; (clear hl hvd hi0 hp1 hll; omega)) ?_
 rw [List.length_map]
 refine Es_nil ?_
 refine subsets_ct (n := 58) (m := w.ps.length) G S D.su hp1 (by (clear hl hz hvd hi0 hp1 hll; omega)) fun su H4 x4 zz s4 => ?_
 have p4 := x4 _ _ p3
 have l4 := x4 _ _ l3
 clear x4 p3 l3
 refine Vc.xa_0_2 (levs_ok w.ps.length (by (clear hl hz hvd hi0 hp1 hll; omega))) fun hall hln => ?_
 have hsm : ∀ o ∈ levs w.ps.length w.ps.length, o.length <= 8 := fun o ho => by
  have := List.all_eq_true.mp hall o ho
  simp only [Bool.and_eq_true, decide_eq_true_eq] at this
  exact this.2
 have hmm : ∀ (LL : List Lk) (o : List Nat), o ∈ leastS w LL -> o.length <= 8 := fun LL o ho => by
  rcases lfold_mem w LL _ _ o ho with q | q
  ·cases q
  ·exact hsm o q
 have hml : ∀ LL : List Lk, (leastS w LL).length <= 200 := fun LL => by have := lfold_len w LL (levs w.ps.length w.ps.length) []; unfold leastS; simp at this; (clear hl hz hvd hi0 hp1 hp2 hll; omega)
 refine SS_asg ?_
 refine E_fn D.ll.fn ?_
 refine c_ess rfl (Es_cons ?_)
 refine E_comp ?_
 refine E_nm rfl ?_
 refine ⟨_, ⟨.inl rfl, fun zz zz zz e => by cases e⟩, items_lst s4, by rw [List.length_map]; (clear hl hvd hi0 hp1 hp2 hll; omega), ?_⟩
 refine comp_inv (P := fun j acc H' => acc = (((levs w.ps.length w.ps.length).take j).map (room w LL)).map .bool /\ Ext H4 H') ⟨rfl, .refl _⟩ (fun j x acc H' R' hQ hx2 hR2 => ?_) fun acc H' hQ => ⟨?_, ?_⟩
 ·refine Vc.xa_0_2 hQ fun hr217_0 xq => ?_
  try clear hQ
  subst hr217_0
  rw [List.getElem?_map, Option.map_eq_some_iff] at hx2
  refine Vc.xa_1_2 hx2 fun y hyj hr219_2 => ?_
  try clear hx2
  subst hr219_2
  refine ⟨items_lst (xq _ _ s4), _, rfl, ?_⟩
  refine Ts_nil (if_t ?_)
  refine E_fn D.L.l.fn ?_
  refine c_es3 rfl rfl rfl ?_
  refine leaves_ct (n := 56) (br := y) D.L hw (by decide) (xq _ _ p4) (xq _ _ l4) hL fun H5 x5 => ?_
  refine hR2 _ _ ⟨?_, xq.trans x5⟩
  rw [List.take_add_one, hyj, List.map_append, List.map_append]; rfl
 ·refine Vc.xa_0_2 hQ fun hr227_0 xq => ?_
  try clear hQ
  subst hr227_0
  exact items_lst (xq _ _ s4)
 refine Vc.xa_0_2 hQ fun hr229_0 xq => ?_
 try clear hQ
 subst hr229_0
 rw [show ((levs w.ps.length w.ps.length).map brv).length = (levs w.ps.length w.ps.length).length from List.length_map .., List.take_length]
 refine ⟨by simp; (clear hl hvd hi0 hp1 hp2 hll; omega), fun go hgo => ?_⟩
 have s5 := xq.more (o := .lst (((levs w.ps.length w.ps.length).map (room w LL)).map .bool)) hgo
 refine lleast_ct (n := 57) (ss := levs w.ps.length w.ps.length) (gs := (levs w.ps.length w.ps.length).map (room w LL)) G S D.Z D.lw D.ll (by rw [List.length_map]) hln (fun o ho => by have := hsm o ho; (clear hl hz hvd hi0 hp1 hp2 hll hln; omega)) (s5 _ _ s4) (upd_self ..) fun du H6 x6 zz d6 => ?_
 rw [gfold] at d6
 have d6 : H6 du = some (.lst ((leastS w LL).map brv)) := d6
 have x46 := s5.trans x6
 have p6 := x46 _ _ p4
 have l6 := x46 _ _ l4
 clear x46 x6 s5 xq hgo p4 l4 s4
 refine SS_asg (E_call (Std.n_list (by assumption)) callee_type (c_es1 rfl ?_))
 refine cv_list (.inl ⟨_, rfl⟩) (items_lst l6) (by rw [List.length_map]; (clear hl hvd hi0 hp1 hp2 hln; omega)) fun ha hha => ?_
 have x7 : Ext H6 (upd H6 ha (.lst (LL.map lkv))) := .new hha
 have h7 := upd_self H6 ha (.lst (LL.map lkv))
 generalize upd H6 ha (.lst (LL.map lkv)) = H7 at x7 h7
 have p7 := x7 _ _ p6
 have l7 := x7 _ _ l6
 have d7 := x7 _ _ d6
 have nal : lr ≠ ha := fun e => by rw [e, hha] at l6; cases l6
 have nap : pa ≠ ha := fun e => by rw [e, hha] at p6; cases p6
 have nad : du ≠ ha := fun e => by rw [e, hha] at d6; cases d6
 clear x7 p6 l6 d6 hha
 refine SS_asg ?_
 refine E_fn D.le.fn ?_
 refine c_es2 rfl rfl ?_
 refine least_sets_ct (n := 42) D.W D.so D.wi D.le hw (by decide) p7 h7 hL fun fo H8 x8 hfo f8 => ?_
 have nfp : pa ≠ fo := fun e => by rw [e, hfo] at p7; cases p7
 have nfl : lr ≠ fo := fun e => by rw [e, hfo] at l7; cases l7
 have nfd : du ≠ fo := fun e => by rw [e, hfo] at d7; cases d7
 have nfh : ha ≠ fo := fun e => by rw [e, hfo] at h7; cases h7
 have p8 := x8 _ _ p7
 have l8 := x8 _ _ l7
 have d8 := x8 _ _ d7
 have h8 := x8 _ _ h7
 clear x8 p7 l7 d7 h7 hfo
 refine SS_ife (T_bop (A_or (T_not (T_call ?_))))
 refine E_fn D.ss.fn ?_
 refine c_es2 rfl rfl ?_
 refine sets_same_ct (n := 58) G S D.ss (by have := hml LL; (clear hl hz hvd hi0 hp1 hp2 hll hln nal nap nad nfp nfl nfd nfh; omega)) (fun o ho => by have := hmm LL o ho; (clear hl hz hvd hi0 hp1 hp2 hll hln nal nap nad nfp nfl nfd nfh; omega)) f8 d8 fun H9 x9 => ?_
 have p9 := x9 _ _ p8
 have l9 := x9 _ _ l8
 have d9 := x9 _ _ d8
 have h9 := x9 _ _ h8
 have f9 := x9 _ _ f8
 clear x9 p8 l8 d8 h8 f8
 refine tru_bool (if_nt (A_or (c_tcmp_nn rfl rfl ?_)))
 refine lks_same h9 l9 ?_
 refine tru_bool (if_f (A_nil_or (if_f (SS_app0 (SS_asg ?_)))))
 refine E_fn D.le.fn ?_
 refine c_ess rfl (Es_cons (E_sli (E_nm rfl (E_cn (E_una (E_ci (una_neg (E_cn ?_))))))))
 refine sli_list (items_lst l9) (by rw [List.length_map]; (clear hl hvd hi0 hp1 hp2 hln nal nap nad nfp nfl nfd nfh; omega)) .none (.int _) fun i1 hi1 => ?_
 rw [sl_init, <- List.map_dropLast]
 have xa : Ext H9 (upd H9 i1 (.lst (LL.dropLast.map lkv))) := .new hi1
 refine Es_nil ?_
 refine least_sets_ct (n := 42) D.W D.so D.wi D.le hw (by decide) (xa _ _ p9) (upd_self ..) hL.init fun le H10 x10 hle e10 => ?_
 have xb := xa.trans x10
 have hle9 := xa.gone hle
 have p10 := xb _ _ p9
 have l10 := xb _ _ l9
 have d10 := xb _ _ d9
 have h10 := xb _ _ h9
 have f10 := xb _ _ f9
 have nle : le ≠ fo := fun e => by rw [e, f9] at hle9; cases hle9
 have nlh : le ≠ ha := fun e => by rw [e, h9] at hle9; cases hle9
 clear xb xa x10 hle p9 l9 d9 h9 f9 hi1 hle9
 refine SS_exp (E_meth (E_nm rfl ?_))
 refine ⟨_, mget_append f10, callee_builtin, ?_⟩
 refine Es_cons (E_tup (c_esc1 ?_))
 refine ⟨by decide, cv_append f10 (by rw [List.length_map]; have := hml LL; (clear hl hvd hi0 hp1 hp2 hll hln nal nap nad nfp nfl nfd nfh nle nlh; omega)) ?_⟩
 have f11 : upd H10 fo (.lst ((leastS w LL).map brv ++ [.tup [.int 0]])) fo = some (.lst ((leastS w LL ++ [[0]]).map brv)) := by rw [upd_self, List.map_append]; rfl
 have p11 := (upd_ne (o := .lst ((leastS w LL).map brv ++ [.tup [.int 0]])) nfp).trans p10
 have l11 := (upd_ne (o := .lst ((leastS w LL).map brv ++ [.tup [.int 0]])) nfl).trans l10
 have d11 := (upd_ne (o := .lst ((leastS w LL).map brv ++ [.tup [.int 0]])) nfd).trans d10
 have h11 := (upd_ne (o := .lst ((leastS w LL).map brv ++ [.tup [.int 0]])) nfh).trans h10
 have e11 := (upd_ne (o := .lst ((leastS w LL).map brv ++ [.tup [.int 0]])) nle).trans e10
 generalize upd H10 fo (.lst ((leastS w LL).map brv ++ [.tup [.int 0]])) = H11 at f11 p11 l11 d11 h11 e11
 clear p10 l10 d10 h10 f10 e10
 refine SS_exp (E_meth (E_nm rfl ?_))
 refine ⟨_, mget_l h11 PySem.F.slot_list_clear PySem.F.type_list_clear, callee_builtin, ?_⟩
 refine Es_nil ?_
 refine cv_clear h11 (by rw [List.length_map]; (clear hl hvd hi0 hp1 hp2 hln nal nap nad nfp nfl nfd nfh nle nlh; omega)) ?_
 have f12 := (upd_ne (o := .lst []) (Ne.symm nfh)).trans f11
 have p12 := (upd_ne (o := .lst []) nap).trans p11
 have l12 := (upd_ne (o := .lst []) nal).trans l11
 have d12 := (upd_ne (o := .lst []) nad).trans d11
 have e12 := (upd_ne (o := .lst []) nlh).trans e11
 generalize upd H11 ha (.lst []) = H12 at f12 p12 l12 d12 e12
 clear f11 p11 l11 d11 h11 e11
 refine SS_ife (T_not (T_call ?_))
 refine E_fn D.ss.fn ?_
 refine Es_cons ?_
 refine E_fn D.le.fn ?_
 refine c_es2 rfl rfl ?_
 refine least_sets_ct (n := 42) D.W D.so D.wi D.le hw (by decide) p12 l12 hL fun g1 H13 x13 zz g13 => ?_
 refine c_es1 rfl ?_
 refine sets_same_ct (n := 58) G S D.ss (by have := hml LL; (clear hl hz hvd hi0 hp1 hp2 hll hln nal nap nad nfp nfl nfd nfh nle nlh; omega)) (fun o ho => by have := hmm LL o ho; (clear hl hz hvd hi0 hp1 hp2 hll hln nal nap nad nfp nfl nfd nfh nle nlh; omega)) g13 (x13 _ _ d12) fun H14 x14 => ?_
 have xc := x13.trans x14
 have f14 := xc _ _ f12
 have p14 := xc _ _ p12
 have l14 := xc _ _ l12
 have d14 := xc _ _ d12
 have e14 := xc _ _ e12
 clear xc x13 x14 g13 f12 p12 l12 d12 e12
 refine tru_bool (if_nt (SS_app0 (SS_ret (E_bop (B_and (E_cmp (E_nm rfl (E_bin (E_nm rfl (E_lst (Es_cons (E_tup (c_esc1 ?_)))))))))))))
 refine ⟨by decide, ⟨by decide, fun o1 ho1 => ?_⟩⟩
 refine bin_cat (items_lst ((Ext.new ho1) _ _ d14)) items_new (by rw [List.length_map]; have := hml LL; simp; (clear hl hvd hi0 hp1 hp2 hll hln nal nap nad nfp nfl nfd nfh nle nlh; omega)) fun o2 ho2 => ?_
 have xd := (Ext.new (o := .lst [V.tup [.int 0]]) ho1).more (o := .lst ((leastS w LL).map brv ++ [.tup [.int 0]])) ho2
 have g15 : upd (upd H14 o1 (.lst [.tup [.int 0]])) o2 (.lst ((leastS w LL).map brv ++ [.tup [.int 0]])) o2 = some (.lst ((leastS w LL ++ [[0]]).map brv)) := by rw [upd_self, List.map_append]; rfl
 generalize upd (upd H14 o1 (.lst [.tup [.int 0]])) o2 (.lst ((leastS w LL).map brv ++ [.tup [.int 0]])) = H15 at xd g15
 refine brs_sameE (xd _ _ f14) g15 ?_
 have p15 := xd _ _ p14
 have l15 := xd _ _ l14
 have e15 := xd _ _ e14
 clear xd g15 f14 p14 l14 d14 e14
 refine tru_bool (if_t (B_and (E_cmp ?_)))
 refine E_fn D.le.fn ?_
 refine c_ess rfl (Es_cons (E_sli (E_nm rfl (E_cn (E_una (E_ci (una_neg (E_cn ?_))))))))
 refine sli_list (items_lst l15) (by rw [List.length_map]; (clear hl hvd hi0 hp1 hp2 hln nal nap nad nfp nfl nfd nfh nle nlh; omega)) .none (.int _) fun i2 hi2 => ?_
 rw [sl_init, <- List.map_dropLast]
 have xe : Ext H15 (upd H15 i2 (.lst (LL.dropLast.map lkv))) := .new hi2
 refine Es_nil ?_
 refine least_sets_ct (n := 42) D.W D.so D.wi D.le hw (by decide) (xe _ _ p15) (upd_self ..) hL.init fun g2 H16 x16 zz g16 => ?_
 have xf := xe.trans x16
 refine E_nm rfl ?_
 refine brs_sameE g16 (xf _ _ e15) ?_
 have p16 := xf _ _ p15
 clear xe xf x16 g16 p15 l15 e15
 refine tru_bool (if_t (B_one (E_cmp ?_)))
 refine E_fn D.le.fn ?_
 refine c_ess rfl (Es_cons (E_lst (Es_nil ?_)))
 refine ⟨by decide, fun em hem => ?_⟩
 refine Es_nil ?_
 refine least_sets_ct (LL := []) (n := 42) D.W D.so D.wi D.le hw (by decide) ((Ext.new hem) _ _ p16) (upd_self ..) ⟨(fun zz h => by cases h), by decide⟩ fun g3 H17 x17 zz g17 => ?_
 rw [least_none] at g17
 refine E_lst (Es_cons (E_tup (Es_nil ?_)))
 refine ⟨by decide, ⟨by decide, fun o3 ho3 => ?_⟩⟩
 refine brs_sameE (l := [[]]) ((Ext.new ho3) _ _ g17) (upd_self ..) ?_
 rfl
end
end Vc
end
open PySem PySem.W PyProof.Rows
set_option Elab.async false
set_option maxRecDepth 100000
set_option maxHeartbeats 8000000
namespace Vc
noncomputable def law5_part_vs : Vs := [locv "_law_cell_here", locv "_law_lines", locv "_law_word", locv "_law_taken", locv "_law_k", locv "_law_near"]
noncomputable def law5_due_vs : Vs := [locv "_law_part_here", locv "_law_digits", locv "_law_ring", locv "_law_first"]
noncomputable def law5_run_vs : Vs := [locv "_law_work_here", locv "_law_given_here", locv "_law_told", locv "_law_digits", locv "_law_k"]
noncomputable def law5_given_vs : Vs := [celv "_law_work_here", celv "_law_cell_here", celv "_law_some"]
noncomputable def law5_look_vs : Vs := [locv "_law_work_here", locv "_law_cell_here", locv "_law_more", locv "_law_given_here", locv "_law_many", locv "_law_told", locv "_law_k", locv "_law_place", locv "_law_digits", locv "_law_seen", locv "_law_is_seen", locv "_law_digit"]
noncomputable def law5_looks_vs : Vs := [locv "_law_script", locv "_law_work_here", locv "_law_first", locv "_law_most", locv "_law_found", locv "_law_k", locv "_law_cell_here", locv "_law_more"]
noncomputable def law5_all_vs : Vs := [locv "_law_work_here", locv "_law_given_here", locv "_law_seen", locv "_law_broken", locv "_law_rows", locv "_law_k", locv "_law_line", locv "_law_more", locv "_law_row", locv "_law_digits", locv "_law_digit"]
end Vc
namespace Mine
section
variable {C : Vc.Cx} {P : Params} {mean : ExcName -> Option Value} (G : C.Good) (S : Vc.Std C) (T : Top (Vc.view PySem.Challenge.pw_uf020014_05) [] mean C.mg C.mb C.h0) (KX : (K05 P).In C.h0)
include G KX
theorem wka : Vc.WkA C where
 task := Vc.at_of G KX (by kernel_rfl)
 eyes := Vc.at_of G KX (by kernel_rfl)
 free := Vc.at_of G KX (by kernel_rfl)
 takes := Vc.at_of G KX (by kernel_rfl)
 dead := Vc.at_of G KX (by kernel_rfl)
theorem clsW : Vc.Cls C "Walk" Vc.walk_init_vs 4 Vc.walk_init_b := Vc.cls_of G KX (by kernel_rfl)
theorem mthC : Vc.Mth C "Walk" "choices" Vc.walk_choices_vs 3 Vc.walk_choices_b := Vc.mth_of G KX (by kernel_rfl)
theorem mthG : Vc.Mth C "Walk" "grown" Vc.walk_grown_vs 2 Vc.walk_grown_b := Vc.mth_of G KX (by kernel_rfl)
include T S
theorem wld : Vc.WlD C := ⟨G, S, wka G KX, Vc.def_of T (by kernel_rfl), Vc.def_of T (by kernel_rfl), clsW G KX, mthC G KX, mthG G KX, Vc.def_of T (by kernel_rfl), Vc.def_of T (by kernel_rfl)⟩
theorem lwd : Vc.LwD C := ⟨G, S, ⟨Vc.law5_due_vs, rfl, Vc.def_of T (by kernel_rfl)⟩, ⟨Vc.law5_all_vs, rfl, Vc.def_of T (by kernel_rfl)⟩, Vc.def_of T (by kernel_rfl)⟩
theorem l05 : Vc.L05 C Vc.law5_part_vs Vc.law5_given_vs Vc.law5_run_vs Vc.law5_look_vs Vc.law5_looks_vs where
 W := wld G S T KX
 L := lwd G S T KX
 Z := Vc.g_blt T (by kernel_rfl)
 c := Vc.def_of T (by kernel_rfl)
 m := Vc.def_of T (by kernel_rfl)
 p := Vc.def_of T (by kernel_rfl)
 pv := rfl
 k := Vc.def_of T (by kernel_rfl)
 g := Vc.def_of T (by kernel_rfl)
 gv := rfl
 r := Vc.def_of T (by kernel_rfl)
 rv := rfl
 l := Vc.def_of T (by kernel_rfl)
 lv := rfl
 s := Vc.def_of T (by kernel_rfl)
 sv := rfl
 so := Vc.def_of T (by kernel_rfl)
 wi := Vc.def_of T (by kernel_rfl)
 le := Vc.def_of T (by kernel_rfl)
 su := Vc.def_of T (by kernel_rfl)
 lw := Vc.def_of T (by kernel_rfl)
 ll := Vc.def_of T (by kernel_rfl)
 ss := Vc.def_of T (by kernel_rfl)
 law := Vc.def_of T (by kernel_rfl)
end
theorem main {w : World} {s₁ : Shared} {mg mb : Str -> Option Value} {mean : ExcName -> Option Value} {fa a : Addr} {vs : List Value} {ns : List Int} (T : Top (Vc.view PySem.Challenge.pw_uf020014_05) [] mean mg mb s₁.heap) (KX : (K05 w.params).In s₁.heap)
  (hL : s₁.heap.IsList a vs.toArray) (hI : IntsAre vs ns) (hg : s₁.gens = #[]) (hmg : mg "law" = some (.ref fa)) (hlen : ns.length <= 63) :
  wpAny (Vc.Cx.M ⟨PySem.Challenge.pw_uf020014_05, w, s₁.heap, mg, mb⟩) callerA (call (.ref fa) [.ref a]) (fun v s' => v = .bool true /\ (∀ b o, s₁.heap.get? b = some o -> s'.heap.get? b = some o) /\ s'.gens = #[] /\ s'.os = s₁.os) (fun zz zz => False) s₁ := by
 have GD : Vc.Cx.Good ⟨PySem.Challenge.pw_uf020014_05, w, s₁.heap, mg, mb⟩ := Vc.good_of T
 have SD : Vc.Std ⟨PySem.Challenge.pw_uf020014_05, w, s₁.heap, mg, mb⟩ := Vc.std_of T (by kernel_rfl)
 exact Vc.start (p := PySem.Challenge.pw_uf020014_05) (w := w) (mb := mb) hL hI hg hmg (Vc.law05 (l05 GD SD T KX) hlen)
end Mine
theorem PySem.Challenge.cw_uf020014_05_holds : PySem.Challenge.rw_uf020014_05.Holds := by
 w_on
 refine holds_law Mine.said fun said => ?_
 refine holds_open (q := Vc.view PySem.Challenge.pw_uf020014_05) (loose := []) (Xt := Mine.xt05) (XP := XL (Vc.view PySem.Challenge.pw_uf020014_05) []) (Yf := Hook.obs Mine.hk05) (Ya := Hook.val Mine.hk05) (YP := Hook.says Mine.hk05) (N := 2148) Mine.left (Hook.of Mine.hk05) (Hook.keeps Mine.hk05) (fun s e => xl_of s (Bool.and_eq_true_iff.mp e).1) XL.keeps (by rfl) (by rfl) (by rfl) (fun s e => recFacts_of (Bool.and_eq_true_iff.mp e).2) (by rfl) said (by kernel_rfl) ⟨rfl, rfl, rfl, rfl, rfl, by decide +kernel⟩ ?hw ?hc
 case hw => w_witness2
 intro w s₀ s₁ mg mb G Y fa o pm cd doc dV kV ho hd hcd hD hmg hg args vals as hpre hlay hrd hwl hlo
 have KX := kIn_of Y
 refine Ground.open G ?_
 intro T B D TE TW
 wrow_args hpre hlay hrd hwl hlo
 clear ho hd hcd hD
 rename_i ns _ _ _ _ _ _ _ a vs _ hL _ _ _ hI _ hlen _
 refine wpAny_mono (Mine.main T KX hL hI hg hmg (by omega)) (fun v s' h => ?_) fun zz zz h => h.elim
 refine Vc.xa_0_4 h fun hr135_0 k g os => ?_
 try clear h
 subst hr135_0
 exact Vc.good_true k g os (by intro cls; rfl) (by first | rfl | wrow_post)
