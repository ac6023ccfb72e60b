import PyProof.Rows.All
import Wide.All
import Open.Line
import Wide.FinOn
import OpenK.KWalk
import PyProof.TupleIter
import PyProof.RulesTry
import PyProof.TupleKey
import PyProof.DictKinds
import PyProof.DictRoadsH
import PyProof.CompFree
import PyProof.CompMap
import PyProof.Cells
import PyProof.DefCall
import PyProof.ForAny
import PyProof.RaisesMany
import PyProof.RangeIter
import PyProof.DictList
import PyProof.RulesAssignMore
import PyProof.WalksMore
import PyProof.StrWalks
import PyProof.EnumMake
import PyProof.WalksPairs
import PyProof.DictTable
import PyProof.LetGo
import PyProof.Rules2
import PyProof.Rules3
import PyProof.EvalArms
import PyProof.DictStraight
import PyProof.EnumFor
import PyProof.ZipIter
import PyProof.RulesAs
import PyProof.NsDelKeeps
import PyProof.AssignAttr
import KE.KTryMore
import OpenK.KMake
import PyProof.ExcBaseAll.ValueError
import PyProof.ExcClass2
import KE.KDictOf
import PyProof.SetKind
import PyProof.SetRoads
import PyProof.SetNew
import PyProof.Walks
import PyProof.CollectIter
import PyProof.TupleOfSeq
import PyProof.Rows.SortWalk
import PyProof.ListRange
import PyProof.AutoSeq1
import PyProof.Rows.ExtendIn
import PyProof.Rows.MinMaxN
import KE.KFind
import KE.KSetAt
import KE.KIntText
import PyProof.CallStr
import PyProof.StrBlockH
import PyProof.StrCalls
import PyProof.StrCalls2
import PyProof.Rows.StrRules
import PyProof.StrLawsIn
import PyProof.FitsReplace
import PyProof.StrLawsOccR
import PyProof.SliceStr2
import PyProof.SliceList
import PyProof.StrBlockI
import PyProof.StrCaseBound
import PyProof.Rows.StrLast
import PyProof.StrLawsChain
import PyProof.StrLawsTight
import PyProof.StrBlockL
import PySem.Challenge.RW_uf020014_14
set_option Elab.async false
set_option bootstrap.genMatcherCode false
set_option autoImplicit false
set_option linter.unusedVariables false
namespace Vc
theorem xa_0_2 {p0 p1 G : Prop} (h : p0 /\ p1) (f : p0 -> p1 -> G) : G := by obtain ⟨h0, h1⟩ := h; exact f h0 h1
theorem xa_0_3 {p0 p1 p2 G : Prop} (h : p0 /\ p1 /\ p2) (f : p0 -> p1 -> p2 -> G) : G := by obtain ⟨h0, h1, h2⟩ := h; exact f h0 h1 h2
theorem xa_0_4 {p0 p1 p2 p3 G : Prop} (h : p0 /\ p1 /\ p2 /\ p3) (f : p0 -> p1 -> p2 -> p3 -> G) : G := by obtain ⟨h0, h1, h2, h3⟩ := h; exact f h0 h1 h2 h3
theorem xa_0_5 {p0 p1 p2 p3 p4 G : Prop} (h : p0 /\ p1 /\ p2 /\ p3 /\ p4) (f : p0 -> p1 -> p2 -> p3 -> p4 -> G) : G := by obtain ⟨h0, h1, h2, h3, h4⟩ := h; exact f h0 h1 h2 h3 h4
theorem xa_0_6 {p0 p1 p2 p3 p4 p5 G : Prop} (h : p0 /\ p1 /\ p2 /\ p3 /\ p4 /\ p5) (f : p0 -> p1 -> p2 -> p3 -> p4 -> p5 -> G) : G := by obtain ⟨h0, h1, h2, h3, h4, h5⟩ := h; exact f h0 h1 h2 h3 h4 h5
theorem xa_1_1.{u0} {A0 : Sort u0} {p0 : A0 -> Prop} {G : Prop} (h : ∃ a0, p0 a0) (f : ∀ a0, p0 a0 -> G) : G := by obtain ⟨a0, h0⟩ := h; exact f a0 h0
theorem xa_1_2.{u0} {A0 : Sort u0} {p0 p1 : A0 -> Prop} {G : Prop} (h : ∃ a0, p0 a0 /\ p1 a0) (f : ∀ a0, p0 a0 -> p1 a0 -> G) : G := by obtain ⟨a0, h0, h1⟩ := h; exact f a0 h0 h1
theorem xa_1_3.{u0} {A0 : Sort u0} {p0 p1 p2 : A0 -> Prop} {G : Prop} (h : ∃ a0, p0 a0 /\ p1 a0 /\ p2 a0) (f : ∀ a0, p0 a0 -> p1 a0 -> p2 a0 -> G) : G := by obtain ⟨a0, h0, h1, h2⟩ := h; exact f a0 h0 h1 h2
theorem xa_1_4.{u0} {A0 : Sort u0} {p0 p1 p2 p3 : A0 -> Prop} {G : Prop} (h : ∃ a0, p0 a0 /\ p1 a0 /\ p2 a0 /\ p3 a0) (f : ∀ a0, p0 a0 -> p1 a0 -> p2 a0 -> p3 a0 -> G) : G := by obtain ⟨a0, h0, h1, h2, h3⟩ := h; exact f a0 h0 h1 h2 h3
theorem xa_1_5.{u0} {A0 : Sort u0} {p0 p1 p2 p3 p4 : A0 -> Prop} {G : Prop} (h : ∃ a0, p0 a0 /\ p1 a0 /\ p2 a0 /\ p3 a0 /\ p4 a0) (f : ∀ a0, p0 a0 -> p1 a0 -> p2 a0 -> p3 a0 -> p4 a0 -> G) : G := by obtain ⟨a0, h0, h1, h2, h3, h4⟩ := h; exact f a0 h0 h1 h2 h3 h4
theorem xa_2_1.{u0, u1} {A0 : Sort u0} {A1 : Sort u1} {p0 : A0 -> A1 -> Prop} {G : Prop} (h : ∃ a0 a1, p0 a0 a1) (f : ∀ a0 a1, p0 a0 a1 -> G) : G := by obtain ⟨a0, a1, h0⟩ := h; exact f a0 a1 h0
theorem xa_2_2.{u0, u1} {A0 : Sort u0} {A1 : Sort u1} {p0 p1 : A0 -> A1 -> Prop} {G : Prop} (h : ∃ a0 a1, p0 a0 a1 /\ p1 a0 a1) (f : ∀ a0 a1, p0 a0 a1 -> p1 a0 a1 -> G) : G := by obtain ⟨a0, a1, h0, h1⟩ := h; exact f a0 a1 h0 h1
theorem xa_2_3.{u0, u1} {A0 : Sort u0} {A1 : Sort u1} {p0 p1 p2 : A0 -> A1 -> Prop} {G : Prop} (h : ∃ a0 a1, p0 a0 a1 /\ p1 a0 a1 /\ p2 a0 a1) (f : ∀ a0 a1, p0 a0 a1 -> p1 a0 a1 -> p2 a0 a1 -> G) : G := by obtain ⟨a0, a1, h0, h1, h2⟩ := h; exact f a0 a1 h0 h1 h2
theorem xa_2_4.{u0, u1} {A0 : Sort u0} {A1 : Sort u1} {p0 p1 p2 p3 : A0 -> A1 -> Prop} {G : Prop} (h : ∃ a0 a1, p0 a0 a1 /\ p1 a0 a1 /\ p2 a0 a1 /\ p3 a0 a1) (f : ∀ a0 a1, p0 a0 a1 -> p1 a0 a1 -> p2 a0 a1 -> p3 a0 a1 -> G) : G := by obtain ⟨a0, a1, h0, h1, h2, h3⟩ := h; exact f a0 a1 h0 h1 h2 h3
theorem xa_2_5.{u0, u1} {A0 : Sort u0} {A1 : Sort u1} {p0 p1 p2 p3 p4 : A0 -> A1 -> Prop} {G : Prop} (h : ∃ a0 a1, p0 a0 a1 /\ p1 a0 a1 /\ p2 a0 a1 /\ p3 a0 a1 /\ p4 a0 a1) (f : ∀ a0 a1, p0 a0 a1 -> p1 a0 a1 -> p2 a0 a1 -> p3 a0 a1 -> p4 a0 a1 -> G) : G := by obtain ⟨a0, a1, h0, h1, h2, h3, h4⟩ := h; exact f a0 a1 h0 h1 h2 h3 h4
theorem xa_3_1.{u0, u1, u2} {A0 : Sort u0} {A1 : Sort u1} {A2 : Sort u2} {p0 : A0 -> A1 -> A2 -> Prop} {G : Prop} (h : ∃ a0 a1 a2, p0 a0 a1 a2) (f : ∀ a0 a1 a2, p0 a0 a1 a2 -> G) : G := by obtain ⟨a0, a1, a2, h0⟩ := h; exact f a0 a1 a2 h0
theorem xa_3_2.{u0, u1, u2} {A0 : Sort u0} {A1 : Sort u1} {A2 : Sort u2} {p0 p1 : A0 -> A1 -> A2 -> Prop} {G : Prop} (h : ∃ a0 a1 a2, p0 a0 a1 a2 /\ p1 a0 a1 a2) (f : ∀ a0 a1 a2, p0 a0 a1 a2 -> p1 a0 a1 a2 -> G) : G := by obtain ⟨a0, a1, a2, h0, h1⟩ := h; exact f a0 a1 a2 h0 h1
theorem xa_3_3.{u0, u1, u2} {A0 : Sort u0} {A1 : Sort u1} {A2 : Sort u2} {p0 p1 p2 : A0 -> A1 -> A2 -> Prop} {G : Prop} (h : ∃ a0 a1 a2, p0 a0 a1 a2 /\ p1 a0 a1 a2 /\ p2 a0 a1 a2) (f : ∀ a0 a1 a2, p0 a0 a1 a2 -> p1 a0 a1 a2 -> p2 a0 a1 a2 -> G) : G := by obtain ⟨a0, a1, a2, h0, h1, h2⟩ := h; exact f a0 a1 a2 h0 h1 h2
theorem xa_3_4.{u0, u1, u2} {A0 : Sort u0} {A1 : Sort u1} {A2 : Sort u2} {p0 p1 p2 p3 : A0 -> A1 -> A2 -> Prop} {G : Prop} (h : ∃ a0 a1 a2, p0 a0 a1 a2 /\ p1 a0 a1 a2 /\ p2 a0 a1 a2 /\ p3 a0 a1 a2) (f : ∀ a0 a1 a2, p0 a0 a1 a2 -> p1 a0 a1 a2 -> p2 a0 a1 a2 -> p3 a0 a1 a2 -> G) : G := by obtain ⟨a0, a1, a2, h0, h1, h2, h3⟩ := h; exact f a0 a1 a2 h0 h1 h2 h3
theorem xa_3_5.{u0, u1, u2} {A0 : Sort u0} {A1 : Sort u1} {A2 : Sort u2} {p0 p1 p2 p3 p4 : A0 -> A1 -> A2 -> Prop} {G : Prop} (h : ∃ a0 a1 a2, p0 a0 a1 a2 /\ p1 a0 a1 a2 /\ p2 a0 a1 a2 /\ p3 a0 a1 a2 /\ p4 a0 a1 a2) (f : ∀ a0 a1 a2, p0 a0 a1 a2 -> p1 a0 a1 a2 -> p2 a0 a1 a2 -> p3 a0 a1 a2 -> p4 a0 a1 a2 -> G) : G := by obtain ⟨a0, a1, a2, h0, h1, h2, h3, h4⟩ := h; exact f a0 a1 a2 h0 h1 h2 h3 h4
theorem xa_3_6.{u0, u1, u2} {A0 : Sort u0} {A1 : Sort u1} {A2 : Sort u2} {p0 p1 p2 p3 p4 p5 : A0 -> A1 -> A2 -> Prop} {G : Prop} (h : ∃ a0 a1 a2, p0 a0 a1 a2 /\ p1 a0 a1 a2 /\ p2 a0 a1 a2 /\ p3 a0 a1 a2 /\ p4 a0 a1 a2 /\ p5 a0 a1 a2) (f : ∀ a0 a1 a2, p0 a0 a1 a2 -> p1 a0 a1 a2 -> p2 a0 a1 a2 -> p3 a0 a1 a2 -> p4 a0 a1 a2 -> p5 a0 a1 a2 -> G) : G := by obtain ⟨a0, a1, a2, h0, h1, h2, h3, h4, h5⟩ := h; exact f a0 a1 a2 h0 h1 h2 h3 h4 h5
theorem xa_3_7.{u0, u1, u2} {A0 : Sort u0} {A1 : Sort u1} {A2 : Sort u2} {p0 p1 p2 p3 p4 p5 p6 : A0 -> A1 -> A2 -> Prop} {G : Prop} (h : ∃ a0 a1 a2, p0 a0 a1 a2 /\ p1 a0 a1 a2 /\ p2 a0 a1 a2 /\ p3 a0 a1 a2 /\ p4 a0 a1 a2 /\ p5 a0 a1 a2 /\ p6 a0 a1 a2) (f : ∀ a0 a1 a2, p0 a0 a1 a2 -> p1 a0 a1 a2 -> p2 a0 a1 a2 -> p3 a0 a1 a2 -> p4 a0 a1 a2 -> p5 a0 a1 a2 -> p6 a0 a1 a2 -> G) : G := by obtain ⟨a0, a1, a2, h0, h1, h2, h3, h4, h5, h6⟩ := h; exact f a0 a1 a2 h0 h1 h2 h3 h4 h5 h6
theorem xa_4_1.{u0, u1, u2, u3} {A0 : Sort u0} {A1 : Sort u1} {A2 : Sort u2} {A3 : Sort u3} {p0 : A0 -> A1 -> A2 -> A3 -> Prop} {G : Prop} (h : ∃ a0 a1 a2 a3, p0 a0 a1 a2 a3) (f : ∀ a0 a1 a2 a3, p0 a0 a1 a2 a3 -> G) : G := by obtain ⟨a0, a1, a2, a3, h0⟩ := h; exact f a0 a1 a2 a3 h0
theorem xa_4_2.{u0, u1, u2, u3} {A0 : Sort u0} {A1 : Sort u1} {A2 : Sort u2} {A3 : Sort u3} {p0 p1 : A0 -> A1 -> A2 -> A3 -> Prop} {G : Prop} (h : ∃ a0 a1 a2 a3, p0 a0 a1 a2 a3 /\ p1 a0 a1 a2 a3) (f : ∀ a0 a1 a2 a3, p0 a0 a1 a2 a3 -> p1 a0 a1 a2 a3 -> G) : G := by obtain ⟨a0, a1, a2, a3, h0, h1⟩ := h; exact f a0 a1 a2 a3 h0 h1
theorem xa_4_3.{u0, u1, u2, u3} {A0 : Sort u0} {A1 : Sort u1} {A2 : Sort u2} {A3 : Sort u3} {p0 p1 p2 : A0 -> A1 -> A2 -> A3 -> Prop} {G : Prop} (h : ∃ a0 a1 a2 a3, p0 a0 a1 a2 a3 /\ p1 a0 a1 a2 a3 /\ p2 a0 a1 a2 a3) (f : ∀ a0 a1 a2 a3, p0 a0 a1 a2 a3 -> p1 a0 a1 a2 a3 -> p2 a0 a1 a2 a3 -> G) : G := by obtain ⟨a0, a1, a2, a3, h0, h1, h2⟩ := h; exact f a0 a1 a2 a3 h0 h1 h2
theorem xa_4_5.{u0, u1, u2, u3} {A0 : Sort u0} {A1 : Sort u1} {A2 : Sort u2} {A3 : Sort u3} {p0 p1 p2 p3 p4 : A0 -> A1 -> A2 -> A3 -> Prop} {G : Prop} (h : ∃ a0 a1 a2 a3, p0 a0 a1 a2 a3 /\ p1 a0 a1 a2 a3 /\ p2 a0 a1 a2 a3 /\ p3 a0 a1 a2 a3 /\ p4 a0 a1 a2 a3) (f : ∀ a0 a1 a2 a3, p0 a0 a1 a2 a3 -> p1 a0 a1 a2 a3 -> p2 a0 a1 a2 a3 -> p3 a0 a1 a2 a3 -> p4 a0 a1 a2 a3 -> G) : G := by obtain ⟨a0, a1, a2, a3, h0, h1, h2, h3, h4⟩ := h; exact f a0 a1 a2 a3 h0 h1 h2 h3 h4
theorem xa_5_4.{u0, u1, u2, u3, u4} {A0 : Sort u0} {A1 : Sort u1} {A2 : Sort u2} {A3 : Sort u3} {A4 : Sort u4} {p0 p1 p2 p3 : A0 -> A1 -> A2 -> A3 -> A4 -> Prop} {G : Prop} (h : ∃ a0 a1 a2 a3 a4, p0 a0 a1 a2 a3 a4 /\ p1 a0 a1 a2 a3 a4 /\ p2 a0 a1 a2 a3 a4 /\ p3 a0 a1 a2 a3 a4) (f : ∀ a0 a1 a2 a3 a4, p0 a0 a1 a2 a3 a4 -> p1 a0 a1 a2 a3 a4 -> p2 a0 a1 a2 a3 a4 -> p3 a0 a1 a2 a3 a4 -> G) : G := by obtain ⟨a0, a1, a2, a3, a4, h0, h1, h2, h3⟩ := h; exact f a0 a1 a2 a3 a4 h0 h1 h2 h3
theorem xa_5_5.{u0, u1, u2, u3, u4} {A0 : Sort u0} {A1 : Sort u1} {A2 : Sort u2} {A3 : Sort u3} {A4 : Sort u4} {p0 p1 p2 p3 p4 : A0 -> A1 -> A2 -> A3 -> A4 -> Prop} {G : Prop} (h : ∃ a0 a1 a2 a3 a4, p0 a0 a1 a2 a3 a4 /\ p1 a0 a1 a2 a3 a4 /\ p2 a0 a1 a2 a3 a4 /\ p3 a0 a1 a2 a3 a4 /\ p4 a0 a1 a2 a3 a4) (f : ∀ a0 a1 a2 a3 a4, p0 a0 a1 a2 a3 a4 -> p1 a0 a1 a2 a3 a4 -> p2 a0 a1 a2 a3 a4 -> p3 a0 a1 a2 a3 a4 -> p4 a0 a1 a2 a3 a4 -> G) : G := by obtain ⟨a0, a1, a2, a3, a4, h0, h1, h2, h3, h4⟩ := h; exact f a0 a1 a2 a3 a4 h0 h1 h2 h3 h4
theorem xi_3_5.{u0, u1, u2} {A0 : Sort u0} {A1 : Sort u1} {A2 : Sort u2} {p0 p1 p2 p3 p4 : A0 -> A1 -> A2 -> Prop} (a0 : A0) (a1 : A1) (a2 : A2) (h0 : p0 a0 a1 a2) (h1 : p1 a0 a1 a2) (h2 : p2 a0 a1 a2) (h3 : p3 a0 a1 a2) (h4 : p4 a0 a1 a2)  : ∃ a0 a1 a2, p0 a0 a1 a2 /\ p1 a0 a1 a2 /\ p2 a0 a1 a2 /\ p3 a0 a1 a2 /\ p4 a0 a1 a2 := ⟨a0, a1, a2, h0, h1, h2, h3, h4⟩
end Vc
namespace Vc
open PySem PySem.W in
noncomputable def ke (P : Params) (x : String) (t : Nat) (v : Value) : DictEntry := ⟨PyData.keyHash P (Str.ofString x), .str (Str.ofString x) t, v⟩
end Vc
section
namespace Vc
open PySem PyProof.Rows
noncomputable def isNm : Stmt -> Bool
 | .Assign [.Name x _] _ _ => x == Str.ofString "__name__"
 | _ => false
noncomputable def view (p : Program) : Program := { p with main := { p.main with body := p.main.body.filter (fun t => !isNm t) } }
end Vc
end
section
open PySem PySem.W PyProof.Rows
set_option maxRecDepth 100000
set_option maxHeartbeats 8000000
namespace Mine
noncomputable def K14 (P : Params) : Frag := [
 (3, { cls := Value.type "dict", data := Data.dict #[Vc.ke P "__name__" 165 (Value.str (Str.ofString "law_uf020014_14") 401), Vc.ke P "__doc__" 166 (Value.none), Vc.ke P "__package__" 167 (Value.none), Vc.ke P "__loader__" 168 (Value.builtin "__main__.__loader__#opaque"), Vc.ke P "__spec__" 169 (Value.none), Vc.ke P "__annotations__" 170 (Value.ref 6), Vc.ke P "__builtins__" 171 (Value.ref 4), Vc.ke P "__file__" 173 (Value.str (Str.ofString "/claim/cut.py") 172), Vc.ke P "__cached__" 174 (Value.none), Vc.ke P "WorkError" 206 (Value.ref 24), Vc.ke P "BadWork" 222 (Value.ref 37), Vc.ke P "BadGiven" 238 (Value.ref 49), Vc.ke P "BadLook" 254 (Value.ref 61), Vc.ke P "BadSet" 270 (Value.ref 73), Vc.ke P "HasRoom" 286 (Value.ref 85), Vc.ke P "NoLine" 302 (Value.ref 97), Vc.ke P "NoLook" 318 (Value.ref 109), Vc.ke P "BadText" 334 (Value.ref 121), Vc.ke P "MOST_RING" 338 (Value.int 5 337), Vc.ke P "MOST_INPUTS" 340 (Value.int 6 339), Vc.ke P "MOST_PARTS" 342 (Value.int 10 341), Vc.ke P "is_among" 351 (Value.ref 130), Vc.ke P "lines_of" 358 (Value.ref 137), Vc.ke P "is_part" 364 (Value.ref 142), Vc.ke P "need_work" 376 (Value.ref 149), Vc.ke P "FIGURES" 380 (Value.str (Str.ofString "0123456789") 379), Vc.ke P "MOST_FIGURES" 382 (Value.int 2 381), Vc.ke P "written" 388 (Value.ref 154), Vc.ke P "number_of" 394 (Value.ref 159), Vc.ke P "read" 400 (Value.ref 164), Vc.ke P "_law_cell" 410 (Value.ref 171), Vc.ke P "_law_mixed" 418 (Value.ref 178), Vc.ke P "_law_whole" 425 (Value.ref 185), Vc.ke P "_law_part" 437 (Value.ref 192), Vc.ke P "_law_work" 443 (Value.ref 197), Vc.ke P "_law_word" 449 (Value.ref 202), Vc.ke P "_law_text" 460 (Value.ref 209), Vc.ke P "_law_sign" 468 (Value.ref 216), Vc.ke P "_law_changed" 480 (Value.ref 223), Vc.ke P "_law_numbers" 486 (Value.ref 228), Vc.ke P "_law_look_at" 492 (Value.ref 233), Vc.ke P "_law_same" 498 (Value.ref 238), Vc.ke P "law" 512 (Value.ref 245)] 43 }),
 (23, { cls := Value.type "dict", data := Data.dict #[Vc.ke P "__module__" 196 (Value.str (Str.ofString "whichbroke.errors") 187), Vc.ke P "__firstlineno__" 200 (Value.int 2 199), Vc.ke P "__static_attributes__" 201 (Value.ref 22), Vc.ke P "__weakref__" 203 (Value.ref 25), Vc.ke P "__doc__" 204 (Value.none)] 3 }),
 (24, { cls := Value.type "type", data := Data.cls { name := Str.ofString "WorkError", bases := [Value.type "ValueError"], mro := [Value.ref 24, Value.type "ValueError", Value.type "Exception", Value.type "BaseException", Value.type "object"], ns := 23, qualname := Str.ofString "WorkError", subclasses := [Value.ref 37, Value.ref 49, Value.ref 61, Value.ref 73, Value.ref 85, Value.ref 97, Value.ref 109, Value.ref 121] }, slots := #[some (Value.ref 15), none, some (Value.str (Str.ofString "WorkError") 189), some (Value.str (Str.ofString "WorkError") 197), some (Value.builtin "ValueError.__new__"), some (Value.bool true)] }),
 (36, { cls := Value.type "dict", data := Data.dict #[Vc.ke P "__module__" 214 (Value.str (Str.ofString "whichbroke.errors") 187), Vc.ke P "__firstlineno__" 218 (Value.int 4 217), Vc.ke P "__static_attributes__" 219 (Value.ref 35), Vc.ke P "__doc__" 220 (Value.none)] 2 }),
 (37, { cls := Value.type "type", data := Data.cls { name := Str.ofString "BadWork", bases := [Value.ref 24], mro := [Value.ref 37, Value.ref 24, Value.type "ValueError", Value.type "Exception", Value.type "BaseException", Value.type "object"], ns := 36, qualname := Str.ofString "BadWork" }, slots := #[some (Value.ref 28), none, some (Value.str (Str.ofString "BadWork") 207), some (Value.str (Str.ofString "BadWork") 215), some (Value.builtin "ValueError.__new__"), some (Value.bool true)] }),
 (49, { cls := Value.type "type", data := Data.cls { name := Str.ofString "BadGiven", bases := [Value.ref 24], mro := [Value.ref 49, Value.ref 24, Value.type "ValueError", Value.type "Exception", Value.type "BaseException", Value.type "object"], ns := 48, qualname := Str.ofString "BadGiven" }, slots := #[some (Value.ref 40), none, some (Value.str (Str.ofString "BadGiven") 223), some (Value.str (Str.ofString "BadGiven") 231), some (Value.builtin "ValueError.__new__"), some (Value.bool true)] }),
 (61, { cls := Value.type "type", data := Data.cls { name := Str.ofString "BadLook", bases := [Value.ref 24], mro := [Value.ref 61, Value.ref 24, Value.type "ValueError", Value.type "Exception", Value.type "BaseException", Value.type "object"], ns := 60, qualname := Str.ofString "BadLook" }, slots := #[some (Value.ref 52), none, some (Value.str (Str.ofString "BadLook") 239), some (Value.str (Str.ofString "BadLook") 247), some (Value.builtin "ValueError.__new__"), some (Value.bool true)] }),
 (73, { cls := Value.type "type", data := Data.cls { name := Str.ofString "BadSet", bases := [Value.ref 24], mro := [Value.ref 73, Value.ref 24, Value.type "ValueError", Value.type "Exception", Value.type "BaseException", Value.type "object"], ns := 72, qualname := Str.ofString "BadSet" }, slots := #[some (Value.ref 64), none, some (Value.str (Str.ofString "BadSet") 255), some (Value.str (Str.ofString "BadSet") 263), some (Value.builtin "ValueError.__new__"), some (Value.bool true)] }),
 (85, { cls := Value.type "type", data := Data.cls { name := Str.ofString "HasRoom", bases := [Value.ref 24], mro := [Value.ref 85, Value.ref 24, Value.type "ValueError", Value.type "Exception", Value.type "BaseException", Value.type "object"], ns := 84, qualname := Str.ofString "HasRoom" }, slots := #[some (Value.ref 76), none, some (Value.str (Str.ofString "HasRoom") 271), some (Value.str (Str.ofString "HasRoom") 279), some (Value.builtin "ValueError.__new__"), some (Value.bool true)] }),
 (97, { cls := Value.type "type", data := Data.cls { name := Str.ofString "NoLine", bases := [Value.ref 24], mro := [Value.ref 97, Value.ref 24, Value.type "ValueError", Value.type "Exception", Value.type "BaseException", Value.type "object"], ns := 96, qualname := Str.ofString "NoLine" }, slots := #[some (Value.ref 88), none, some (Value.str (Str.ofString "NoLine") 287), some (Value.str (Str.ofString "NoLine") 295), some (Value.builtin "ValueError.__new__"), some (Value.bool true)] }),
 (109, { cls := Value.type "type", data := Data.cls { name := Str.ofString "NoLook", bases := [Value.ref 24], mro := [Value.ref 109, Value.ref 24, Value.type "ValueError", Value.type "Exception", Value.type "BaseException", Value.type "object"], ns := 108, qualname := Str.ofString "NoLook" }, slots := #[some (Value.ref 100), none, some (Value.str (Str.ofString "NoLook") 303), some (Value.str (Str.ofString "NoLook") 311), some (Value.builtin "ValueError.__new__"), some (Value.bool true)] }),
 (120, { cls := Value.type "dict", data := Data.dict #[Vc.ke P "__module__" 326 (Value.str (Str.ofString "whichbroke.errors") 187), Vc.ke P "__firstlineno__" 330 (Value.int 18 329), Vc.ke P "__static_attributes__" 331 (Value.ref 119), Vc.ke P "__doc__" 332 (Value.none)] 2 }),
 (121, { cls := Value.type "type", data := Data.cls { name := Str.ofString "BadText", bases := [Value.ref 24], mro := [Value.ref 121, Value.ref 24, Value.type "ValueError", Value.type "Exception", Value.type "BaseException", Value.type "object"], ns := 120, qualname := Str.ofString "BadText" }, slots := #[some (Value.ref 112), none, some (Value.str (Str.ofString "BadText") 319), some (Value.str (Str.ofString "BadText") 327), some (Value.builtin "ValueError.__new__"), some (Value.bool true)] })]
noncomputable def as14 : List Addr := [3, 23, 24, 36, 37, 49, 61, 73, 85, 97, 109, 120, 121]
theorem as14_e : ∀ P, as14 = (K14 P).map (·.1) := fun zz => rfl
noncomputable abbrev hk14 : Hook := kHook K14 as14 as14_e
noncomputable abbrev xt14 : Shared -> Bool := fun s => xlAt (Vc.view PySem.Challenge.pw_uf020014_14) [] s && recOk (RowW.records PySem.Challenge.rw_uf020014_14.row.toRowW) s
theorem runA : ∀ w, (openEnds treeTable PySem.Challenge.pw_uf020014_14 w 5236).map (fun s => (openSeen (Vc.view PySem.Challenge.pw_uf020014_14) [] (importedModules PySem.Challenge.pw_uf020014_14.main.body) xt14 true s).2) = some ((openGood (Vc.view PySem.Challenge.pw_uf020014_14) []).2) := fun w => by kernel_rfl
theorem runB : ∀ w, (openEnds treeTable PySem.Challenge.pw_uf020014_14 w 5236).map (fun s => (openSeen (Vc.view PySem.Challenge.pw_uf020014_14) [] (importedModules PySem.Challenge.pw_uf020014_14.main.body) xt14 true s).1) = some ((openGood (Vc.view PySem.Challenge.pw_uf020014_14) []).1) := fun w => by kernel_rfl
theorem runC : ∀ w, (openEnds treeTable PySem.Challenge.pw_uf020014_14 w 5236).map (fun s => Hook.obs hk14 s) = some (Hook.val hk14 w) := fun w => by kernel_rfl
theorem left : LeftO PySem.Challenge.pw_uf020014_14 (Vc.view PySem.Challenge.pw_uf020014_14) [] xt14 (Hook.obs hk14) (Hook.val hk14) 5236 := fun w => by
 have c := runC w
 have b := runB w
 refine Vc.xa_1_2 (Option.map_eq_some_iff.mp (runA w)) fun s h1 h2 => ?_
 rw [h1] at b c ⊢
 exact congrArg some (Prod.ext (Prod.ext (Option.some.inj b) h2) (Option.some.inj c))
theorem said : PySem.Challenge.rw_uf020014_14.wellSaid = true := by kernel_rfl
end Mine
end
section
namespace Vc
open PySem
noncomputable def Ctx (h : Heap) (vs : Array Value) : Prop := vs[2]? = some .none ∨ ∃ b o ws r, vs[2]? = some (.ref b) /\ h.get? b = some o /\ o.cls = .ref r /\ o.data = .fields ws /\ ws[2]? = some .none
noncomputable def CtxC (c : String) (h : Heap) (vs : Array Value) : Prop := vs[2]? = some .none ∨ (c = "BadText" /\ Ctx h vs)
theorem CtxC.ctx {c : String} {h : Heap} {vs : Array Value} (x : CtxC c h vs) : Ctx h vs := x.elim .inl (·.2)
noncomputable def Hd1 (A : Around) (h : Heap) : Prop :=
 A.handled = none ∨ ∃ a o vs r, A.handled = some (.ref a) /\ h.get? a = some o /\ o.cls = .ref r /\ o.data = .fields vs /\ Ctx h vs
theorem Hd1.ext {A : Around} {h h' : Heap} {i : Addr} (x : Hd1 A h) (e : Heap.ExtBut i h h') (hi : ∀ o r, h.get? i = some o -> o.cls ≠ .ref r) : Hd1 A h' := by
 rcases x with x | ⟨a, o, vs, r, x1, x2, x3, x4, x5⟩
 ·exact .inl x
 ·refine .inr ⟨a, o, vs, r, x1, e a o (fun q => ?_) x2, x3, x4, x5.imp id fun ⟨b, o', ws, r', y1, y2, y3, y4⟩ => ⟨b, o', ws, r', y1, e b o' (fun q => ?_) y2, y3, y4⟩⟩
  ·subst q; exact hi o r x2 x3
  ·subst q; exact hi o' r' y2 y3
theorem entry_unchain : entryFor table "proto.unchain" = some Builtin.«proto.unchain» := by
 exact entryFor_of_tree (by kernel_rfl)
section
variable {prog : Program} {w : World} {A : Around} {E : Value -> Shared -> Prop} {s : Shared}
theorem unchain {a b : Addr} {o : Obj} {vs : Array Value} {Q : Value -> Shared -> Prop} (ho : s.heap.get? b = some o) (hd : o.data = .fields vs) (h2 : vs[2]? = some .none) (hQ : Q .none s) :
  wpAny (model prog w) A (runValue (.builtin "proto.unchain" ⟨[.ref a, .ref b, .ref b, .bool false], []⟩)) Q E s := by
 refine wpAny_runValue (codeAny_builtin entry_unchain ?_)
 unfold Builtin.«proto.unchain»
 refine wpAny_bind (wpAny_field ho hd h2 ?_)
 exact wpAny_pure hQ
theorem unchain2 {a b b2 : Addr} {o o2 : Obj} {vs ws : Array Value} {Q : Value -> Shared -> Prop} (ho : s.heap.get? b = some o) (hd : o.data = .fields vs) (h2 : vs[2]? = some (.ref b2))
  (ho2 : s.heap.get? b2 = some o2) (hd2 : o2.data = .fields ws) (h22 : ws[2]? = some .none) (hab : b2 ≠ a) (hbb : b2 ≠ b) (hQ : Q .none s) :
  wpAny (model prog w) A (runValue (.builtin "proto.unchain" ⟨[.ref a, .ref b, .ref b, .bool false], []⟩)) Q E s := by
 refine wpAny_runValue (codeAny_builtin entry_unchain ?_)
 unfold Builtin.«proto.unchain»
 refine wpAny_bind (wpAny_field ho hd h2 ?_)
 rw [if_neg (show ¬ ((Value.ref b2 == Value.none) = true) from Bool.false_ne_true), if_neg (by simpa using hab), if_neg (by simpa using hbb)]
 refine wpAny_bind (wpAny_pure (wpAny_pure ?_))
 refine ⟨Code.quiet_builtin _ (by decide +kernel), codeAny_builtin entry_unchain ?_⟩
 unfold Builtin.«proto.unchain»
 refine wpAny_bind (wpAny_field ho2 hd2 h22 ?_)
 exact wpAny_pure hQ
theorem unchainC {a b : Addr} {h : Heap} {o : Obj} {vs : Array Value} {Q : Value -> Shared -> Prop} (k : ∀ b o, h.get? b = some o -> s.heap.get? b = some o) (ha : h.get? a = none) (ho : h.get? b = some o) (hd : o.data = .fields vs) (hc : Ctx h vs) (hQ : Q .none s) :
  wpAny (model prog w) A (runValue (.builtin "proto.unchain" ⟨[.ref a, .ref b, .ref b, .bool false], []⟩)) Q E s := by
 rcases hc with h2 | ⟨b2, o2, ws, r, h2, ho2, _, hd2, h22⟩
 ·exact unchain (k _ _ ho) hd h2 hQ
 ·refine unchain2 (k _ _ ho) hd h2 (k _ _ ho2) hd2 h22 (fun e => ?_) (fun e => ?_) hQ
  ·subst e; rw [ha] at ho2; cases ho2
  ·subst e; rw [ho] at ho2; cases ho2; rw [hd] at hd2; cases hd2; rw [h2] at h22; cases h22
theorem raise_stop {α : Type} {Q : α -> Shared -> Prop} (hh : Hd1 A s.heap) (hQ : ∀ a h', (∀ b o, s.heap.get? b = some o -> h'.get? b = some o) -> (∃ o, h'.get? a = some o /\ o.cls = .type "StopIteration") -> E (.ref a) { s with heap := h' }) :
  wpAny (model prog w) A (newExc (.type "StopIteration") [] >>= fun e => (raiseNew e : Sem α)) Q E s := by
 refine wpAny_bind ?_
 simp only [newExc, newTuple]
 refine wpAny_bind (wpAny_newObj_type ?_ (by size_fits))
 refine wpAny_bind (m := firstArgMember _ _) (wpAny_of_eq (a := Value.none) (by first | rfl | (simp only [firstArgMember]; rfl)) ?_)
 refine wpAny_newObj_type ?_ (by size_fits)
 simp only [raiseNew]
 refine wpAny_bind (wpAny_handled ?_)
 have k2 : ∀ (o1 o2 : Obj) b o, s.heap.get? b = some o -> ((s.heap.push o1).push o2).get? b = some o := fun o1 o2 b o e => Heap.get?_push_of_some _ (Heap.get?_push_of_some _ e)
 rcases hh with hh | ⟨b, o, vs, r, hh, ho, hc, hd, h2⟩
 ·rw [hh]
  exact wpAny_bind (wpAny_pure (wpAny_throw (hQ _ _ (k2 _ _) ⟨_, Heap.get?_push_size _ rfl, rfl⟩)))
 ·rw [hh]
  dsimp only
  have hne : b ≠ (s.heap.push { cls := .type "tuple", data := .seq #[] }).objs.size := Nat.ne_of_lt (Heap.lt_size (Heap.get?_push_of_some _ ho))
  rw [if_pos (by simpa using hne)]
  have hnew : s.heap.get? (s.heap.push { cls := .type "tuple", data := .seq #[] }).objs.size = none := by
   cases e : s.heap.get? (s.heap.push { cls := .type "tuple", data := .seq #[] }).objs.size with
   | none => rfl
   | some o' => exact absurd (Heap.lt_size (Heap.get?_push_of_some { cls := .type "tuple", data := .seq #[] } e)) (Nat.lt_irrefl _)
  refine wpAny_bind (wpAny_holding (unchainC (k2 _ _) hnew ho hd h2 ?_))
  have he := Heap.get?_push_size (s.heap.push { cls := .type "tuple", data := .seq #[] }) (o := { cls := Value.type "StopIteration", data := Data.fields (#[Value.ref s.heap.objs.size, Value.none, Value.none, Value.none, Value.bool false, Value.none] ++ ownMembersOf (Value.type "StopIteration") []) }) rfl
  refine wpAny_bind (m := setField (.ref _) 2 (.ref b)) (wpAny_setField he rfl ?_ (wpAny_throw (hQ _ _ (fun c oc e => ?_) ⟨_, Heap.get?_update_self _ he rfl, rfl⟩)))
  ·simp; (clear hne; omega)
  ·rw [Heap.get?_update_other _ _ (Nat.ne_of_gt (Heap.lt_size (Heap.get?_push_of_some _ e)))]
   exact k2 _ _ _ _ e
theorem next_list_endH {it l : Addr} {i : Nat} {items : Array Value} {Q : Option Value -> Shared -> Prop} (hh : Hd1 A s.heap)
  (hit : s.heap.IsListIter it l i) (hl : s.heap.IsList l items) (hx : items[i]? = none)
  (hQ : ∀ h', Heap.ExtBut it s.heap h' -> Q none { s with heap := h' }) : wpAny (model prog w) A (pyNext (.ref it)) Q E s := by
 refine Vc.xa_1_3 (id hit) fun o ho hc hd => ?_
 obtain ⟨ol, hol, _, nl, hdl⟩ := hl
 unfold pyNext
 refine wpAny_bind (wpAny_attempt (wpAny_callSpecial?_slot (name := Str.ofString "__next__") hit.typeIs slot_listiter_next
  (wpAny_call_entry slot_listiter_next hit.typeIs entry_listiter_next ?_ (args_listiter_next _))))
 refine wpAny_bind (m := field (.ref it) 0) (wpAny_field ho hd (x := .ref l) rfl ?_)
 rw [if_neg (show ¬ ((Value.ref l == Value.none) = true) from Bool.false_ne_true)]
 refine wpAny_bind (m := field (.ref it) 1) (wpAny_field ho hd (x := .int i 0) rfl (wpAny_bind (m := seqItems? (.ref l)) (wpAny_seqItems hol hdl ?_)))
 simp only [Int.toNat_natCast, hx]
 have eb : Heap.ExtBut it s.heap (s.heap.update it (Obj.mapFields (·.setIfInBounds 0 .none))) := (Heap.SameBut.update ..).extBut
 refine wpAny_bind (wpAny_rule (wpAny_bind (wpAny_setField ho hd (by simp) ?_)))
 refine raise_stop (A := A.in1) (s := { s with heap := s.heap.update it (Obj.mapFields (·.setIfInBounds 0 .none)) }) (Hd1.ext (A := A.in1) hh eb fun o' r q e => ?_) fun a h' k hq1 => Vc.xa_1_2 hq1 fun oa ha hca => ?_
 ·rw [ho] at q; cases q; rw [hc] at e; cases e
 ·refine wpAny_bind (wpAny_isInstance (T := "StopIteration") (b := true) ⟨_, ha, hca⟩ isSubtype_stop (wpAny_pure (hQ _ fun b ob n e => k b ob (eb b ob n e))))
theorem next_tuple_endH {it t : Addr} {i : Nat} {items : Array Value} {Q : Option Value -> Shared -> Prop} (hh : Hd1 A s.heap)
  (hit : s.heap.IsTupleIter it t i) (ht : s.heap.IsTuple t items) (hx : items[i]? = none)
  (hQ : ∀ h', Heap.ExtBut it s.heap h' -> Q none { s with heap := h' }) : wpAny (model prog w) A (pyNext (.ref it)) Q E s := by
 refine Vc.xa_1_3 (id hit) fun o ho hc hd => ?_
 obtain ⟨ol, hol, _, nl, hdl⟩ := ht
 unfold pyNext
 refine wpAny_bind (wpAny_attempt (wpAny_callSpecial?_slot (name := Str.ofString "__next__") hit.typeIs F.slot_tuple_iterator_next
  (wpAny_call_entry F.slot_tuple_iterator_next hit.typeIs F.entry_tuple_iterator_next ?_ (F.args_tuple_iterator_next_1 _))))
 refine wpAny_bind (m := field (.ref it) 0) (wpAny_field ho hd (x := .ref t) rfl ?_)
 rw [if_neg (show ¬ ((Value.ref t == Value.none) = true) from Bool.false_ne_true)]
 refine wpAny_bind (m := field (.ref it) 1) (wpAny_field ho hd (x := .int i 0) rfl (wpAny_bind (m := seqItems? (.ref t)) (wpAny_seqItems hol hdl ?_)))
 simp only [Int.toNat_natCast, hx]
 have eb : Heap.ExtBut it s.heap (s.heap.update it (Obj.mapFields (·.setIfInBounds 0 .none))) := (Heap.SameBut.update ..).extBut
 refine wpAny_bind (wpAny_rule (wpAny_bind (wpAny_setField ho hd (by simp) ?_)))
 refine raise_stop (A := A.in1) (s := { s with heap := s.heap.update it (Obj.mapFields (·.setIfInBounds 0 .none)) }) (Hd1.ext (A := A.in1) hh eb fun o' r q e => ?_) fun a h' k hq2 => Vc.xa_1_2 hq2 fun oa ha hca => ?_
 ·rw [ho] at q; cases q; rw [hc] at e; cases e
 ·refine wpAny_bind (wpAny_isInstance (T := "StopIteration") (b := true) ⟨_, ha, hca⟩ isSubtype_stop (wpAny_pure (hQ _ fun b ob n e => k b ob (eb b ob n e))))
theorem unpack_itemsH {t : Addr} {items : Array Value} {Q : List Value -> Shared -> Prop} (hh : Hd1 A s.heap) (ht : s.heap.IsTuple t items)
  (hQ : ∀ h', Heap.ExtBut s.heap.objs.size s.heap h' -> Q items.toList { s with heap := h' }) : wpAny (model prog w) A (unpackItems (.ref t) items.size none) Q E s := by
 have hlt : t ≠ s.heap.objs.size := by obtain ⟨o, ho, _⟩ := ht; exact Nat.ne_of_lt (Heap.lt_size ho)
 unfold unpackItems notIterableAtAll
 refine wpAny_bind (wpAny_bind (wpAny_specialOf ht.typeIs F.slot_tuple_iter.lookup (wpAny_pure ?_)))
 rw [if_neg (by decide)]
 refine wpAny_bind (wpAny_holding (wpAny_pyIter_tuple ht (wpAny_bind (wpAny_holding (wpAny_draw_tuple hlt items.size 0 _ _ ⟨_, Heap.get?_push_size _ rfl, rfl, rfl⟩ (ht.push _) (by (clear hlt; omega)) fun h₁ hit₁ hs₁ => ?_)))))
 have hall : List.take items.size (List.drop 0 items.toList) = items.toList := by
  rw [List.drop_zero]; exact List.take_of_length_le (by simp)
 rw [hall, if_neg (by simp)]
 have eb : Heap.ExtBut s.heap.objs.size s.heap h₁ := fun b o hb e => hs₁.extBut b o hb (Heap.get?_push_of_some _ e)
 refine wpAny_bind (wpAny_holding (next_tuple_endH (Hd1.ext hh eb fun o r q => ?_) hit₁ ((ht.push _).extBut hs₁.extBut hlt) (by simp) fun h₂ he₂ => ?_))
 ·exact absurd (Heap.lt_size q) (Nat.lt_irrefl _)
 ·rw [Option.isSome_none, if_neg (by decide)]
  exact wpAny_pure (hQ h₂ fun b o hb e => he₂ b o hb (eb b o hb e))
theorem assign_tupleH {env : Env} {elts : List Expr} {k : Nat} {pos : Pos} {t : Addr} {items : Array Value} {Q : Unit -> Shared -> Prop} (hh : Hd1 A s.heap) (ht : s.heap.IsTuple t items)
  (hn : (assignEach elts env).length = items.size) (hstar : (assignEach elts env).findIdx? (·.1) = none)
  (h : ∀ h', Heap.ExtBut s.heap.objs.size s.heap h' -> wpAny (model prog w) A (assignInOrder ((assignEach elts env).map (·.2)) items.toList) Q E { s with heap := h' }) :
  wpAny (model prog w) A (assign (.Tuple elts k pos) env (.ref t)) Q E s := by
 rw [arm_assign_Tuple]
 refine wpAny_bind (wpAny_standAt ?_)
 unfold unpack
 rw [hn, hstar]
 exact wpAny_bind (wpAny_holding (unpack_itemsH hh ht h))
end
end Vc
end
section
namespace Vc
open PySem
section
variable {prog : Program} {w : World} {A : Around} {E : Value -> Shared -> Prop} {s : Shared}
noncomputable def IsNest (prog : Program) (w : World) (h : Heap) (k : Int × List Int) (a : Addr) : Prop :=
 ∃ o items n b t, h.get? a = some o /\ o.cls = .type "tuple" /\ o.data = .seq items n /\ items.toList = [.int k.1 t, .ref b] /\ IsTupleKey (intKind prog w) h k.2 b
theorem IsNest.typeIs {k : Int × List Int} {a : Addr} (x : IsNest prog w s.heap k a) : s.TypeIs (.ref a) "tuple" := Exists.imp (fun o x => Exists.elim x fun zz x => Exists.elim x fun zz x => Exists.elim x fun zz x => Exists.elim x fun zz x => ⟨x.1, x.2.1⟩) x
theorem IsNest.inj {h : Heap} {a : Addr} {x y : Int × List Int} (hx : IsNest prog w h x a) (hy : IsNest prog w h y a) : x = y := by
 refine Vc.xa_5_5 hx fun o items n b t ho zz hd hi hk => ?_
 try clear hx
 refine Vc.xa_5_5 hy fun o' items' n' b' t' ho' zz hd' hi' hk' => ?_
 try clear hy
 rw [ho] at ho'; cases ho'
 rw [hd] at hd'; cases hd'
 rw [hi] at hi'
 simp only [List.cons.injEq, Value.int.injEq, Value.ref.injEq, and_true] at hi'
 refine Vc.xa_0_2 hi' fun ho22_0 hr22_1 => ?_
 try clear hi'
 obtain ⟨h1, _⟩ := ho22_0
 subst hr22_1
 have h2 := hk.inj hk'
 cases x; cases y; simp at h1 h2; rw [h1, h2]
theorem IsNest.keeps {h h' : Heap} {k : Int × List Int} {a d : Addr} {o : Obj} {es ep} (x : IsNest prog w h k a) (ho : h.get? d = some o) (hd : o.data = .dict es ep) (hs : Heap.SameBut d h h') : IsNest prog w h' k a := by
 refine Vc.xa_5_5 x fun o' items n b t ho' hc hd' hi hk => ?_
 try clear x
 have hne : a ≠ d := by
  rintro rfl
  rw [ho] at ho'; cases ho'
  rw [hd] at hd'; cases hd'
 exact ⟨o', items, n, b, t, (hs.2 a hne).trans ho', hc, hd', hi, hk.keeps ho hd hs⟩
noncomputable def nestHash (prog : Program) (w : World) (k : Int × List Int) : Int := reduceHash (Builtin.Tuple.tupleHashOf [(intKind prog w).hash k.1, tupleKeyHash (intKind prog w) k.2])
theorem nest_hash {k : Int × List Int} {a : Addr} {Q : Int -> Shared -> Prop} (hu : A.units + 1 < cLine) (hk : IsNest prog w s.heap k a) (h : Q (nestHash prog w k) { s with toks := s.toks + (k.2.length + 3) }) :
  wpAny (model prog w) A (pyHash (.ref a)) Q E s := by
 have hT := hk.typeIs
 refine Vc.xa_5_5 hk fun o items n b t ho zz hd hi hb => ?_
 try clear hk
 unfold pyHash
 first | unfold pyHashByItsType | skip
 first | refine wpAny_bind (wpAny_cRoomFor_or (.inr (by omega)) ?_) | skip
 refine wpAny_bind (wpAny_specialOf hT F.slot_tuple_hash.lookup ?_)
 show wpAny _ _ (if (some (Value.builtin "tuple.__hash__") == some Value.none) = true then _ else _) Q E s
 rw [if_neg (by rw [beq_builtin_none]; exact Bool.false_ne_true)]
 refine wpAny_bind (wpAny_specialOf hT F.slot_tuple_hash.lookup ?_)
 show wpAny _ _ (callSpecialIfBoundUnlessNone? (.ref a) "__hash__" _ >>= _) Q E s
 refine wpAny_bind (wpAny_callSpecialIfBoundUnlessNone?_slot hT F.slot_tuple_hash (wpAny_call_entry F.slot_tuple_hash hT F.entry_tuple_hash ?_ (F.args_tuple_hash_1 _)))
 show wpAny _ _ (Builtin.Tuple.tupleItemsOf (.ref a) >>= _) _ _ s
 refine wpAny_bind (wpAny_tupleItemsOf ho hd ?_)
 refine wpAny_bind ?_
 rw [<- Array.forIn_toList, hi]
 simp only [List.forIn_cons, List.forIn_nil]
 refine wpAny_bind (wpAny_bind ((intKind prog w).pyHash (k := k.1) (by simp [intKind, Value.isInt]) (wpAny_pure ?_)))
 refine wpAny_bind (wpAny_bind (wpAny_pyHash_tuple (knd := intKind prog w) (s := { s with toks := s.toks + 1 }) hu hb (wpAny_pure (wpAny_pure ?_))))
 refine wpAny_ret_mkInt ?_
 show wpAny _ _ (if (decide (-(2 : Int) ^ 63 <= Builtin.Tuple.tupleHashOf [(intKind prog w).hash k.1, tupleKeyHash (intKind prog w) k.2]) && decide (Builtin.Tuple.tupleHashOf [(intKind prog w).hash k.1, tupleKeyHash (intKind prog w) k.2] < 2 ^ 63)) = true then _ else _) Q E _
 have et : s.toks + 1 + (k.2.length + 1) + 1 = s.toks + (k.2.length + 3) := by (clear hu; omega)
 unfold nestHash reduceHash at h
 by_cases hr : (decide (-(2 : Int) ^ 63 <= Builtin.Tuple.tupleHashOf [(intKind prog w).hash k.1, tupleKeyHash (intKind prog w) k.2]) && decide (Builtin.Tuple.tupleHashOf [(intKind prog w).hash k.1, tupleKeyHash (intKind prog w) k.2] < 2 ^ 63)) = true
 ·rw [if_pos hr]
  rw [if_pos hr] at h
  refine wpAny_pure ?_
  show Q _ { s with toks := s.toks + 1 + (k.2.length + 1) + 1 }
  rw [et]; exact h
 ·rw [if_neg hr]
  rw [if_neg hr] at h
  refine wpAny_bind (wpAny_rule (wpAny_pure ?_))
  show Q _ { s with toks := s.toks + 1 + (k.2.length + 1) + 1 }
  rw [et]; exact h
theorem nest_eq_tree {x y : Int × List Int} {a b : Addr} {P : Fin -> Shared -> Prop} (hu : A.units < cLine) (hx : IsNest prog w s.heap x a) (hy : IsNest prog w s.heap y b) (h : P (.done (.ret (.bool (decide (x = y))))) s) :
  wpAny (model prog w) A (Builtin.«tuple.__eq__» ⟨[.ref a, .ref b], []⟩) P E s := by
 have hTb := hy.typeIs
 refine Vc.xa_5_5 hx fun oa xs na xb xt hoa zz hda hia hxk => ?_
 try clear hx
 refine Vc.xa_5_5 hy fun ob ys nb yb yt hob zz hdb hib hyk => ?_
 try clear hy
 show wpAny _ _ (isInstance (.ref b) (.type "tuple") >>= _) _ _ s
 refine wpAny_bind (wpAny_isInstance hTb isSubtype_tuple_tuple ?_)
 simp only [Bool.not_true, Bool.false_eq_true, if_false]
 refine wpAny_bind (wpAny_tupleItemsOf hoa hda ?_)
 refine wpAny_bind (wpAny_tupleItemsOf hob hdb ?_)
 refine wpAny_bind ?_
 rw [hia, hib]
 simp only [List.zip_cons_cons, List.zip_nil_left, List.zip_nil_right, List.forIn_cons, List.forIn_nil]
 refine wpAny_bind (wpAny_bind ((intKind prog w).eqBool (a := x.1) (b := y.1) (by simp [intKind, Value.isInt]) (by simp [intKind, Value.isInt]) ?_))
 by_cases h1 : x.1 = y.1
 ·rw [decide_eq_true h1]
  simp only [Bool.not_true, Bool.false_eq_true, if_false]
  refine wpAny_pure ?_
  refine wpAny_bind (wpAny_bind (wpAny_eqBool_tuple (knd := intKind prog w) hu hxk hyk ?_))
  by_cases h2 : x.2 = y.2
  ·rw [decide_eq_true h2]
   simp only [Bool.not_true, Bool.false_eq_true, if_false]
   refine wpAny_pure (wpAny_pure ?_)
   have e : x = y := Prod.ext h1 h2
   have e1 : xs.size = 2 := by rw [<- Array.length_toList, hia]; rfl
   have e2 : ys.size = 2 := by rw [<- Array.length_toList, hib]; rfl
   rw [e1, e2]
   rw [decide_eq_true e] at h
   exact wpAny_pure h
  ·rw [decide_eq_false h2]
   simp only [Bool.not_false, if_true]
   rw [decide_eq_false (fun e => h2 (by rw [e]))] at h
   exact wpAny_bind (wpAny_pure (wpAny_pure (wpAny_pure (wpAny_pure h))))
 ·rw [decide_eq_false h1]
  simp only [Bool.not_false, if_true]
  rw [decide_eq_false (fun e => h1 (by rw [e]))] at h
  exact wpAny_bind (wpAny_pure (wpAny_pure (wpAny_pure (wpAny_pure h))))
theorem nest_eq {x y : Int × List Int} {a b : Addr} {Q : Bool -> Shared -> Prop} (hu : A.units + 1 < cLine) (hx : IsNest prog w s.heap x a) (hy : IsNest prog w s.heap y b) (h : Q (decide (x = y)) s) :
  wpAny (model prog w) A (eqBool (.ref a) (.ref b)) Q E s := by
 unfold eqBool
 try with_reducible refine wpAny_holding ?_
 show wpAny _ _ (if (Value.ref a == Value.ref b) = true then _ else _) Q E s
 by_cases hab : (Value.ref a == Value.ref b) = true
 ·rw [if_pos hab]
  have e : a = b := by have := eq_of_beq hab; injection this
  subst e
  obtain rfl := hx.inj hy
  exact wpAny_bind (wpAny_rule (wpAny_pure (by simpa using h)))
 ·rw [if_neg hab]
  exact wpAny_bind (wpAny_richCompare_same_room (op := .Eq) hx.typeIs hy.typeIs F.slot_tuple_eq
   (wpAny_call_entry F.slot_tuple_eq hx.typeIs F.entry_tuple_eq (nest_eq_tree (by show A.units + 1 < _; (clear hab; omega)) hx hy ⟨_, rfl, (fun e => nomatch e), wpAny_truthy_bool h⟩) (F.args_tuple_eq_2 _ _)) (by (clear hab; omega)))
theorem quiet_one {ks : List Int} {a : Addr} {n : Nat} {Q : Bool -> Shared -> Prop} (hk : IsTupleKey (intKind prog w) s.heap ks a) (h : Q true s) : wpAny (model prog w) A (eqIsQuiet (n + 1) (.ref a)) Q E s := by
 have hT := hk.typeIs
 refine Vc.xa_3_4 hk fun o items m ho zz hd hi => ?_
 try clear hk
 unfold eqIsQuiet
 refine wpAny_bind (wpAny_specialOf hT F.slot_tuple_eq.lookup ?_)
 show wpAny _ _ (isInstance (.ref a) (.type "tuple") >>= _) _ _ s
 refine wpAny_bind (wpAny_isInstance hT isSubtype_tuple_tuple ?_)
 simp only [Bool.not_true, Bool.false_eq_true, if_false]
 refine wpAny_bind (wpAny_seqItems ho hd ?_)
 refine wpAny_bind ?_
 show wpAny _ _ (forIn items _ _) _ _ s
 rw [<- Array.forIn_toList]
 refine wpAny_forIn_list _ (fun rest r s' => r.1 = none /\ s' = s /\ ∀ v ∈ rest, carriedByValue v = true) _ ?_ ?_ _ _ ⟨rfl, rfl, hi.byValue⟩
 ·rintro v rest r s' ⟨hr, rfl, hall⟩
  rw [eqIsQuiet_byValue _ (hall v List.mem_cons_self)]
  refine wpAny_bind (wpAny_pure ?_)
  simp only [Bool.not_true, Bool.false_eq_true, if_false]
  exact wpAny_pure ⟨rfl, rfl, fun u hu' => hall u (List.mem_cons_of_mem _ hu')⟩
 ·rintro ⟨r1, r2⟩ s' ⟨hr, rfl, _⟩
  simp only at hr
  subst hr
  exact wpAny_pure h
theorem nest_quiet {k : Int × List Int} {a : Addr} {Q : Bool -> Shared -> Prop} (hk : IsNest prog w s.heap k a) (h : Q true s) : wpAny (model prog w) A (eqIsQuiet 8 (.ref a)) Q E s := by
 have hT := hk.typeIs
 refine Vc.xa_5_5 hk fun o items n b t ho zz hd hi hb => ?_
 try clear hk
 unfold eqIsQuiet
 refine wpAny_bind (wpAny_specialOf hT F.slot_tuple_eq.lookup ?_)
 show wpAny _ _ (isInstance (.ref a) (.type "tuple") >>= _) _ _ s
 refine wpAny_bind (wpAny_isInstance hT isSubtype_tuple_tuple ?_)
 simp only [Bool.not_true, Bool.false_eq_true, if_false]
 refine wpAny_bind (wpAny_seqItems ho hd ?_)
 refine wpAny_bind ?_
 show wpAny _ _ (forIn items _ _) _ _ s
 rw [<- Array.forIn_toList, hi]
 simp only [List.forIn_cons, List.forIn_nil]
 rw [eqIsQuiet_byValue _ (by rfl)]
 refine wpAny_bind (wpAny_bind (wpAny_pure ?_))
 simp only [Bool.not_true, Bool.false_eq_true, if_false]
 refine wpAny_pure ?_
 refine wpAny_bind (wpAny_bind (quiet_one hb ?_))
 simp only [Bool.not_true, Bool.false_eq_true, if_false]
 exact wpAny_pure (wpAny_pure (wpAny_pure h))
end
noncomputable def nestKind (prog : Program) (w : World) : HeapKind prog w (Int × List Int) where
 is := IsNest prog w
 hash := nestHash prog w
 draws := fun k => k.2.length + 3
 room := fun A => A.units + 1 < cLine
 inj := fun hx hy => hx.inj hy
 keeps := fun x ho hd hs => x.keeps ho hd hs
 pyHash := fun hu hk h => nest_hash hu hk h
 eqBool := fun hu hx hy h => nest_eq hu hx hy h
 quiet := fun hk h => nest_quiet hk h
end Vc
end
section
namespace Vc
open PySem
set_option genSizeOf false in
inductive V where
 | none
 | bool (b : Bool)
 | int (i : Int)
 | str (s : Str)
 | tup (l : List V)
 | ref (a : Addr)
 | exc (c : String)
 | glb (x : String)
 | rng (a b c : Int)
 deriving Inhabited
noncomputable def Solid (o : Obj) : Prop := (o.cls = .type "tuple" /\ ∃ xs n, o.data = .seq xs n) ∨ (o.cls = .type "range" /\ ∃ vs, o.data = .fields vs)
structure VS (h h' : Heap) : Prop where
 solid : ∀ b o, h.get? b = some o -> Solid o -> h'.get? b = some o
 exc : ∀ b o vs r, h.get? b = some o -> o.cls = .ref r -> o.data = .fields vs -> ∃ o' vs', h'.get? b = some o' /\ (o'.cls = o.cls /\ o'.dict = o.dict) /\ o'.data = .fields vs' /\ vs'[2]? = vs[2]?
theorem Ctx.keep {h h' : Heap} {vs vs' : Array Value} (x : Ctx h vs) (k : VS h h') (e : vs'[2]? = vs[2]?) : Ctx h' vs' := by
 rcases x with x | ⟨b, o, ws, r, x1, x2, x3, x4, x5⟩
 ·exact .inl (e.trans x)
 ·refine Vc.xa_2_4 (k.exc b o ws r x2 x3 x4) fun o' ws' y1 y2 y3 y4 => ?_
  exact .inr ⟨b, o', ws', r, e.trans x1, y1, y2.1.trans x3, y3, y4.trans x5⟩
theorem CtxC.keep {c : String} {h h' : Heap} {vs vs' : Array Value} (x : CtxC c h vs) (k : VS h h') (e : vs'[2]? = vs[2]?) : CtxC c h' vs' := x.imp (fun q => e.trans q) fun q => ⟨q.1, q.2.keep k e⟩
structure Pr where
 P : Program -> World -> Heap -> Addr -> Prop
 keep : ∀ {p : Program} {w : World} {h h' : Heap} {a : Addr}, VS h h' -> (∀ o, h.get? a = some o -> h'.get? a = some o) -> P p w h a -> P p w h' a
 there : ∀ {p : Program} {w : World} {h : Heap} {a : Addr}, P p w h a -> ∃ ob, h.get? a = some ob /\ ∀ vs, ob.data ≠ .fields vs
theorem IsNest.solid {p : Program} {w : World} {h h' : Heap} {k : Int × List Int} {a : Addr} (v : VS h h') (x : IsNest p w h k a) : IsNest p w h' k a := by
 obtain ⟨o, items, n, b, t, ho, hc, hd, hi, o2, i2, n2, ho2, hc2, hd2, hi2⟩ := x
 exact ⟨o, items, n, b, t, v.solid a o ho (.inl ⟨hc, items, n, hd⟩), hc, hd, hi, o2, i2, n2, v.solid b o2 ho2 (.inl ⟨hc2, i2, n2, hd2⟩), hc2, hd2, hi2⟩
noncomputable def dckP (ks : List (Int × List Int)) : Pr where
 P p w h a := a ≠ sysModules /\ ∃ xs, h.DictOfH (nestKind p w) a xs /\ xs.map (·.1) = ks
 keep := fun v e x => ⟨x.1, x.2.imp fun xs y => ⟨y.1.imp fun o z => z.imp fun es z => z.imp fun ep z => ⟨e o z.1, z.2.1, z.2.2.1, z.2.2.2.1, fun x hx => IsNest.solid v (z.2.2.2.2.1 x hx), z.2.2.2.2.2⟩, y.2⟩⟩
 there := fun x => x.2.elim fun xs y => y.1.imp fun o z => z.elim fun es z => z.elim fun ep z => ⟨z.1, fun vs e => Data.noConfusion (z.2.2.1.symm.trans e)⟩
set_option genSizeOf false in
inductive O where
 | lst (l : List V)
 | fro (l : List V)
 | dci (l : List (Int × V))
 | dcs (l : List (Str × V))
 | ins (c : String) (dx : Addr)
 | nsd (l : List (String × V))
 | prd (p : Pr)
 deriving Inhabited
noncomputable abbrev MH := Addr -> Option O
noncomputable def upd (H : MH) (a : Addr) (o : O) : MH := fun b => if b = a then some o else H b
theorem upd_self (H : MH) (a : Addr) (o : O) : upd H a o a = some o := if_pos rfl
theorem upd_ne {H : MH} {a b : Addr} {o : O} (h : b ≠ a) : upd H a o b = H b := if_neg h
structure Cx where
 prog : Program
 w : World
 h0 : Heap
 mg : Str -> Option Value
 mb : Str -> Option Value
noncomputable def Cx.G (C : Cx) (x : String) (v : Value) : Prop := C.mg (Str.ofString x) = some v ∨ (C.mg (Str.ofString x) = none /\ C.mb (Str.ofString x) = some v)
structure Cx.Good (C : Cx) : Prop where
 g : C.h0.Ns mainGlobals C.mg
 b : C.h0.Ns builtinsNs C.mb
 nolimit : C.h0.NoLimit
theorem Cx.G.uniq {C : Cx} {x : String} {v v' : Value} (h : C.G x v) (h' : C.G x v') : v = v' := by
 rcases h with h | ⟨h1, h2⟩ <;> rcases h' with h' | ⟨h1', h2'⟩
 ·exact Option.some.inj (h.symm.trans h')
 ·rw [h] at h1'; cases h1'
 ·rw [h1] at h'; cases h'
 ·exact Option.some.inj (h2.symm.trans h2')
noncomputable abbrev Cx.M (C : Cx) : Model := model C.prog C.w
noncomputable def NoDict (h : Heap) (a : Addr) : Prop := ∀ o, h.get? a = some o -> o.dict = Option.none
theorem NoDict.of {h : Heap} {a : Addr} {o : Obj} (e : h.get? a = some o) (d : o.dict = Option.none) : NoDict h a := fun o' e' => by rw [e] at e'; cases e'; exact d
mutual
noncomputable def VR (C : Cx) (h : Heap) : V -> Value -> Prop
 | .none, v => v = .none
 | .bool b, v => v = .bool b
 | .int i, v => ∃ t, v = .int i t
 | .str s, v => ∃ t, v = .str s t
 | .tup l, v => ∃ a items, (v = .ref a /\ NoDict h a) /\ h.IsTuple a items /\ VRs C h l items.toList
 | .ref a, v => v = .ref a
 | .exc c, v => ∃ a o vs r, v = .ref a /\ h.get? a = some o /\ o.cls = .ref r /\ (C.G c (.ref r) /\ o.dict = Option.none) /\ o.data = .fields vs
 | .glb x, v => C.G x v
 | .rng a b c, v => ∃ r t u w, v = .ref r /\ IsRange h r a b c t u w
noncomputable def VRs (C : Cx) (h : Heap) : List V -> List Value -> Prop
 | [], [] => True
 | x :: xs, v :: vs => VR C h x v /\ VRs C h xs vs
 | [], _ :: _ => False
 | _ :: _, [] => False
end
section
variable {C : Cx} {h h' h'' : Heap}
theorem VRs.nil : VRs C h [] [] := by dsimp only [VRs]
theorem VRs.cons {x : V} {v : Value} {xs : List V} {vs : List Value} (a : VR C h x v) (b : VRs C h xs vs) : VRs C h (x :: xs) (v :: vs) := by dsimp only [VRs]; exact ⟨a, b⟩
theorem VRs.head {x : V} {v : Value} {xs : List V} {vs : List Value} (a : VRs C h (x :: xs) (v :: vs)) : VR C h x v := by dsimp only [VRs] at a; exact a.1
theorem VRs.tail {x : V} {v : Value} {xs : List V} {vs : List Value} (a : VRs C h (x :: xs) (v :: vs)) : VRs C h xs vs := by dsimp only [VRs] at a; exact a.2
theorem VRs.inv_nil {vs : List Value} (a : VRs C h [] vs) : vs = [] := by
 cases vs with
 | nil => rfl
 | cons _ _ => exact (show False from a).elim
theorem VRs.inv_cons {x : V} {xs : List V} {vs : List Value} (a : VRs C h (x :: xs) vs) : ∃ v vs', vs = v :: vs' /\ VR C h x v /\ VRs C h xs vs' := by
 cases vs with
 | nil => exact (show False from a).elim
 | cons v vs' => exact ⟨v, vs', rfl, a.head, a.tail⟩
theorem VRs.length : ∀ {xs : List V} {vs : List Value}, VRs C h xs vs -> xs.length = vs.length
 | [], [], _ => rfl
 | _ :: xs, _ :: vs, x => by simp [VRs.length x.tail]
 | [], _ :: _, x => (show False from x).elim
 | _ :: _, [], x => (show False from x).elim
theorem VRs.get : ∀ {xs : List V} {vs : List Value} {i : Nat} {x : V}, VRs C h xs vs -> xs[i]? = some x -> ∃ v, vs[i]? = some v /\ VR C h x v
 | y :: xs, v :: vs, 0, x, r, e => by simp at e; subst e; exact ⟨v, rfl, r.head⟩
 | _ :: xs, _ :: vs, i + 1, x, r, e => by simp at e; simpa using VRs.get r.tail e
 | [], _, _, _, _, e => by simp at e
 | _ :: _, [], _, _, r, _ => (show False from r).elim
theorem VRs.append : ∀ {xs ys : List V} {vs ws : List Value}, VRs C h xs vs -> VRs C h ys ws -> VRs C h (xs ++ ys) (vs ++ ws)
 | [], _, [], _, _, r => r
 | _ :: xs, _, _ :: vs, _, x, r => VRs.cons x.head (VRs.append x.tail r)
 | [], _, _ :: _, _, x, _ => (show False from x).elim
 | _ :: _, _, [], _, x, _ => (show False from x).elim
theorem VRs.take : ∀ {xs : List V} {vs : List Value} (n : Nat), VRs C h xs vs -> VRs C h (xs.take n) (vs.take n)
 | _, _, 0, _ => by simpa using VRs.nil
 | [], [], _ + 1, _ => by simpa using VRs.nil
 | _ :: _, _ :: _, n + 1, r => by simpa using VRs.cons r.head (VRs.take n r.tail)
 | [], _ :: _, _ + 1, r => (show False from r).elim
 | _ :: _, [], _ + 1, r => (show False from r).elim
theorem VRs.drop : ∀ {xs : List V} {vs : List Value} (n : Nat), VRs C h xs vs -> VRs C h (xs.drop n) (vs.drop n)
 | _, _, 0, r => by simpa using r
 | [], [], _ + 1, _ => by simpa using VRs.nil
 | _ :: _, _ :: _, n + 1, r => by simpa using VRs.drop n r.tail
 | [], _ :: _, _ + 1, r => (show False from r).elim
 | _ :: _, [], _ + 1, r => (show False from r).elim
end
structure VK (h h' : Heap) : Prop where
 solid : ∀ b o, h.get? b = some o -> Solid o -> h'.get? b = some o
 exc : ∀ b o vs r, h.get? b = some o -> o.cls = .ref r -> o.data = .fields vs -> ∃ o' vs', h'.get? b = some o' /\ (o'.cls = o.cls /\ o'.dict = o.dict) /\ o'.data = .fields vs' /\ vs'[2]? = vs[2]?
 dct : ∀ b o es ep, h.get? b = some o -> o.data = .dict es ep -> ∃ o' es' ep', h'.get? b = some o' /\ o'.data = .dict es' ep'
theorem VK.s {h h' : Heap} (x : VK h h') : VS h h' := ⟨x.solid, x.exc⟩
theorem VK.refl (h : Heap) : VK h h := ⟨fun zz zz e zz => e, fun zz o vs zz e c d => ⟨o, vs, e, ⟨rfl, rfl⟩, d, rfl⟩, fun zz o es ep e d => ⟨o, es, ep, e, d⟩⟩
theorem VK.trans {h h' h'' : Heap} (x : VK h h') (y : VK h' h'') : VK h h'' :=
 ⟨fun b o e s => y.solid b o (x.solid b o e s) s, fun b o vs r e c d => by
  refine Vc.xa_2_4 (x.exc b o vs r e c d) fun o' vs' e' c' d' g' => ?_
  refine Vc.xa_2_4 (y.exc b o' vs' r e' (c'.1.trans c) d') fun o'' vs'' e'' c'' d'' g'' => ?_
  exact ⟨o'', vs'', e'', ⟨c''.1.trans c'.1, c''.2.trans c'.2⟩, d'', g''.trans g'⟩, fun b o es ep e d => by
  refine Vc.xa_3_2 (x.dct b o es ep e d) fun o' es' ep' e' d' => ?_
  exact y.dct b o' es' ep' e' d'⟩
theorem VK.of_keeps {h h' : Heap} (k : ∀ b o, h.get? b = some o -> h'.get? b = some o) : VK h h' :=
 ⟨fun b o e zz => k b o e, fun b o vs r e c d => ⟨o, vs, k b o e, ⟨rfl, rfl⟩, d, rfl⟩, fun b o es ep e d => ⟨o, es, ep, k b o e, d⟩⟩
noncomputable def Loose (o : Obj) : Prop := (∃ es ep, o.data = .dict es ep) ∨ (∃ v, o.data = .cell v) ∨ (∃ T, o.cls = .type T /\ T ≠ "tuple" /\ T ≠ "range")
theorem Loose.not_solid {o : Obj} (l : Loose o) (s : Solid o) : False := by
 rcases s with ⟨c, xs, n, d⟩ | ⟨c, vs, d⟩ <;> rcases l with ⟨es, ep, d'⟩ | ⟨v, d'⟩ | ⟨T, c', n1, n2⟩
 ·rw [d] at d'; cases d'
 ·rw [d] at d'; cases d'
 ·rw [c] at c'; injection c' with e; exact n1 e.symm
 ·rw [d] at d'; cases d'
 ·rw [d] at d'; cases d'
 ·rw [c] at c'; injection c' with e; exact n2 e.symm
theorem Loose.not_exc {o : Obj} (l : Loose o) {r : Addr} {vs : Array Value} (c : o.cls = .ref r) (d : o.data = .fields vs) : False := by
 rcases l with ⟨es, ep, d'⟩ | ⟨v, d'⟩ | ⟨T, c', _, _⟩
 ·rw [d] at d'; cases d'
 ·rw [d] at d'; cases d'
 ·rw [c] at c'; cases c'
theorem VK.of_but {h h' : Heap} {D : Addr -> Prop} (k : ∀ b o, h.get? b = some o -> ¬ D b -> h'.get? b = some o) (l : ∀ b o, h.get? b = some o -> D b -> Loose o)
  (d : ∀ b o es ep, h.get? b = some o -> D b -> o.data = .dict es ep -> ∃ o' es' ep', h'.get? b = some o' /\ o'.data = .dict es' ep') : VK h h' :=
 ⟨fun b o e s => k b o e fun q => (l b o e q).not_solid s, fun b o vs r e c dd => ⟨o, vs, k b o e fun q => (l b o e q).not_exc c dd, ⟨rfl, rfl⟩, dd, rfl⟩, fun b o es ep e dd =>
  Classical.byCases (fun q : D b => d b o es ep e q dd) fun q => ⟨o, es, ep, k b o e q, dd⟩⟩
mutual
theorem VR.keepS {C : Cx} {h h' : Heap} (k : VS h h') : ∀ {x : V} {v : Value}, VR C h x v -> VR C h' x v
 | .none, _, r => r
 | .bool _, _, r => r
 | .int _, _, r => r
 | .str _, _, r => r
 | .tup l, v, r => by
  refine Vc.xa_2_3 ((show ∃ a items, (v = .ref a /\ NoDict h a) /\ h.IsTuple a items /\ VRs C h l items.toList from r)) fun a items ho217_2 ho217_3 rs => ?_
  obtain ⟨e, nd⟩ := ho217_2
  obtain ⟨o, ho, hc, n, hd⟩ := ho217_3
  exact ⟨a, items, ⟨e, .of (k.solid a o ho (.inl ⟨hc, items, n, hd⟩)) (nd o ho)⟩, ⟨o, k.solid a o ho (.inl ⟨hc, items, n, hd⟩), hc, n, hd⟩, VRs.keepS k rs⟩
 | .ref _, _, r => r
 | .exc c, v, r => by
  refine Vc.xa_4_5 ((show ∃ a o vs r, v = .ref a /\ h.get? a = some o /\ o.cls = .ref r /\ (C.G c (.ref r) /\ o.dict = Option.none) /\ o.data = .fields vs from r)) fun a o vs r e ho hc g hd => ?_
  refine Vc.xa_2_4 (k.exc a o vs r ho hc hd) fun o' vs' ho' hc' hd' zz => ?_
  exact ⟨a, o', vs', r, e, ho', hc'.1.trans hc, ⟨g.1, hc'.2.trans g.2⟩, hd'⟩
 | .glb _, _, r => r
 | .rng a b c, v, r => by
  refine Vc.xa_4_2 ((show ∃ r t u w, v = .ref r /\ IsRange h r a b c t u w from r)) fun q t u w e hr => ?_
  exact ⟨q, t, u, w, e, k.solid q _ hr (.inr ⟨rfl, _, rfl⟩)⟩
theorem VRs.keepS {C : Cx} {h h' : Heap} (k : VS h h') : ∀ {xs : List V} {vs : List Value}, VRs C h xs vs -> VRs C h' xs vs
 | [], [], _ => VRs.nil
 | _ :: _, _ :: _, r => VRs.cons (VR.keepS k r.head) (VRs.keepS k r.tail)
 | [], _ :: _, r => (show False from r).elim
 | _ :: _, [], r => (show False from r).elim
end
theorem VR.keep {C : Cx} {h h' : Heap} (k : VK h h') {x : V} {v : Value} (r : VR C h x v) : VR C h' x v := r.keepS k.s
theorem VRs.keep {C : Cx} {h h' : Heap} (k : VK h h') {xs : List V} {vs : List Value} (r : VRs C h xs vs) : VRs C h' xs vs := r.keepS k.s
noncomputable def NsE (C : Cx) (h : Heap) : List (String × V) -> List DictEntry -> Prop
 | [], [] => True
 | (x, v) :: l, e :: es => (∃ t, e.key = .str (Str.ofString x) t) /\ e.hash = hashStr C.w (Str.ofString x) /\ VR C h v e.val /\ NsE C h l es
 | [], _ :: _ => False
 | _ :: _, [] => False
theorem NsE.keepS {C : Cx} {h h' : Heap} (k : VS h h') : ∀ {l : List (String × V)} {es : List DictEntry}, NsE C h l es -> NsE C h' l es
 | [], [], _ => trivial
 | (_, _) :: _, _ :: _, r => ⟨r.1, r.2.1, r.2.2.1.keepS k, NsE.keepS k r.2.2.2⟩
 | [], _ :: _, r => r.elim
 | _ :: _, [], r => r.elim
noncomputable def OR (C : Cx) (h : Heap) (a : Addr) : O -> Prop
 | .lst l => C.h0.get? a = none /\ ∃ items, h.PlainList a items /\ VRs C h l items.toList
 | .fro l => ∃ items, h.IsList a items /\ VRs C h l items.toList
 | .dci l => C.h0.get? a = none /\ a ≠ sysModules /\ ∃ kvs : List (Int × Value), h.DictOf (intKind C.prog C.w) a kvs /\ kvs.map (·.1) = l.map (·.1) /\ VRs C h (l.map (·.2)) (kvs.map (·.2))
 | .dcs l => C.h0.get? a = none /\ a ≠ sysModules /\ ∃ kvs : List (Str × Value), h.DictOf (strKind C.prog C.w) a kvs /\ kvs.map (·.1) = l.map (·.1) /\ VRs C h (l.map (·.2)) (kvs.map (·.2))
 | .ins c dx => C.h0.get? a = none /\ ∃ r, C.G c (.ref r) /\ h.get? a = some { cls := .ref r, dict := some dx, data := .plain }
 | .nsd l => C.h0.get? a = none /\ ∃ es n, h.get? a = some { cls := .type "dict", data := .dict es n } /\ NsE C h l es.toList
 | .prd p => C.h0.get? a = none /\ p.P C.prog C.w h a
theorem OR.keepS {C : Cx} {h h' : Heap} {a : Addr} (k : VS h h') (e : ∀ o, h.get? a = some o -> h'.get? a = some o) : ∀ {o : O}, OR C h a o -> OR C h' a o
 | .lst _, x => ⟨x.1, x.2.imp fun zz y => ⟨y.1.at e, y.2.keepS k⟩⟩
 | .fro _, x => x.imp fun zz y => ⟨y.1.imp fun o q => ⟨e o q.1, q.2⟩, y.2.keepS k⟩
 | .dci _, x => ⟨x.1, x.2.1, x.2.2.imp fun zz y => ⟨y.1.imp fun o z => z.imp fun zz z => z.imp fun zz q => ⟨e o q.1, q.2⟩, y.2.1, y.2.2.keepS k⟩⟩
 | .dcs _, x => ⟨x.1, x.2.1, x.2.2.imp fun zz y => ⟨y.1.imp fun o z => z.imp fun zz z => z.imp fun zz q => ⟨e o q.1, q.2⟩, y.2.1, y.2.2.keepS k⟩⟩
 | .ins _ _, x => ⟨x.1, x.2.imp fun zz y => ⟨y.1, e _ y.2⟩⟩
 | .nsd _, x => ⟨x.1, x.2.imp fun zz y => y.imp fun zz z => ⟨e _ z.1, z.2.keepS k⟩⟩
 | .prd p, x => ⟨x.1, p.keep k e x.2⟩
theorem OR.keep {C : Cx} {h h' : Heap} {a : Addr} (k : VK h h') (e : ∀ o, h.get? a = some o -> h'.get? a = some o) {o : O} (r : OR C h a o) : OR C h' a o := r.keepS k.s e
theorem OR.there {C : Cx} {h : Heap} {a : Addr} : ∀ {o : O}, OR C h a o -> ∃ ob, h.get? a = some ob
 | .lst _, x => x.2.elim fun zz y => y.1.elim fun zz p => ⟨_, p⟩
 | .fro _, x => x.elim fun zz y => y.1.imp fun zz q => q.1
 | .dci _, x => x.2.2.elim fun zz y => y.1.imp fun zz z => z.elim fun zz z => z.elim fun zz q => q.1
 | .dcs _, x => x.2.2.elim fun zz y => y.1.imp fun zz z => z.elim fun zz z => z.elim fun zz q => q.1
 | .ins _ _, x => x.2.elim fun zz y => ⟨_, y.2⟩
 | .nsd _, x => x.2.elim fun zz y => y.elim fun zz z => ⟨_, z.1⟩
 | .prd p, x => (p.there x.2).imp fun zz q => q.1
noncomputable def HR (C : Cx) (H : MH) (h : Heap) : Prop := ∀ a o, H a = some o -> OR C h a o
theorem HR.keep {C : Cx} {H : MH} {h h' : Heap} (r : HR C H h) (k : VK h h') (e : ∀ b o, (H b).isSome = true -> h.get? b = some o -> h'.get? b = some o) : HR C H h' :=
 fun a o q => (r a o q).keep k fun ob => e a ob (by rw [q]; rfl)
theorem HR.there {C : Cx} {H : MH} {h : Heap} (r : HR C H h) {a : Addr} (q : (H a).isSome = true) : ∃ ob, h.get? a = some ob := by
 refine Vc.xa_1_1 (Option.isSome_iff_exists.mp q) fun o e => ?_
 exact (r a o e).there
theorem HR.fresh {C : Cx} {H : MH} {h : Heap} (r : HR C H h) {a : Addr} (q : h.get? a = none) : H a = none := by
 cases e : H a with
 | none => rfl
 | some o => obtain ⟨ob, w⟩ := (r a o e).there; rw [q] at w; cases w
structure Step (C : Cx) (D : Addr -> Prop) (H : MH) (s : Shared) (H' : MH) (s' : Shared) : Prop where
 rel : HR C H' s'.heap
 chg : ∀ b o, s.heap.get? b = some o -> H b = none -> ¬ D b -> ∃ sl, s'.heap.get? b = some { o with slots := sl } /\ ((∀ es ep, o.data ≠ .dict es ep) -> sl = o.slots)
 top : C.h0.StaysIn s'.heap
 dom : ∀ b, (H b).isSome = true -> (H' b).isSome = true
 new : ∀ b, (H' b).isSome = true -> (H b).isSome = true ∨ s.heap.get? b = none
 dn : ∀ b, D b -> H b = none -> H' b = none
 vk : VK s.heap s'.heap
 gens : s'.gens = s.gens
 os : s'.os = s.os
noncomputable abbrev No : Addr -> Prop := fun zz => False
section
variable {C : Cx} {D D' : Addr -> Prop} {H H' H'' : MH} {s s' s'' : Shared}
theorem Step.refl (r : HR C H s.heap) (t : C.h0.StaysIn s.heap) : Step C D H s H s :=
 ⟨r, fun b o e zz zz => ⟨o.slots, e, fun zz => rfl⟩, t, fun zz e => e, fun zz e => .inl e, fun zz zz e => e, .refl _, rfl, rfl⟩
theorem Step.trans (x : Step C D H s H' s') (y : Step C D H' s' H'' s'') : Step C D H s H'' s'' where
 rel := y.rel
 chg := fun b o e n d => by
  refine Vc.xa_1_2 (x.chg b o e n d) fun sl e' q => ?_
  have n' : H' b = none := by
   cases w : H' b with
   | none => rfl
   | some z =>
    rcases x.new b (by rw [w]; rfl) with u | u
    ·rw [n] at u; cases u
    ·rw [e] at u; cases u
  refine Vc.xa_1_2 (y.chg b _ e' n' d) fun sl' e'' q' => ?_
  exact ⟨sl', e'', fun f => (q' f).trans (q f)⟩
 top := y.top
 dom := fun b e => y.dom b (x.dom b e)
 new := fun b e => by
  rcases y.new b e with u | u
  ·exact x.new b u
  ·by_cases w : (H b).isSome = true
   ·exact .inl w
   ·right
    cases v : s.heap.get? b with
    | none => rfl
    | some o =>
     have n : H b = none := by simpa using w
     by_cases d : D b
     ·have := y.dn b d (x.dn b d n)
      rw [this] at e; cases e
     ·refine Vc.xa_1_2 (x.chg b o v n d) fun sl e' zz => ?_
      rw [u] at e'; cases e'
 dn := fun b d n => y.dn b d (x.dn b d n)
 vk := x.vk.trans y.vk
 gens := y.gens.trans x.gens
 os := y.os.trans x.os
theorem Step.gone (x : Step C D H s H' s') {b : Addr} {o : Obj} (e : s.heap.get? b = some o) (n : H b = Option.none) : H' b = Option.none := by
 cases w : H' b with
 | none => rfl
 | some z =>
  rcases x.new b (by rw [w]; rfl) with u | u
  ·rw [n] at u; cases u
  ·rw [e] at u; cases u
theorem Step.weaken (x : Step C No H s H' s') (hD : ∀ b, D b -> ∃ o, s.heap.get? b = some o) : Step C D H s H' s' :=
 { x with chg := fun b o e n zz => x.chg b o e n (fun f => f), dn := fun b d n => let ⟨_, e⟩ := hD b d; x.gone e n }
theorem Step.narrow (x : Step C D H s H' s') (hD : ∀ b, D' b -> D b) (hF : ∀ b, D b -> D' b ∨ s.heap.get? b = Option.none) : Step C D' H s H' s' :=
 { x with chg := fun b o e n d => x.chg b o e n fun q => by
             rcases hF b q with u | u
             · exact d u
             · rw [e] at u; cases u
          dn := fun b d n => x.dn b (hD b d) n }
theorem Step.trans_new (x : Step C D H s H' s') (y : Step C D' H' s' H'' s'') (hn : ∀ b, D' b -> s.heap.get? b = Option.none) (hd : ∀ b, D b -> ∃ o, s'.heap.get? b = some o) : Step C D H s H'' s'' where
 rel := y.rel
 chg := fun b o e n d => by
  refine Vc.xa_1_2 (x.chg b o e n d) fun sl e' q => ?_
  obtain ⟨sl', e'', q'⟩ := y.chg b _ e' (x.gone e n) fun w => by rw [hn b w] at e; cases e
  exact ⟨sl', e'', fun f => (q' f).trans (q f)⟩
 top := y.top
 dom := fun b e => y.dom b (x.dom b e)
 new := fun b e => by
  rcases y.new b e with u | u
  ·exact x.new b u
  ·by_cases w : (H b).isSome = true
   ·exact .inl w
   ·right
    cases v : s.heap.get? b with
    | none => rfl
    | some o =>
     by_cases d : D b
     ·refine Vc.xa_1_1 (hd b d) fun o' e' => ?_
      rw [u] at e'; cases e'
     ·refine Vc.xa_1_2 (x.chg b o v (by simpa using w) d) fun sl e' zz => ?_
      rw [u] at e'; cases e'
 dn := fun b d n => let ⟨_, e⟩ := hd b d; y.gone e (x.dn b d n)
 vk := x.vk.trans y.vk
 gens := y.gens.trans x.gens
 os := y.os.trans x.os
theorem Step.keeps (r : HR C H s.heap) (t : C.h0.StaysIn s.heap) (k : ∀ b o, s.heap.get? b = some o -> s'.heap.get? b = some o) (g : s'.gens = s.gens) (os : s'.os = s.os) : Step C D H s H s' :=
 ⟨r.keep (.of_keeps k) fun b o zz e => k b o e, fun b o e zz zz => ⟨o.slots, k b o e, fun zz => rfl⟩, fun b o e => k b o (t b o e), fun zz e => e, fun zz e => .inl e, fun zz zz e => e, .of_keeps k, g, os⟩
theorem Step.but (r : HR C H s.heap) (t : C.h0.StaysIn s.heap) (k : ∀ b o, s.heap.get? b = some o -> ¬ D b -> s'.heap.get? b = some o)
  (hH : ∀ b, D b -> H b = Option.none) (h0 : ∀ b, D b -> C.h0.get? b = Option.none) (l : ∀ b o, s.heap.get? b = some o -> D b -> Loose o)
  (d : ∀ b o es ep, s.heap.get? b = some o -> D b -> o.data = .dict es ep -> ∃ o' es' ep', s'.heap.get? b = some o' /\ o'.data = .dict es' ep')
  (g : s'.gens = s.gens) (os : s'.os = s.os) : Step C D H s H s' :=
 have vk : VK s.heap s'.heap := VK.of_but k l d
 ⟨r.keep vk fun b o q e => k b o e fun w => (by rw [hH b w] at q; cases q), fun b o e zz nd => ⟨o.slots, k b o e nd, fun zz => rfl⟩,
  fun b o e => k b o (t b o e) fun w => (by rw [h0 b w] at e; cases e), fun zz e => e, fun zz e => .inl e, fun zz zz e => e, vk, g, os⟩
theorem fresh_size (h : Heap) : h.get? h.objs.size = Option.none := by
 cases e : h.get? h.objs.size with
 | none => rfl
 | some o => exact absurd (Heap.lt_size e) (Nat.lt_irrefl _)
theorem Step.alloc {o : O} {ob : Obj} (r : HR C H s.heap) (t : C.h0.StaysIn s.heap)
  (ho : OR C (s.heap.push ob) s.heap.objs.size o) (hs : s'.heap = s.heap.push ob) (g : s'.gens = s.gens) (os : s'.os = s.os) : Step C No H s (upd H s.heap.objs.size o) s' := by
 have k : ∀ b o, s.heap.get? b = some o -> s'.heap.get? b = some o := fun b o e => by rw [hs]; exact Heap.get?_push_of_some _ e
 refine ⟨fun b o' e => ?_, fun b o e zz zz => ⟨o.slots, k b o e, fun zz => rfl⟩, fun b o e => k b o (t b o e), fun b e => ?_, fun b e => ?_, fun b d n => d.elim, .of_keeps k, g, os⟩
 ·by_cases q : b = s.heap.objs.size
  ·subst q; rw [upd_self] at e; cases e; rw [hs]; exact ho
  ·rw [upd_ne q] at e; exact (r b o' e).keep (.of_keeps k) fun ob => k b ob
 ·by_cases q : b = s.heap.objs.size
  ·subst q; rw [upd_self]; rfl
  ·rw [upd_ne q]; exact e
 ·by_cases q : b = s.heap.objs.size
  ·subst q; exact .inr (fresh_size _)
  ·rw [upd_ne q] at e; exact .inl e
theorem Step.mut {a : Addr} {o : O} (r : HR C H s.heap) (t : C.h0.StaysIn s.heap) (hH : (H a).isSome = true) (h0 : C.h0.get? a = Option.none) (hs : Heap.SameBut a s.heap s'.heap)
  (l : ∀ ob, s.heap.get? a = some ob -> Loose ob) (d : ∀ ob es ep, s.heap.get? a = some ob -> ob.data = .dict es ep -> ∃ o' es' ep', s'.heap.get? a = some o' /\ o'.data = .dict es' ep')
  (ho : VK s.heap s'.heap -> OR C s'.heap a o) (g : s'.gens = s.gens) (os : s'.os = s.os) : Step C No H s (upd H a o) s' := by
 have k : ∀ b o, s.heap.get? b = some o -> b ≠ a -> s'.heap.get? b = some o := fun b o e n => (hs.2 b n).trans e
 have vk : VK s.heap s'.heap := VK.of_but (D := (· = a)) k (fun b o e q => l o (by rw [<- q]; exact e)) fun b o es ep e q dd => by subst q; exact d o es ep e dd
 refine ⟨fun b o' e => ?_, fun b o e n zz => ?_, fun b o e => k b o (t b o e) ?_, fun b e => ?_, fun b e => ?_, fun b d n => d.elim, vk, g, os⟩
 ·by_cases q : b = a
  ·subst q; rw [upd_self] at e; cases e; exact ho vk
  ·rw [upd_ne q] at e; exact (r b o' e).keep vk fun ob w => k b ob w q
 ·refine ⟨o.slots, k b o e fun q => ?_, fun zz => rfl⟩
  subst q; rw [n] at hH; cases hH
 ·rintro rfl; rw [h0] at e; cases e
 ·by_cases q : b = a
  ·subst q; rw [upd_self]; rfl
  ·rw [upd_ne q]; exact e
 ·by_cases q : b = a
  ·subst q; exact .inl hH
  ·rw [upd_ne q] at e; exact .inl e
end
noncomputable def Room (A : Around) (d : Nat) : Prop := A.depth + 2 * d + 2 < recursionLimit /\ A.units + 8 * d + 40 < cLine
noncomputable def FrL (C : Cx) (H : MH) (h : Heap) (l : List Env) : Prop :=
 ∀ env ∈ l, env.scope.kind ≠ .module /\ ∃ L o es ep, env.frame = some L /\ h.get? L = some o /\ o.data = .dict es ep /\ H L = none /\ C.h0.get? L = none
theorem FrL.step {C : Cx} {D : Addr -> Prop} {H H' : MH} {s s' : Shared} {l : List Env} (x : FrL C H s.heap l) (y : Step C D H s H' s') : FrL C H' s'.heap l := fun env he => by
 obtain ⟨k, L, o, es, ep, f, g, d, n, z⟩ := x env he
 refine Vc.xa_3_2 (y.vk.dct L o es ep g d) fun o' es' ep' g' d' => ?_
 exact ⟨k, L, o', es', ep', f, g', d', y.gone g n, z⟩
structure Md where
 n : Nat
 q : Bool
structure Ok (C : Cx) (d : Md) (H : MH) (A : Around) (s : Shared) : Prop where
 rel : HR C H s.heap
 top : C.h0.StaysIn s.heap
 room : Room A d.n
 hnd : (d.q = true -> A.handled = none) /\ (A.handled = none ∨ ∃ a o vs r, A.handled = some (.ref a) /\ s.heap.get? a = some o /\ o.cls = .ref r /\ o.data = .fields vs /\ Ctx s.heap vs)
 frs : ∃ l, A.frames = some l /\ FrL C H s.heap l
theorem Ok.step {C : Cx} {D : Addr -> Prop} {d : Md} {H H' : MH} {A : Around} {s s' : Shared} (x : Ok C d H A s) (y : Step C D H s H' s') : Ok C d H' A s' := by
 refine ⟨y.rel, y.top, x.room, ⟨x.hnd.1, x.hnd.2.imp id ?_⟩, let ⟨l, e, f⟩ := x.frs; ⟨l, e, f.step y⟩⟩
 rintro ⟨a, o, vs, r, e, g, c, dd, z⟩
 refine Vc.xa_2_4 (y.vk.exc a o vs r g c dd) fun o' vs' g' c' d' z' => ?_
 exact ⟨a, o', vs', r, e, g', c'.1.trans c, d', z.keep y.vk.s z'⟩
theorem Ok.refl {C : Cx} {D : Addr -> Prop} {d : Md} {H : MH} {A : Around} {s : Shared} (x : Ok C d H A s) : Step C D H s H s := .refl x.rel x.top
theorem Ok.toks {C : Cx} {D : Addr -> Prop} {d : Md} {H : MH} {A : Around} {s : Shared} (x : Ok C d H A s) (n : Nat) : Step C D H s H { s with toks := n } := .keeps x.rel x.top (fun zz zz e => e) rfl rfl
end Vc
end
section
namespace Vc
open PySem
theorem dict_mapFields (o : Obj) (f : Array Value -> Array Value) : (o.mapFields f).dict = o.dict := by
 obtain ⟨c, d, dt, sl⟩ := o
 cases dt <;> rfl
theorem OR.not_fields {C : Cx} {h : Heap} {a : Addr} {ob : Obj} {vs : Array Value} (e : h.get? a = some ob) (d : ob.data = .fields vs) : ∀ {o : O}, ¬ OR C h a o
 | .lst _, ⟨_, _, ⟨_, p⟩, _⟩ => by rw [e] at p; cases p; cases d
 | .fro _, ⟨_, ⟨o, ho, _, _, q⟩, _⟩ => by rw [e] at ho; cases ho; rw [d] at q; cases q
 | .dci _, ⟨_, _, _, ⟨o, _, _, ho, _, q, _⟩, _⟩ => by rw [e] at ho; cases ho; rw [d] at q; cases q
 | .dcs _, ⟨_, _, _, ⟨o, _, _, ho, _, q, _⟩, _⟩ => by rw [e] at ho; cases ho; rw [d] at q; cases q
 | .ins _ _, ⟨_, _, _, ho⟩ => by rw [e] at ho; cases ho; cases d
 | .nsd _, ⟨_, _, _, ho, _⟩ => by rw [e] at ho; cases ho; cases d
 | .prd p, ⟨_, r⟩ => by obtain ⟨ob', h1, h2⟩ := p.there r; rw [e] at h1; cases h1; exact h2 _ d
theorem HR.no_fields {C : Cx} {H : MH} {h : Heap} {a : Addr} {ob : Obj} {vs : Array Value} (r : HR C H h) (e : h.get? a = some ob) (d : ob.data = .fields vs) : H a = none := by
 cases q : H a with
 | none => rfl
 | some o => exact ((r a o q).not_fields e d).elim
structure Fly (C : Cx) (tr : Bool) (s : Shared) (a : Addr) (c : String) (h : Heap) : Prop where
 new : s.heap.get? a = none
 obj : ∃ o vs r, h.get? a = some o /\ o.cls = .ref r /\ (C.G c (.ref r) /\ o.dict = none) /\ o.data = .fields vs /\ 1 < vs.size /\ CtxC c h vs /\
  ((tr = false /\ vs[1]? = some .none) ∨ ∃ T oT ts, vs[1]? = some (.ref T) /\ s.heap.get? T = none /\ T ≠ a /\ h.get? T = some oT /\ oT.cls = .type "traceback" /\ oT.data = .fields ts /\ 3 < ts.size)
noncomputable abbrev XP := String -> MH -> Prop
noncomputable abbrev XH := String -> MH -> Heap -> Prop
noncomputable def up (X : XP) : XH := fun c H zz => X c H
noncomputable def StX (C : Cx) (X : XH) : Prop := ∀ c (H : MH) (s s' : Shared) (D : Addr -> Prop), Step C D H s H s' -> (∀ b o, D b -> s.heap.get? b = some o -> ∃ vs, o.data = .fields vs) -> X c H s.heap -> X c H s'.heap
theorem stX_up {C : Cx} {X : XP} : StX C (up X) := fun zz zz zz zz zz zz zz h => h
noncomputable def XG (tr : Bool) (C : Cx) (D : Addr -> Prop) (H : MH) (s : Shared) (X : XH) (e : Value) (s' : Shared) : Prop :=
 ∃ a c H', e = .ref a /\ Step C D H s H' s' /\ (∀ b, D b -> ∃ o, s'.heap.get? b = some o) /\ Fly C tr s a c s'.heap /\ X c H' s'.heap
noncomputable abbrev XQ (tr : Bool) (C : Cx) (D : Addr -> Prop) (H : MH) (s : Shared) (X : XP) : Value -> Shared -> Prop := XG tr C D H s (up X)
theorem Fly.mono {C : Cx} {s : Shared} {a : Addr} {c : String} {h : Heap} (x : Fly C true s a c h) : Fly C false s a c h :=
 let ⟨o, vs, r, h1, h2, h3, h4, h5, h6, h7⟩ := x.obj
 ⟨x.new, o, vs, r, h1, h2, h3, h4, h5, h6, h7.imp (fun hq1 => Vc.xa_0_2 hq1 fun q zz => by cases q) id⟩
theorem XG.mono {C : Cx} {D : Addr -> Prop} {H : MH} {s : Shared} {X : XH} {e : Value} {s' : Shared} (x : XG true C D H s X e s') : XG false C D H s X e s' :=
 Exists.imp (fun zz x => Exists.imp (fun zz x => Exists.imp (fun zz x => ⟨x.1, x.2.1, x.2.2.1, x.2.2.2.1.mono, x.2.2.2.2⟩) x) x) x
theorem VK.of_records {h h' : Heap} {D : Addr -> Prop} (k : ∀ b o, h.get? b = some o -> ¬ D b -> ∃ sl, h'.get? b = some { o with slots := sl } /\ ((∀ es ep, o.data ≠ .dict es ep) -> sl = o.slots))
  (d : ∀ b o, h.get? b = some o -> D b -> ∃ o' vs vs', h'.get? b = some o' /\ o.data = .fields vs /\ o'.data = .fields vs' /\ (o'.cls = o.cls /\ o'.dict = o.dict) /\ o.cls ≠ .type "range" /\ vs'[2]? = vs[2]?) : VK h h' := by
 refine ⟨fun b o e s => ?_, fun b o vs r e c dd => ?_, fun b o es ep e dd => ?_⟩
 ·by_cases q : D b
  ·refine Vc.xa_3_6 (d b o e q) fun o' vs vs' e' d1 d2 c' n zz => ?_
   rcases s with ⟨_, _, _, d3⟩ | ⟨c3, _⟩
   ·rw [d1] at d3; cases d3
   ·exact (n c3).elim
  ·refine Vc.xa_1_2 (k b o e q) fun sl e' w => ?_
   have : sl = o.slots := w fun es ep d3 => by
    rcases s with ⟨_, _, _, d4⟩ | ⟨_, _, d4⟩ <;> rw [d4] at d3 <;> cases d3
   rw [this] at e'; exact e'
 ·by_cases q : D b
  ·refine Vc.xa_3_6 (d b o e q) fun o' vs1 vs' e' d1 d2 c' n g => ?_
   rw [d1] at dd; cases dd
   exact ⟨o', vs', e', c', d2, g⟩
  ·refine Vc.xa_1_2 (k b o e q) fun sl e' w => ?_
   exact ⟨_, vs, e', ⟨rfl, rfl⟩, dd, rfl⟩
 ·by_cases q : D b
  ·refine Vc.xa_3_6 (d b o e q) fun o' vs vs' e' d1 d2 c' n zz => ?_
   rw [d1] at dd; cases dd
  ·refine Vc.xa_1_2 (k b o e q) fun sl e' w => ?_
   exact ⟨_, es, ep, e', dd⟩
theorem Step.records {C : Cx} {D : Addr -> Prop} {H : MH} {s s' : Shared} (r : HR C H s.heap) (t : C.h0.StaysIn s.heap) (h0 : ∀ b, D b -> C.h0.get? b = none)
  (k : ∀ b o, s.heap.get? b = some o -> ¬ D b -> (s'.heap.get? b = some o ∨ (H b = none /\ C.h0.get? b = none /\ (∃ es ep, o.data = .dict es ep) /\ ∃ sl, s'.heap.get? b = some { o with slots := sl })))
  (d : ∀ b o, s.heap.get? b = some o -> D b -> ∃ o' vs vs', s'.heap.get? b = some o' /\ o.data = .fields vs /\ o'.data = .fields vs' /\ (o'.cls = o.cls /\ o'.dict = o.dict) /\ o.cls ≠ .type "range" /\ vs'[2]? = vs[2]?)
  (g : s'.gens = s.gens) (os : s'.os = s.os) : Step C D H s H s' := by
 have k' : ∀ b o, s.heap.get? b = some o -> ¬ D b -> ∃ sl, s'.heap.get? b = some { o with slots := sl } /\ ((∀ es ep, o.data ≠ .dict es ep) -> sl = o.slots) := fun b o e n => by
  rcases k b o e n with w | ⟨_, _, ⟨es, ep, w⟩, sl, w'⟩
  ·exact ⟨o.slots, w, fun zz => rfl⟩
  ·exact ⟨sl, w', fun q => (q es ep w).elim⟩
 have vk := VK.of_records k' d
 refine ⟨r.keep vk fun b o q e => ?_, fun b o e zz n => k' b o e n, fun b o e => ?_, fun zz e => e, fun zz e => .inl e, fun zz zz e => e, vk, g, os⟩
 ·by_cases w : D b
  ·refine Vc.xa_3_3 (d b o e w) fun o' vs zz zz d1 zz => ?_
   rw [r.no_fields e d1] at q; cases q
  ·rcases k b o e w with u | ⟨u, _⟩
   ·exact u
   ·rw [u] at q; cases q
 ·have e1 := t b o e
  by_cases w : D b
  ·rw [h0 b w] at e; cases e
  ·rcases k b o e1 w with u | ⟨_, u, _⟩
   ·exact u
   ·rw [u] at e; cases e
theorem FrL.fun {C : Cx} {H : MH} {h : Heap} : ∀ {l : List Env}, FrL C H h l -> h.FunFrames ⟨#[], {}⟩ l
 | [], _ => trivial
 | env :: l, x => by
  obtain ⟨k, L, o, es, ep, f, g, d, _⟩ := x env (.head _)
  exact ⟨k, ⟨L, o, f, rfl, g, fun vs q => by rw [d] at q; cases q⟩, FrL.fun fun e he => x e (.tail _ he)⟩
theorem FrL.mem {C : Cx} {H : MH} {h : Heap} {l : List Env} (x : FrL C H h l) {b : Addr} (hb : b ∈ l.filterMap (·.frame)) : H b = none /\ C.h0.get? b = none /\ ∃ o es ep, h.get? b = some o /\ o.data = .dict es ep := by
 refine Vc.xa_1_2 (List.mem_filterMap.mp hb) fun env he hf => ?_
 obtain ⟨_, L, o, es, ep, f, g, d, n, z⟩ := x env he
 rw [f] at hf; cases hf
 exact ⟨n, z, o, es, ep, g, d⟩
theorem fresh_top {C : Cx} {h : Heap} (t : C.h0.StaysIn h) {b : Addr} (e : h.get? b = none) : C.h0.get? b = none := by
 cases q : C.h0.get? b with
 | none => rfl
 | some o => rw [t b o q] at e; cases e
section
variable {C : Cx} {A : Around} {D : Addr -> Prop} {H : MH} {s s' : Shared} {X : XH} {e : Value} {env fenv : Env} {outer : List Env} {E : Value -> Shared -> Prop}
theorem frameOf_as {l : List Env} {L : Addr} {Q : Value -> Shared -> Prop} (hfr : A.frames = some (fenv :: outer)) (hl : s.heap.FunFrames ⟨#[], {}⟩ (fenv :: outer)) (hff : fenv.frame = env.frame)
  (hf : env.frame = some L) (h : ∀ h', Heap.SlotsOnly ((fenv :: outer).filterMap (·.frame)) s.heap h' -> Q (.ref L) { s with heap := h' }) : wpAny C.M A (frameOf env) Q E s := by
 unfold frameOf
 refine wpAny_bind (wpAny_frameEnvs hfr ?_)
 have hdw : ((fenv :: outer).dropWhile fun x => x.frame != env.frame) = fenv :: outer := by simp [List.dropWhile, hff]
 rw [hdw]
 unfold frameObject
 refine wpAny_bind (wpAny_bind (wpAny_readyFrames_fun hl fun h₁ hs₁ => wpAny_pure ?_))
 rw [hff, hf]
 exact wpAny_pure (h h₁ hs₁)
theorem note_tail {a L : Addr} {c : String} {H' : MH} {head : Value} {hadNext : Bool} {Q : Unit -> Shared -> Prop} (hfr : A.frames = some (fenv :: outer)) (hff : fenv.frame = env.frame) (hl : FrL C H' s'.heap (fenv :: outer)) (hf : env.frame = some L)
  (ht : C.h0.StaysIn s.heap) (st : Step C D H s H' s') (hD : ∀ b, D b -> ∃ o, s'.heap.get? b = some o) {o : Obj} {vs : Array Value} {r : Addr} (new : s.heap.get? a = none) (ho : s'.heap.get? a = some o) (hc : o.cls = .ref r) (hg : C.G c (.ref r) /\ o.dict = none) (hd : o.data = .fields vs) (hsz : 1 < vs.size) (h2 : CtxC c s'.heap vs)
  (hQ : ∀ h', Step C D H s H' { s' with heap := h' } -> (∀ b o', s'.heap.get? b = some o' -> ∃ o'', h'.get? b = some o'') -> (∀ X : XH, StX C X -> X c H' s'.heap -> X c H' h') -> Fly C true s a c h' -> Q () { s' with heap := h' }) :
  wpAny C.M A (do let f <- frameOf env; let pl <- entryPlaceOf L hadNext; let b <- EntryCells.newEntry head f .none (rawInt L) .none pl; setField (.ref a) 1 b) Q E s' := by
 refine wpAny_bind (frameOf_as (l := []) hfr hl.fun hff hf fun h₁ hs₁ => ?_)
 refine wpAny_bind (wpAny_entryPlaceOf fun pl hpl => ?_)
 unfold EntryCells.newEntry newFields
 refine wpAny_bind (wpAny_newObj_type ?_ (hpl.sizeOk5 _ _ _ _ _))
 have hna : a ∉ (fenv :: outer).filterMap (·.frame) := fun hm => by
  obtain ⟨_, _, o', es, ep, g, d⟩ := hl.mem hm
  rw [ho] at g; cases g; rw [hd] at d; cases d
 have ho₁ : h₁.get? a = some o := (hs₁.2.1 a hna).trans ho
 generalize hTB : ({ cls := .type "traceback", dict := none, data := .fields ([head, .ref L, .none, rawInt L, .none] ++ (if pl.isEmpty then List.replicate 6 Value.none else pl)).toArray } : Obj) = TB
 have hTBc : TB.cls = .type "traceback" := by rw [<- hTB]
 have hTBd : ∃ ts, TB.data = .fields ts /\ 3 < ts.size := by rw [<- hTB]; exact ⟨_, rfl, by simp⟩
 have hTBf : TB.isFreed = false := by rw [<- hTB]; rfl
 have ho₂ := Heap.get?_push_of_some (h := h₁) TB ho₁
 refine wpAny_setField ho₂ hd hsz ?_
 have hne : h₁.objs.size ≠ a := Nat.ne_of_gt (Heap.lt_size ho₁)
 have hd₃ := Obj.data_mapFields hd (·.setIfInBounds 1 (Value.ref h₁.objs.size))
 have ho₃ := Heap.get?_update_self (Obj.mapFields (·.setIfInBounds 1 (Value.ref h₁.objs.size))) ho₂ (Obj.isFreed_of_fields hd₃)
 have hT₃ := (Heap.get?_update_other (h₁.push TB) (Obj.mapFields (·.setIfInBounds 1 (Value.ref h₁.objs.size))) (Ne.symm hne)).trans (Heap.get?_push_size h₁ hTBf)
 have hTs : s.heap.get? h₁.objs.size = none := by
  cases q : s.heap.get? h₁.objs.size with
  | none => rfl
  | some o' =>
   exfalso
   have hlt : h₁.objs.size < s'.heap.objs.size := by
    by_cases u : (H h₁.objs.size).isSome = true
    ·refine Vc.xa_1_1 (st.rel.there (st.dom _ u)) fun ob w => ?_
     exact Heap.lt_size w
    ·by_cases dd : D h₁.objs.size
     ·refine Vc.xa_1_1 (hD _ dd) fun ob w => ?_
      exact Heap.lt_size w
     ·refine Vc.xa_1_2 (st.chg _ o' q (by simpa using u) dd) fun sl w zz => ?_
      exact Heap.lt_size w
   rw [hs₁.1] at hlt; exact Nat.lt_irrefl _ hlt
 have keep : ∀ b o', s'.heap.get? b = some o' -> b ≠ a -> (((h₁.push TB).update a (Obj.mapFields (·.setIfInBounds 1 (Value.ref h₁.objs.size)))).get? b = some o' ∨
   (H' b = none /\ C.h0.get? b = none /\ (∃ es ep, o'.data = .dict es ep) /\ ∃ sl, ((h₁.push TB).update a (Obj.mapFields (·.setIfInBounds 1 (Value.ref h₁.objs.size)))).get? b = some { o' with slots := sl })) := fun b o' hb hba => by
  rw [Heap.get?_update_other _ _ (Ne.symm hba)]
  by_cases m : b ∈ (fenv :: outer).filterMap (·.frame)
  ·obtain ⟨n, z, o'', es, ep, g, d⟩ := hl.mem m
   rw [hb] at g; cases g
   refine Vc.xa_1_1 (hs₁.2.2 b o' hb) fun sl w => ?_
   exact .inr ⟨n, z, ⟨es, ep, d⟩, sl, Heap.get?_push_of_some _ w⟩
  ·exact .inl (Heap.get?_push_of_some _ ((hs₁.2.1 b m).trans hb))
 have z : Step C (· = a) H' s' H' { s' with heap := (h₁.push TB).update a (Obj.mapFields (·.setIfInBounds 1 (Value.ref h₁.objs.size))) } := by
  refine Step.records st.rel st.top (fun b q => ?_) (fun b o' hb hba => keep b o' hb hba) (fun b o' hb q => ?_) rfl rfl
  ·subst q; exact fresh_top ht new
  ·subst q
   rw [ho] at hb; cases hb
   exact ⟨_, vs, _, ho₃, hd, hd₃, ⟨Obj.cls_mapFields .., dict_mapFields ..⟩, by rw [hc]; exact Value.noConfusion, by simp⟩
 refine hQ _ ?_ (fun b o' hb => ?_) (fun X sx hx => sx c H' s' _ _ z (fun b ob q e => by subst q; rw [ho] at e; cases e; exact ⟨vs, hd⟩) hx) ⟨new, _, _, r, ho₃, (Obj.cls_mapFields ..).trans hc, ⟨hg.1, (dict_mapFields ..).trans hg.2⟩, hd₃, by simpa using hsz, h2.keep z.vk.s (by simp), .inr ⟨h₁.objs.size, TB, _, by simp [hsz], hTs, hne, hT₃, hTBc, hTBd.choose_spec.1, hTBd.choose_spec.2⟩⟩
 ·exact st.trans_new z (fun b q => by subst q; exact new) hD
 ·by_cases q : b = a
  ·subst q; exact ⟨_, ho₃⟩
  ·rcases keep b o' hb q with w | ⟨_, _, _, _, w⟩ <;> exact ⟨_, w⟩
theorem noteG (sx : StX C X) (t0 : C.h0.StaysIn s.heap) (hfr : A.frames = some (fenv :: outer)) (hff : fenv.frame = env.frame) (hlo : ∀ H' : MH, ∀ s' : Shared, Step C D H s H' s' -> FrL C H' s'.heap (fenv :: outer)) (x : XG false C D H s X e s') {Q : Unit -> Shared -> Prop} (hQ : ∀ s'', XG true C D H s X e s'' -> Q () s'') : wpAny C.M A (noteFrame e env) Q E s' := by
 refine wpAny_mono (Q := fun zz s'' => XG true C D H s X e s'') (E := E) ?_ (fun zz s'' h => hQ s'' h) fun zz zz h => h
 refine Vc.xa_3_5 x fun a c H' hr185_3 st hD ho185_6 hX => ?_
 try clear x
 subst hr185_3
 obtain ⟨new, o, vs, r, ho, hc, hg, hd, hsz, h2, hT⟩ := ho185_6
 have hl := hlo H' s' st
 obtain ⟨_, L, _, _, _, hf', _⟩ := hl fenv (.head _)
 have hf : env.frame = some L := hff ▸ hf'
 unfold noteFrame
 simp only [hf]
 rcases hT with ⟨_, h1⟩ | ⟨T, oT, ts, h1, newT, hTa, hoT, hcT, hdT, hszT⟩
 ·refine wpAny_bind (wpAny_field ho hd h1 ?_)
  rw [if_neg (by decide)]
  refine note_tail hfr hff hl hf t0 st hD new ho hc hg hd hsz h2 fun h' st' kp kx fl => ⟨a, c, H', rfl, st', fun b db => let ⟨o, w⟩ := hD b db; kp b o w, fl, kx X sx hX⟩
 ·refine wpAny_bind (wpAny_field ho hd h1 ?_)
  rw [if_pos (show (Value.ref T != Value.none) = true from by simp)]
  refine wpAny_bind (wpAny_field hoT hdT (x := ts[3]) (by simp [hszT]) ?_)
  by_cases q : (ts[3] == rawInt L) = true
  ·rw [if_pos q]
   exact wpAny_pure ⟨a, c, H', rfl, st, hD, ⟨new, o, vs, r, ho, hc, hg, hd, hsz, h2, .inr ⟨T, oT, ts, h1, newT, hTa, hoT, hcT, hdT, hszT⟩⟩, hX⟩
  ·rw [if_neg q]
   have hdT' := Obj.data_mapFields hdT (·.setIfInBounds 3 Value.none)
   have hoT' := Heap.get?_update_self (Obj.mapFields (·.setIfInBounds 3 Value.none)) hoT (Obj.isFreed_of_fields hdT')
   have oth : ∀ b, b ≠ T -> (s'.heap.update T (Obj.mapFields (·.setIfInBounds 3 Value.none))).get? b = s'.heap.get? b := fun b hb => Heap.get?_update_other _ _ (Ne.symm hb)
   refine wpAny_bind (wpAny_setField hoT hdT hszT ?_)
   have z : Step C (· = T) H' s' H' { s' with heap := s'.heap.update T (Obj.mapFields (·.setIfInBounds 3 Value.none)) } := by
    refine Step.records st.rel st.top (fun b q => ?_) (fun b o' hb hba => .inl ((oth b hba).trans hb)) (fun b o' hb q => ?_) rfl rfl
    ·subst q; exact fresh_top t0 newT
    ·subst q
     rw [hoT] at hb; cases hb
     exact ⟨_, ts, _, hoT', hdT, hdT', ⟨Obj.cls_mapFields .., dict_mapFields ..⟩, by rw [hcT]; simp, by simp⟩
   have st' := st.trans_new z (fun b q => by subst q; exact newT) hD
   have ex : ∀ b o', s'.heap.get? b = some o' -> ∃ o'', (s'.heap.update T (Obj.mapFields (·.setIfInBounds 3 Value.none))).get? b = some o'' := fun b o' hb => by
    by_cases q : b = T
    ·subst q; exact ⟨_, hoT'⟩
    ·exact ⟨o', (oth b q).trans hb⟩
   refine note_tail hfr hff (hlo H' _ st') hf t0 st' (fun b db => let ⟨o, w⟩ := hD b db; ex b o w) new ((oth a (Ne.symm hTa)).trans ho) hc hg hd hsz (h2.keep z.vk.s rfl) fun h' st'' kp kx fl => ⟨a, c, H', rfl, st'', fun b db => let ⟨o, w⟩ := hD b db; let ⟨o', w'⟩ := ex b o w; kp b o' w', fl, kx X sx (sx c H' s' _ _ z (fun b ob q e => by subst q; rw [hoT] at e; cases e; exact ⟨ts, hdT⟩) hX)⟩
theorem flight {fr : Option Addr} {Q : Unit -> Shared -> Prop} (sx : StX C X) (t0 : C.h0.StaysIn s.heap) (x : XG true C D H s X e s') (hQ : ∀ s'', XG true C D H s X e s'' -> Q () s'') : wpAny C.M A (setFlight e fr) Q E s' := by
 refine Vc.xa_3_5 x fun a c H' hr221_3 st hD ho221_6 hX => ?_
 try clear x
 subst hr221_3
 obtain ⟨new, o, vs, r, ho, hc, hg, hd, hsz, h2, hT⟩ := ho221_6
 rcases hT with ⟨q, _⟩ | ⟨T, oT, ts, h1, newT, hTa, hoT, hcT, hdT, hszT⟩
 ·cases q
 unfold setFlight
 refine wpAny_bind (wpAny_field ho hd h1 ?_)
 rw [if_pos (show (Value.ref T != Value.none) = true from by simp)]
 generalize (fr.elim Value.none fun f => rawInt f) = fv
 have hdT' := Obj.data_mapFields hdT (·.setIfInBounds 3 fv)
 have hoT' := Heap.get?_update_self (Obj.mapFields (·.setIfInBounds 3 fv)) hoT (Obj.isFreed_of_fields hdT')
 have oth : ∀ b, b ≠ T -> (s'.heap.update T (Obj.mapFields (·.setIfInBounds 3 fv))).get? b = s'.heap.get? b := fun b hb => Heap.get?_update_other _ _ (Ne.symm hb)
 refine wpAny_setField hoT hdT hszT ?_
 have z : Step C (· = T) H' s' H' { s' with heap := s'.heap.update T (Obj.mapFields (·.setIfInBounds 3 fv)) } := by
  refine Step.records st.rel st.top (fun b q => ?_) (fun b o' hb hba => .inl ((oth b hba).trans hb)) (fun b o' hb q => ?_) rfl rfl
  ·subst q; exact fresh_top t0 newT
  ·subst q
   rw [hoT] at hb; cases hb
   exact ⟨_, ts, _, hoT', hdT, hdT', ⟨Obj.cls_mapFields .., dict_mapFields ..⟩, by rw [hcT]; simp, by simp⟩
 refine hQ _ ⟨a, c, H', rfl, st.trans_new z (fun b q => by subst q; exact newT) hD, fun b db => ?_, ⟨new, o, vs, r, (oth a (Ne.symm hTa)).trans ho, hc, hg, hd, hsz, h2.keep z.vk.s rfl, .inr ⟨T, _, _, h1, newT, hTa, hoT', (Obj.cls_mapFields ..).trans hcT, hdT', by simpa using hszT⟩⟩, sx c H' s' _ _ z (fun b ob q e => by subst q; rw [hoT] at e; cases e; exact ⟨ts, hdT⟩) hX⟩
 refine Vc.xa_1_1 (hD b db) fun ob w => ?_
 by_cases q : b = T
 ·subst q; exact ⟨_, hoT'⟩
 ·exact ⟨ob, (oth b q).trans w⟩
theorem cameBack {d : Md} (sx : StX C X) (ok : Ok C d H A s) (x : XG true C D H s X e s') : cameBackBy C.M A env (XG true C D H s X) e s' := by
 refine Vc.xa_3_5 (id x) fun a c H' hr245_3 st hD fl hX => ?_
 subst hr245_3
 obtain ⟨new, o, vs, r, ho, hc, hg, hd, hsz, h2, hT⟩ := id fl
 rcases hT with ⟨q, _⟩ | ⟨T, oT, ts, h1, newT, hTa, hoT, hcT, hdT, hszT⟩
 ·cases q
 unfold cameBackBy
 refine wpAny_bind (wpAny_field ho hd h1 ?_)
 rw [if_neg (show ¬ (Value.ref T == Value.none) = true from by simp)]
 exact flight sx ok.top x fun s'' x' => x'
theorem leave {d : Md} (sx : StX C X) (ok : Ok C d H A s) (hfr : A.frames = some (fenv :: outer)) (hff : fenv.frame = env.frame) (hlo : ∀ H' : MH, ∀ s' : Shared, Step C D H s H' s' -> FrL C H' s'.heap (fenv :: outer)) (x : XG false C D H s X e s')
  {Q : Unit -> Shared -> Prop} (hQ : ∀ s'', XG true C D H s X e s'' -> Q () s'') : wpAny C.M A (leaving env e) Q E s' := by
 unfold leaving
 exact wpAny_bind (noteG sx ok.top hfr hff hlo x fun s₁ x₁ => flight sx ok.top x₁ hQ)
theorem note {d : Md} (sx : StX C X) (ok : Ok C d H A s) (hfr : A.frames = some (fenv :: outer)) (hff : fenv.frame = env.frame) (hlo : ∀ H' : MH, ∀ s' : Shared, Step C D H s H' s' -> FrL C H' s'.heap (fenv :: outer)) (x : XG false C D H s X e s') : notedBy C.M A env (XG true C D H s X) e s' :=
 noteG sx ok.top hfr hff hlo x fun zz h => h
theorem passing {d : Md} {α : Type} {what : String} {Q : α -> Shared -> Prop} (sx : StX C X) (ok : Ok C d H A s) (x : XG true C D H s X e s') (hE : ∀ s'', XG true C D H s X e s'' -> E e s'') : wpAny C.M A (passOn what e env : Sem α) Q E s' := by
 refine Vc.xa_3_5 (id x) fun a c H' hr263_3 st hD fl hX => ?_
 subst hr263_3
 obtain ⟨new, o, vs, r, ho, hc, hg, hd, hsz, h2, hT⟩ := id fl
 rcases hT with ⟨q, _⟩ | ⟨T, oT, ts, h1, newT, hTa, hoT, hcT, hdT, hszT⟩
 ·cases q
 unfold passOn
 refine wpAny_bind (wpAny_field ho hd h1 ?_)
 rw [if_neg (show ¬ (Value.ref T == Value.none) = true from by simp)]
 exact wpAny_bind (flight sx ok.top x fun s'' x' => wpAny_throw (hE s'' x'))
end
end Vc
end
section
namespace Vc
open PySem
set_option genInjectivity false in
set_option genSizeOf false in
inductive Ex where
 | nm (i : Nat)
 | gl (x : String)
 | ci (i : Int)
 | cs (s : String)
 | cb (b : Bool)
 | cn
 | bin (op : Operator) (l r : Ex)
 | una (op : UnaryOp) (e : Ex)
 | cmp (op : CmpOp) (l r : Ex)
 | cmp2 (op op' : CmpOp) (l m r : Ex)
 | bop (op : BoolOp) (es : List Ex)
 | ife (c a b : Ex)
 | lst (es : List Ex)
 | tup (es : List Ex)
 | emp (k : Nat)
 | dct (ks : List String) (es : List Ex)
 | sub (o i : Ex)
 | sli (o l u t : Ex)
 | call (f : String) (es : List Ex)
 | meth (o : Ex) (m : String) (es : List Ex)
 | att (o : Ex) (a : String)
 | comp (k : Nat) (elt it : Ex) (ifs : List Ex)
 deriving Inhabited
set_option genInjectivity false in
set_option genSizeOf false in
inductive Src where
 | pl (e : Ex)
 | en (e : Ex)
 | zp (a b : Ex)
 deriving Inhabited
set_option genInjectivity false in
set_option genSizeOf false in
inductive St where
 | asg (i : Nat) (e : Ex)
 | unp (is : List Nat) (e : Ex)
 | seti (o i e : Ex)
 | seta (o : Ex) (a : String) (e : Ex)
 | exp (e : Ex)
 | ret (e : Ex)
 | ife (c : Ex) (a b : List St)
 | for (k : List Nat) (it : Src) (body : List St)
 | whl (c : Ex) (body : List St)
 | rais (c : String) (msg : String)
 | tre (body : List St) (c : String) (as : Option Nat) (hb : List St) (el : List St)
 | pas
 | fz (i j : Nat) (a b : Ex) (body : List St)
 | trr (body : List St) (c c2 m : String)
 deriving Inhabited
noncomputable abbrev Lo := List (Option V)
noncomputable def lk : Lo -> Nat -> Option V
 | [], _ => none
 | x :: _, 0 => x
 | _ :: r, i + 1 => lk r i
noncomputable def ls : Lo -> Nat -> V -> Lo
 | [], _, _ => []
 | _ :: r, 0, v => some v :: r
 | x :: r, i + 1, v => x :: ls r i v
theorem ls_length : ∀ (r : Lo) (i : Nat) (v : V), (ls r i v).length = r.length
 | [], _, _ => rfl
 | _ :: _, 0, _ => rfl
 | _ :: r, i + 1, v => by simp [ls, ls_length r i v]
theorem lk_ls_ne : ∀ {r : Lo} {i j : Nat} {v : V}, i ≠ j -> lk (ls r i v) j = lk r j
 | [], _, _, _, _ => rfl
 | _ :: _, 0, 0, _, h => (h rfl).elim
 | _ :: _, 0, _ + 1, _, _ => rfl
 | _ :: _, _ + 1, 0, _, _ => rfl
 | _ :: r, i + 1, j + 1, v, h => by simpa [ls, lk] using lk_ls_ne (r := r) (v := v) fun e => h (by rw [e])
theorem lk_ls_self : ∀ {r : Lo} {i : Nat} {v w : V}, lk (ls r i v) i = some w -> v = w
 | [], _, _, _, h => by simp [ls, lk] at h
 | _ :: _, 0, _, _, h => by simpa [ls, lk] using h
 | _ :: r, i + 1, v, w, h => by simp [ls, lk] at h; exact lk_ls_self h
theorem lk_append : ∀ {r t : Lo} {i : Nat}, lk (r ++ t) (r.length + i) = lk t i
 | [], _, _ => by simp
 | _ :: r, t, i => by rw [List.cons_append, List.length_cons, show r.length + 1 + i = (r.length + i) + 1 by omega]; simpa [lk] using lk_append (r := r)
theorem lk_append_lt : ∀ {r t : Lo} {i : Nat}, i < r.length -> lk (r ++ t) i = lk r i
 | [], _, _, h => by simp at h
 | _ :: _, _, 0, _ => rfl
 | _ :: r, t, i + 1, h => by simpa [lk] using lk_append_lt (r := r) (t := t) (i := i) (by simpa using h)
noncomputable def rngItems (a b c : Int) : List V := (List.range (Builtin.Range.rangeSize a b c).toNat).map fun (k : Nat) => V.int (a + (k : Int) * c)
noncomputable def itemsOf (H : MH) : V -> Option (List V)
 | .ref a => (match H a with | some (.lst l) => some l | some (.fro l) => some l | _ => none)
 | .tup l => some l
 | .rng a b c => some (rngItems a b c)
 | .str x => some (x.cps.toList.map fun c => V.str ⟨#[c]⟩)
 | _ => none
section
variable (C : Cx) (d : Md)
noncomputable def QP (H : MH) (s : Shared) (Q : V -> MH -> Prop) (v : Value) (s' : Shared) : Prop := ∃ r H', Step C No H s H' s' /\ VR C s'.heap r v /\ Q r H'
noncomputable def BinW (op : Operator) (a b : V) (H : MH) (Q : V -> MH -> Prop) (X : XP) : Prop :=
 ∀ A s ca cb, Ok C d H A s -> VR C s.heap a ca -> VR C s.heap b cb -> wpAny C.M A (binaryOp op ca cb) (QP C H s Q) (XQ false C No H s X) s
noncomputable def CmpW (op : CmpOp) (a b : V) (H : MH) (Q : V -> MH -> Prop) (X : XP) : Prop :=
 ∀ A s ca cb, Ok C d H A s -> VR C s.heap a ca -> VR C s.heap b cb -> wpAny C.M A (compareOp op ca cb) (QP C H s Q) (XQ false C No H s X) s
noncomputable def UnaW (op : UnaryOp) (a : V) (H : MH) (Q : V -> MH -> Prop) (X : XP) : Prop :=
 ∀ A s ca, Ok C d H A s -> VR C s.heap a ca -> wpAny C.M A (unaryOp op ca) (QP C H s Q) (XQ false C No H s X) s
noncomputable def TruW (a : V) (H : MH) (Q : Bool -> MH -> Prop) (X : XP) : Prop :=
 ∀ A s ca, Ok C d H A s -> VR C s.heap a ca -> wpAny C.M A (truthy ca) (fun b s' => ∃ H', Step C No H s H' s' /\ Q b H') (XQ false C No H s X) s
noncomputable def SubW (o i : V) (H : MH) (Q : V -> MH -> Prop) (X : XP) : Prop :=
 ∀ A s co ci, Ok C d H A s -> VR C s.heap o co -> VR C s.heap i ci ->
  wpAny C.M A (getitemInPython co) (fun b s' => b = false /\ s' = s) (fun zz zz => False) s /\ wpAny C.M A (getItem co ci) (QP C H s Q) (XQ false C No H s X) s
noncomputable def SliW (o l u t : V) (H : MH) (Q : V -> MH -> Prop) (X : XP) : Prop :=
 ∀ A s co cl cu ct q, Ok C d H A s -> VR C s.heap o co -> VR C s.heap l cl -> VR C s.heap u cu -> VR C s.heap t ct -> s.heap.get? q = some { cls := .type "slice", data := .fields #[cl, cu, ct] } ->
  wpAny C.M A (getitemInPython co) (fun b s' => b = false /\ s' = s) (fun zz zz => False) s /\ wpAny C.M A (getItem co (.ref q)) (QP C H s Q) (XQ false C No H s X) s
noncomputable def Callee (fv : Value) : Prop := ∀ A s (Q : Keeper -> Shared -> Prop) (E : Value -> Shared -> Prop), C.h0.StaysIn s.heap -> (∀ k, Q k s) -> wpAny C.M A (keeperOf fv) Q E s
noncomputable def CallV (fv : Value) (args : List V) (H : MH) (Q : V -> MH -> Prop) (X : XP) : Prop :=
 ∀ A s cargs, Ok C d H A s -> VRs C s.heap args cargs -> wpAny C.M A (call fv cargs) (QP C H s Q) (XQ false C No H s X) s
noncomputable def Fn (f : String) : Prop := ∃ fv, C.G f fv /\ Callee C fv
noncomputable def CallW (f : String) (args : List V) (H : MH) (Q : V -> MH -> Prop) (X : XP) : Prop := ∀ fv, C.G f fv -> CallV C d fv args H Q X
noncomputable def MGet (o : V) (m : String) (fv : Value) (H : MH) : Prop :=
 ∀ A s co pl (Q : Value × List Value -> Shared -> Prop) (E : Value -> Shared -> Prop), Ok C d H A s -> VR C s.heap o co -> Q (fv, [co]) s -> wpAny C.M A (getMethod co (Str.ofString m) pl) Q E s
noncomputable def AttW (o : V) (a : String) (H : MH) (Q : V -> MH -> Prop) (X : XP) : Prop :=
 ∀ A s co, Ok C d H A s -> VR C s.heap o co -> wpAny C.M A (getAttr co (Str.ofString a) true) (QP C H s Q) (XQ false C No H s X) s
noncomputable def SetIW (o i v : V) (H : MH) (Q : MH -> Prop) (X : XP) : Prop :=
 ∀ A s co ci cv, Ok C d H A s -> VR C s.heap o co -> VR C s.heap i ci -> VR C s.heap v cv -> wpAny C.M A (setItem co ci cv) (fun zz s' => ∃ H', Step C No H s H' s' /\ Q H') (XQ false C No H s X) s
noncomputable def SetAW (o : V) (a : String) (v : V) (H : MH) (Q : MH -> Prop) (X : XP) : Prop :=
 ∀ A s co cv, Ok C d H A s -> VR C s.heap o co -> VR C s.heap v cv -> wpAny C.M A (setAttr co (Str.ofString a) cv) (fun zz s' => ∃ H', Step C No H s H' s' /\ Q H') (XQ false C No H s X) s
noncomputable def DctW (ks : List String) (vs : List V) (H : MH) (Q : V -> MH -> Prop) : Prop :=
 ks.length = vs.length /\ vs.length <= 16 /\ (ks.map Str.ofString).Nodup /\ ∀ a, H a = none -> Q (.ref a) (upd H a (.dcs ((ks.map Str.ofString).zip vs)))
noncomputable def EmpW (k : Nat) (H : MH) (Q : V -> MH -> Prop) : Prop := ∀ a, H a = none -> Q (.ref a) (upd H a (match k with | 0 => .dci [] | 1 => .dcs [] | _ => .prd (dckP [])))
noncomputable def NewL (vs : List V) (H : MH) (Q : V -> MH -> Prop) : Prop := vs.length <= sizeLine /\ ∀ a, H a = none -> Q (.ref a) (upd H a (.lst vs))
noncomputable def NewT (vs : List V) (H : MH) (Q : V -> MH -> Prop) : Prop := vs.length <= sizeLine /\ Q (.tup vs) H
noncomputable def Itq (d : Md) (iv : V) : Prop := (d.q = true ∨ (∃ a, iv = .ref a) ∨ ∃ l, iv = .tup l) /\ (∀ a b c, iv = .rng a b c -> Builtin.Range.small a b c = true)
noncomputable def parts (k : Nat) (x : V) : Option (List V) :=
 if k = 1 then some [x] else match x with
  | .tup l => if l.length = k then some l else none
  | _ => none
noncomputable def wpC (k : Nat) (iv : V) (all : List V) (stp : List V -> MH -> (Option V -> MH -> Prop) -> Prop) : List V -> List V -> MH -> (List V -> MH -> Prop) -> Prop
 | [], acc, H, K => itemsOf H iv = some all /\ K acc H
 | x :: xs, acc, H, K => itemsOf H iv = some all /\ ∃ vs, parts k x = some vs /\ stp vs H (fun r H' => wpC k iv all stp xs (match r with | some v => acc ++ [v] | none => acc) H' K)
noncomputable abbrev WE := Lo -> MH -> (V -> MH -> Prop) -> XP -> Prop
noncomputable abbrev WT := Lo -> MH -> (Bool -> MH -> Prop) -> XP -> Prop
structure WX where
 e : WE
 t : WT
noncomputable def tOf (E : WE) : WT := fun ρ H P X => E ρ H (fun v H1 => TruW C d v H1 P X) X
noncomputable def dx (E : WE) : WX := ⟨E, tOf C d E⟩
noncomputable def xEs : List WX -> Lo -> MH -> (List V -> MH -> Prop) -> XP -> Prop
 | [], _, H, Q, _ => Q [] H
 | e :: es, ρ, H, Q, X => e.e ρ H (fun v H1 => xEs es ρ H1 (fun vs H2 => Q (v :: vs) H2) X) X
noncomputable def xB (op : BoolOp) : List WX -> WE
 | [], _, _, _, _ => False
 | e :: es, ρ, H, Q, X => match es with
  | [] => e.e ρ H Q X
  | _ :: _ => e.e ρ H (fun v H1 => TruW C d v H1 (fun t H2 => if (op = .And /\ t = false) ∨ (op = .Or /\ t = true) then Q v H2 else xB op es ρ H2 Q X) X) X
noncomputable def xA (op : BoolOp) : List WX -> WT
 | [], _, H, Q, _ => Q (decide (op = .And)) H
 | e :: es, ρ, H, Q, X => e.t ρ H (fun t H1 => if (op = .And /\ t = false) ∨ (op = .Or /\ t = true) then Q t H1 else xA op es ρ H1 Q X) X
noncomputable def xTs : List WX -> WT
 | [], _, H, Q, _ => Q true H
 | e :: es, ρ, H, Q, X => e.t ρ H (fun t H1 => if t = true then xTs es ρ H1 Q X else Q false H1) X
mutual
noncomputable def wpX : Ex -> WX
 | .nm i => dx C d fun ρ H Q zz => ∃ v, lk ρ i = some v /\ Q v H
 | .gl x => dx C d fun zz H Q zz => ∃ v cv, C.G x cv /\ VR C C.h0 v cv /\ Q v H
 | .ci i => dx C d fun zz H Q zz => Q (.int i) H
 | .cs s => dx C d fun zz H Q zz => Q (.str (Str.ofString s)) H
 | .cb b => dx C d fun zz H Q zz => Q (.bool b) H
 | .cn => dx C d fun zz H Q zz => Q .none H
 | .bin op l r => dx C d fun ρ H Q X => (wpX l).e ρ H (fun a H1 => (wpX r).e ρ H1 (fun b H2 => BinW C d op a b H2 Q X) X) X
 | .una op e => ⟨fun ρ H Q X => (wpX e).e ρ H (fun a H1 => UnaW C d op a H1 Q X) X, match op with
   | .Not => fun ρ H Q X => (wpX e).t ρ H (fun t H1 => Q (!t) H1) X
   | op => fun ρ H Q X => (wpX e).e ρ H (fun a H1 => UnaW C d op a H1 (fun v H1 => TruW C d v H1 Q X) X) X⟩
 | .cmp op l r => dx C d fun ρ H Q X => (wpX l).e ρ H (fun a H1 => (wpX r).e ρ H1 (fun b H2 => CmpW C d op a b H2 Q X) X) X
 | .cmp2 op op' l m r => ⟨fun ρ H Q X => (wpX l).e ρ H (fun a H1 => (wpX m).e ρ H1 (fun b H2 => CmpW C d op a b H2 (fun c H3 => TruW C d c H3 (fun t H4 =>
   if t = true then (wpX r).e ρ H4 (fun b' H5 => CmpW C d op' b b' H5 Q X) X else Q c H4) X) X) X) X,
   fun ρ H Q X => (wpX l).e ρ H (fun a H1 => (wpX m).e ρ H1 (fun b H2 => CmpW C d op a b H2 (fun c H3 => TruW C d c H3 (fun t H4 =>
   if t = true then (wpX r).e ρ H4 (fun b' H5 => CmpW C d op' b b' H5 (fun c' H6 => TruW C d c' H6 Q X) X) X else Q false H4) X) X) X) X⟩
 | .bop op es => ⟨xB C d op (wpXs es), xA op (wpXs es)⟩
 | .ife c a b => ⟨fun ρ H Q X => (wpX c).t ρ H (fun t H1 => if t = true then (wpX a).e ρ H1 Q X else (wpX b).e ρ H1 Q X) X,
   fun ρ H Q X => (wpX c).t ρ H (fun t H1 => if t = true then (wpX a).t ρ H1 Q X else (wpX b).t ρ H1 Q X) X⟩
 | .lst es => dx C d fun ρ H Q X => xEs (wpXs es) ρ H (fun vs H1 => NewL vs H1 Q) X
 | .tup es => dx C d fun ρ H Q X => xEs (wpXs es) ρ H (fun vs H1 => NewT vs H1 Q) X
 | .emp k => dx C d fun zz H Q zz => EmpW k H Q
 | .dct ks es => dx C d fun ρ H Q X => xEs (wpXs es) ρ H (fun vs H1 => DctW ks vs H1 Q) X
 | .sub o i => dx C d fun ρ H Q X => (wpX o).e ρ H (fun a H1 => (wpX i).e ρ H1 (fun b H2 => SubW C d a b H2 Q X) X) X
 | .sli o l u t => dx C d fun ρ H Q X => (wpX o).e ρ H (fun a H1 => (wpX l).e ρ H1 (fun b H2 => (wpX u).e ρ H2 (fun c H3 => (wpX t).e ρ H3 (fun e H4 => SliW C d a b c e H4 Q X) X) X) X) X
 | .call f es => dx C d fun ρ H Q X => Fn C f /\ xEs (wpXs es) ρ H (fun vs H1 => CallW C d f vs H1 Q X) X
 | .meth o m es => dx C d fun ρ H Q X => (wpX o).e ρ H (fun ov H1 => ∃ fv, MGet C d ov m fv H1 /\ Callee C fv /\ xEs (wpXs es) ρ H1 (fun vs H2 => CallV C d fv (ov :: vs) H2 Q X) X) X
 | .att o a => dx C d fun ρ H Q X => (wpX o).e ρ H (fun ov H1 => AttW C d ov a H1 Q X) X
 | .comp k elt it ifs => dx C d fun ρ H Q X => (wpX it).e ρ H (fun iv H1 => ∃ all, Itq d iv /\ itemsOf H1 iv = some all /\ all.length <= sizeLine /\
   wpC k iv all (fun vs H2 Q' => xTs (wpXs ifs) (ρ ++ vs.map some) H2 (fun t H3 => if t = true then (wpX elt).e (ρ ++ vs.map some) H3 (fun v H4 => Q' (some v) H4) X else Q' none H3) X) all [] H1
    (fun vs H2 => NewL vs H2 Q)) X
noncomputable def wpXs : List Ex -> List WX
 | [] => []
 | e :: es => wpX e :: wpXs es
end
noncomputable def wpE (e : Ex) : WE := (wpX C d e).e
noncomputable def wpT (e : Ex) : WT := (wpX C d e).t
noncomputable def wpEs (es : List Ex) : Lo -> MH -> (List V -> MH -> Prop) -> XP -> Prop := xEs (wpXs C d es)
noncomputable def wpB (op : BoolOp) (es : List Ex) : WE := xB C d op (wpXs C d es)
noncomputable def wpA (op : BoolOp) (es : List Ex) : WT := xA op (wpXs C d es)
noncomputable def wpTs (es : List Ex) : WT := xTs (wpXs C d es)
end
end Vc
end
section
namespace Vc
open PySem
set_option genSizeOf false in
inductive Fl where
 | next
 | ret (v : V)
set_option genSizeOf false in
inductive Sv where
 | pl (v : V)
 | en (v : V)
 | zp (a b : V)
noncomputable def enumd : Nat -> List V -> List V
 | _, [] => []
 | n, x :: xs => .tup [.int n, x] :: enumd (n + 1) xs
noncomputable def zipd : List V -> List V -> List V
 | x :: xs, y :: ys => .tup [x, y] :: zipd xs ys
 | _, _ => []
noncomputable def svItems (H : MH) : Sv -> Option (List V)
 | .pl v => itemsOf H v
 | .en v => (match v with | .ref _ => (itemsOf H v).map (enumd 0) | _ => none)
 | .zp a b => (match a, b with
  | .ref _, .ref _ => (match itemsOf H a, itemsOf H b with | some l, some m => some (zipd l m) | _, _ => none)
  | _, _ => none)
noncomputable def lss : Lo -> List Nat -> List V -> Lo
 | ρ, i :: is, v :: vs => lss (ls ρ i v) is vs
 | ρ, _, _ => ρ
noncomputable abbrev KP := Fl -> Lo -> MH -> Prop
noncomputable abbrev XS := String -> Lo -> MH -> Prop
noncomputable def wpF (k : List Nat) (sv : Sv) (all : List V) (stp : Lo -> MH -> KP -> Prop) : List V -> Lo -> MH -> KP -> Prop
 | [], ρ, H, K => svItems H sv = some all /\ K .next ρ H
 | x :: xs, ρ, H, K => svItems H sv = some all /\ ∃ vs, parts k.length x = some vs /\ stp (lss ρ k vs) H (fun f ρ' H' => match f with
   | .next => wpF k sv all stp xs ρ' H' K
   | .ret v => K (.ret v) ρ' H')
noncomputable def Svq (d : Md) : Sv -> Prop
 | .pl v => Itq d v
 | .en v => d.q = true /\ Itq d v
 | .zp a b => Itq d a /\ Itq d b
section
variable (C : Cx) (d : Md)
noncomputable def RaiW (c : String) (H : MH) (X : XP) : Prop :=
 ∀ A s msg, Ok C d H A s -> ∀ (env : Env) pos pos' npos cpos k, env.kindOf (Str.ofString c) = some .globalImplicit -> env.scope.kind = .function -> env.globals = mainGlobals -> env.builtins = builtinsNs ->
  wpAny C.M A (exec (.Raise (some (.Call (.Name (Str.ofString c) npos) [.Constant (.str msg) k cpos] [] pos')) none pos) env) (fun zz zz => False) (XQ false C No H s X) s
noncomputable def RaiH (c : String) (H : MH) (X : XP) : Prop :=
 ∀ A s msg b ob vs r, Ok C d H A s -> (A.handled = some (.ref b) /\ s.heap.get? b = some ob /\ ob.cls = .ref r /\ ob.data = .fields vs /\ vs[2]? = some .none) -> ∀ (env : Env) pos pos' npos cpos k, env.kindOf (Str.ofString c) = some .globalImplicit -> env.scope.kind = .function -> env.globals = mainGlobals -> env.builtins = builtinsNs ->
  wpAny C.M A (exec (.Raise (some (.Call (.Name (Str.ofString c) npos) [.Constant (.str msg) k cpos] [] pos')) none pos) env) (fun zz zz => False) (XQ false C No H s X) s
noncomputable def wpSr : Src -> Lo -> MH -> (Sv -> MH -> Prop) -> XP -> Prop
 | .pl e, ρ, H, Q, X => wpE C d e ρ H (fun v H1 => Q (.pl v) H1) X
 | .en e, ρ, H, Q, X => C.G "enumerate" (.type "enumerate") /\ wpE C d e ρ H (fun v H1 => Q (.en v) H1) X
 | .zp _ _, _, _, _, _ => False
noncomputable def wpW (tst : Lo -> MH -> (Bool -> MH -> Prop) -> Prop) (stp : Lo -> MH -> KP -> Prop) : Nat -> Lo -> MH -> KP -> Prop
 | 0, _, _, _ => False
 | n + 1, ρ, H, K => tst ρ H (fun t H1 => if t = true then stp ρ H1 (fun f ρ' H' => match f with
   | .next => wpW tst stp n ρ' H' K
   | .ret v => K (.ret v) ρ' H') else K .next ρ H1)
noncomputable def isIv : V -> Bool
 | .int _ => true
 | _ => false
noncomputable def flat : V -> Bool
 | .tup l => l.all isIv
 | .exc _ => false
 | _ => true
noncomputable def flats (ρ : Lo) : Prop := ∀ i v, lk ρ i = some v -> flat v = true
noncomputable def wpZ (stp : Lo -> MH -> KP -> Prop) (f : Addr) (i j : Nat) : List V -> List V -> Lo -> List V -> (Lo -> List V -> Prop) -> Prop
 | [], _, ρ, acc, K => (flats ρ /\ acc.all flat = true) /\ K ρ acc
 | _ :: _, [], ρ, acc, K => (flats ρ /\ acc.all flat = true) /\ K ρ acc
 | x :: xs, y :: ys, ρ, acc, K => (flats ρ /\ acc.all flat = true) /\ ∀ Hz : MH, Hz f = some (.lst acc) ->
   stp (lss ρ [i, j] [x, y]) Hz (fun fl ρ' H' => match fl with
    | .next => (∀ a, a ≠ f -> (Hz a).isSome = true -> H' a = Hz a) /\ ∃ acc', H' f = some (.lst acc') /\ wpZ stp f i j xs ys ρ' acc' K
    | .ret _ => False)
noncomputable def Exm (c h : String) (b : Bool) : Prop :=
 (∃ rh, C.G h (.ref rh)) /\ ∀ A s a o r rh, C.h0.StaysIn s.heap -> s.heap.get? a = some o -> o.cls = .ref r -> C.G c (.ref r) -> C.G h (.ref rh) -> ∀ (Q : Bool -> Shared -> Prop) (E : Value -> Shared -> Prop), Q b s -> wpAny C.M A (excMatches (.ref a) (.ref rh)) Q E s
noncomputable def Md.in (d : Md) : Md := ⟨d.n, false⟩
noncomputable def asV (as : Option Nat) (ρ : Lo) (c : String) : Lo := match as with | none => ρ | some i => ls ρ i (.exc c)
noncomputable def asO (as : Option Nat) (ρ : Lo) : Lo := match as with | none => ρ | some i => ρ.set i none
end
section
variable (C : Cx)
mutual
noncomputable def wpS : Md -> St -> Lo -> MH -> KP -> XS -> Prop
 | d, .asg i e, ρ, H, K, X => wpE C d e ρ H (fun v H1 => K .next (ls ρ i v) H1) (fun c H1 => X c ρ H1)
 | d, .unp is e, ρ, H, K, X => wpE C d e ρ H (fun v H1 => ∃ l, v = .tup l /\ Itq d v /\ l.length = is.length /\ K .next (lss ρ is l) H1) (fun c H1 => X c ρ H1)
 | d, .seti o i e, ρ, H, K, X => wpE C d e ρ H (fun v H1 => wpE C d o ρ H1 (fun ov H2 => wpE C d i ρ H2 (fun iv H3 => SetIW C d ov iv v H3 (fun H4 => K .next ρ H4) (fun c H1 => X c ρ H1)) (fun c H1 => X c ρ H1)) (fun c H1 => X c ρ H1)) (fun c H1 => X c ρ H1)
 | d, .seta o a e, ρ, H, K, X => wpE C d e ρ H (fun v H1 => wpE C d o ρ H1 (fun ov H2 => SetAW C d ov a v H2 (fun H4 => K .next ρ H4) (fun c H1 => X c ρ H1)) (fun c H1 => X c ρ H1)) (fun c H1 => X c ρ H1)
 | d, .exp e, ρ, H, K, X => wpE C d e ρ H (fun zz H1 => K .next ρ H1) (fun c H1 => X c ρ H1)
 | d, .ret e, ρ, H, K, X => wpE C d e ρ H (fun v H1 => K (.ret v) ρ H1) (fun c H1 => X c ρ H1)
 | d, .ife c a b, ρ, H, K, X => wpT C d c ρ H (fun t H1 => if t = true then wpSs d a ρ H1 K X else wpSs d b ρ H1 K X) (fun c H1 => X c ρ H1)
 | d, .for k src body, ρ, H, K, X => wpSr C d src ρ H (fun sv H1 => ∃ all, Svq d sv /\ svItems H1 sv = some all /\ wpF k sv all (fun ρ' H' K' => wpSs d body ρ' H' K' X) all ρ H1 K) (fun c H1 => X c ρ H1)
 | _, .whl _ _, _, _, _, _ => False
 | d, .rais c _, ρ, H, _, X => RaiW C d c H (fun c H1 => X c ρ H1)
 | d, .tre body c as hb el, ρ, H, K, X => wpSs d body ρ H (fun f ρ' H' => match f with | .next => wpSs d el ρ' H' K X | .ret v => K (.ret v) ρ' H')
   (fun c' ρ' H' => ∃ b, Exm C c' c b /\ if b = true then wpSs d.in hb (asV as ρ' c') H' (fun f ρ2 H2 => K f (asO as ρ2) H2) (fun zz zz zz => False) else X c' ρ' H')
 | d, .pas, ρ, H, K, _ => K .next ρ H
 | _, .fz _ _ _ _ _, _, _, _, _ => False
 | d, .trr body c c2 _, ρ, H, K, X => wpSs d body ρ H K (fun c' ρ' H' => ∃ b, Exm C c' c b /\ if b = true then c' ≠ "BadText" /\ RaiH C d.in c2 H' (fun c1 H1 => X c1 ρ' H1) else X c' ρ' H')
noncomputable def wpSs : Md -> List St -> Lo -> MH -> KP -> XS -> Prop
 | _, [], ρ, H, K, _ => K .next ρ H
 | d, t :: ts, ρ, H, K, X => wpS d t ρ H (fun f ρ' H' => match f with
   | .next => wpSs d ts ρ' H' K X
   | .ret v => K (.ret v) ρ' H') X
end
end
inductive Vk where
 | loc | cel | hid
 deriving DecidableEq
noncomputable def locv (x : String) : Str × Vk := (Str.ofString x, Vk.loc)
noncomputable def celv (x : String) : Str × Vk := (Str.ofString x, Vk.cel)
noncomputable abbrev Vs := List (Str × Vk)
noncomputable abbrev Ns := List (Str × NameKind)
noncomputable def vOk (vs : Vs) (i : Nat) (id : Str) : Bool := vs[i]? == some (id, Vk.loc) || vs[i]? == some (id, Vk.cel)
noncomputable def gOk (ns : Ns) (x : String) (id : Str) : Bool := id == Str.ofString x && ns.lookup id == some .globalImplicit && !(id == ("__debug__" : Str))
noncomputable def relab : Ns -> Ns -> Ns
 | [], _ => []
 | (n, k) :: r, outer => (n, if k == .free && outer.lookup n == some .cell then .cell else k) :: relab r outer
noncomputable def innerVs (vs : Vs) (inner : Ns) (tg : List Str) : Vs := (vs.map fun (n, k) => if k == .cel && inner.lookup n == some .cell then (n, .cel) else (n, .hid)) ++ tg.map fun n => (n, .loc)
theorem dif_inv {c : Prop} [Decidable c] {t : c -> Bool} {G : Prop} (h : (if q : c then t q else false) = true) (k : ∀ q, t q = true -> G) : G := by
 by_cases q : c
 ·rw [dif_pos q] at h; exact k q h
 ·rw [dif_neg q] at h; cases h
noncomputable def pNm (e : Expr) (f : Str -> Pos -> Bool) : Bool := if h : e.ctorIdx = 23 then Expr.Name.elim (motive_1 := fun zz => Bool) e h f else false
theorem pNm_e {P : Expr -> Prop} {e : Expr} {f : Str -> Pos -> Bool} (h : pNm e f = true) (k : ∀ a_ p_, f a_ p_ = true -> P (.Name a_ p_)) : P e :=
 dif_inv h fun q h => Expr.Name.elim (motive_1 := fun e => ∀ q, Expr.Name.elim (motive_1 := fun zz => Bool) e q f = true -> P e) e q (fun a_ p_ zz h => k a_ p_ h) q h
noncomputable def pCst (e : Expr) (f : Const -> Nat -> Pos -> Bool) : Bool := if h : e.ctorIdx = 19 then Expr.Constant.elim (motive_1 := fun zz => Bool) e h f else false
theorem pCst_e {P : Expr -> Prop} {e : Expr} {f : Const -> Nat -> Pos -> Bool} (h : pCst e f = true) (k : ∀ c_ k_ p_, f c_ k_ p_ = true -> P (.Constant c_ k_ p_)) : P e :=
 dif_inv h fun q h => Expr.Constant.elim (motive_1 := fun e => ∀ q, Expr.Constant.elim (motive_1 := fun zz => Bool) e q f = true -> P e) e q (fun c_ k_ p_ zz h => k c_ k_ p_ h) q h
noncomputable def pBin (e : Expr) (f : Expr -> Operator -> Expr -> Pos -> Bool) : Bool := if h : e.ctorIdx = 2 then Expr.BinOp.elim (motive_1 := fun zz => Bool) e h f else false
theorem pBin_e {P : Expr -> Prop} {e : Expr} {f : Expr -> Operator -> Expr -> Pos -> Bool} (h : pBin e f = true) (k : ∀ l_ o_ r_ p_, f l_ o_ r_ p_ = true -> P (.BinOp l_ o_ r_ p_)) : P e :=
 dif_inv h fun q h => Expr.BinOp.elim (motive_1 := fun e => ∀ q, Expr.BinOp.elim (motive_1 := fun zz => Bool) e q f = true -> P e) e q (fun l_ o_ r_ p_ zz h => k l_ o_ r_ p_ h) q h
noncomputable def pUna (e : Expr) (f : UnaryOp -> Expr -> Pos -> Bool) : Bool := if h : e.ctorIdx = 3 then Expr.UnaryOp.elim (motive_1 := fun zz => Bool) e h f else false
theorem pUna_e {P : Expr -> Prop} {e : Expr} {f : UnaryOp -> Expr -> Pos -> Bool} (h : pUna e f = true) (k : ∀ o_ a_ p_, f o_ a_ p_ = true -> P (.UnaryOp o_ a_ p_)) : P e :=
 dif_inv h fun q h => Expr.UnaryOp.elim (motive_1 := fun e => ∀ q, Expr.UnaryOp.elim (motive_1 := fun zz => Bool) e q f = true -> P e) e q (fun o_ a_ p_ zz h => k o_ a_ p_ h) q h
noncomputable def pCmp (e : Expr) (f : Expr -> List CmpOp -> List Expr -> Pos -> Bool) : Bool := if h : e.ctorIdx = 15 then Expr.Compare.elim (motive_1 := fun zz => Bool) e h f else false
theorem pCmp_e {P : Expr -> Prop} {e : Expr} {f : Expr -> List CmpOp -> List Expr -> Pos -> Bool} (h : pCmp e f = true) (k : ∀ l_ os_ rs_ p_, f l_ os_ rs_ p_ = true -> P (.Compare l_ os_ rs_ p_)) : P e :=
 dif_inv h fun q h => Expr.Compare.elim (motive_1 := fun e => ∀ q, Expr.Compare.elim (motive_1 := fun zz => Bool) e q f = true -> P e) e q (fun l_ os_ rs_ p_ zz h => k l_ os_ rs_ p_ h) q h
noncomputable def pBop (e : Expr) (f : BoolOp -> List Expr -> Pos -> Bool) : Bool := if h : e.ctorIdx = 0 then Expr.BoolOp.elim (motive_1 := fun zz => Bool) e h f else false
theorem pBop_e {P : Expr -> Prop} {e : Expr} {f : BoolOp -> List Expr -> Pos -> Bool} (h : pBop e f = true) (k : ∀ o_ es_ p_, f o_ es_ p_ = true -> P (.BoolOp o_ es_ p_)) : P e :=
 dif_inv h fun q h => Expr.BoolOp.elim (motive_1 := fun e => ∀ q, Expr.BoolOp.elim (motive_1 := fun zz => Bool) e q f = true -> P e) e q (fun o_ es_ p_ zz h => k o_ es_ p_ h) q h
noncomputable def pIfe (e : Expr) (f : Expr -> Expr -> Expr -> Pos -> Bool) : Bool := if h : e.ctorIdx = 5 then Expr.IfExp.elim (motive_1 := fun zz => Bool) e h f else false
theorem pIfe_e {P : Expr -> Prop} {e : Expr} {f : Expr -> Expr -> Expr -> Pos -> Bool} (h : pIfe e f = true) (k : ∀ c_ a_ b_ p_, f c_ a_ b_ p_ = true -> P (.IfExp c_ a_ b_ p_)) : P e :=
 dif_inv h fun q h => Expr.IfExp.elim (motive_1 := fun e => ∀ q, Expr.IfExp.elim (motive_1 := fun zz => Bool) e q f = true -> P e) e q (fun c_ a_ b_ p_ zz h => k c_ a_ b_ p_ h) q h
noncomputable def pLst (e : Expr) (f : List Expr -> Pos -> Bool) : Bool := if h : e.ctorIdx = 24 then Expr.List.elim (motive_1 := fun zz => Bool) e h f else false
theorem pLst_e {P : Expr -> Prop} {e : Expr} {f : List Expr -> Pos -> Bool} (h : pLst e f = true) (k : ∀ es_ p_, f es_ p_ = true -> P (.List es_ p_)) : P e :=
 dif_inv h fun q h => Expr.List.elim (motive_1 := fun e => ∀ q, Expr.List.elim (motive_1 := fun zz => Bool) e q f = true -> P e) e q (fun es_ p_ zz h => k es_ p_ h) q h
noncomputable def pTup (e : Expr) (f : List Expr -> Nat -> Pos -> Bool) : Bool := if h : e.ctorIdx = 25 then Expr.Tuple.elim (motive_1 := fun zz => Bool) e h f else false
theorem pTup_e {P : Expr -> Prop} {e : Expr} {f : List Expr -> Nat -> Pos -> Bool} (h : pTup e f = true) (k : ∀ es_ k_ p_, f es_ k_ p_ = true -> P (.Tuple es_ k_ p_)) : P e :=
 dif_inv h fun q h => Expr.Tuple.elim (motive_1 := fun e => ∀ q, Expr.Tuple.elim (motive_1 := fun zz => Bool) e q f = true -> P e) e q (fun es_ k_ p_ zz h => k es_ k_ p_ h) q h
noncomputable def pDct (e : Expr) (f : List (Option Expr) -> List Expr -> Pos -> Bool) : Bool := if h : e.ctorIdx = 6 then Expr.Dict.elim (motive_1 := fun zz => Bool) e h f else false
theorem pDct_e {P : Expr -> Prop} {e : Expr} {f : List (Option Expr) -> List Expr -> Pos -> Bool} (h : pDct e f = true) (k : ∀ ks_ es_ p_, f ks_ es_ p_ = true -> P (.Dict ks_ es_ p_)) : P e :=
 dif_inv h fun q h => Expr.Dict.elim (motive_1 := fun e => ∀ q, Expr.Dict.elim (motive_1 := fun zz => Bool) e q f = true -> P e) e q (fun ks_ es_ p_ zz h => k ks_ es_ p_ h) q h
noncomputable def pSub (e : Expr) (f : Expr -> Expr -> Pos -> Bool) : Bool := if h : e.ctorIdx = 21 then Expr.Subscript.elim (motive_1 := fun zz => Bool) e h f else false
theorem pSub_e {P : Expr -> Prop} {e : Expr} {f : Expr -> Expr -> Pos -> Bool} (h : pSub e f = true) (k : ∀ o_ i_ p_, f o_ i_ p_ = true -> P (.Subscript o_ i_ p_)) : P e :=
 dif_inv h fun q h => Expr.Subscript.elim (motive_1 := fun e => ∀ q, Expr.Subscript.elim (motive_1 := fun zz => Bool) e q f = true -> P e) e q (fun o_ i_ p_ zz h => k o_ i_ p_ h) q h
noncomputable def pSli (e : Expr) (f : Option Expr -> Option Expr -> Option Expr -> Pos -> Bool) : Bool := if h : e.ctorIdx = 26 then Expr.Slice.elim (motive_1 := fun zz => Bool) e h f else false
theorem pSli_e {P : Expr -> Prop} {e : Expr} {f : Option Expr -> Option Expr -> Option Expr -> Pos -> Bool} (h : pSli e f = true) (k : ∀ l_ u_ t_ p_, f l_ u_ t_ p_ = true -> P (.Slice l_ u_ t_ p_)) : P e :=
 dif_inv h fun q h => Expr.Slice.elim (motive_1 := fun e => ∀ q, Expr.Slice.elim (motive_1 := fun zz => Bool) e q f = true -> P e) e q (fun l_ u_ t_ p_ zz h => k l_ u_ t_ p_ h) q h
noncomputable def pCal (e : Expr) (f : Expr -> List Expr -> List Keyword -> Pos -> Bool) : Bool := if h : e.ctorIdx = 16 then Expr.Call.elim (motive_1 := fun zz => Bool) e h f else false
theorem pCal_e {P : Expr -> Prop} {e : Expr} {f : Expr -> List Expr -> List Keyword -> Pos -> Bool} (h : pCal e f = true) (k : ∀ g_ es_ ks_ p_, f g_ es_ ks_ p_ = true -> P (.Call g_ es_ ks_ p_)) : P e :=
 dif_inv h fun q h => Expr.Call.elim (motive_1 := fun e => ∀ q, Expr.Call.elim (motive_1 := fun zz => Bool) e q f = true -> P e) e q (fun g_ es_ ks_ p_ zz h => k g_ es_ ks_ p_ h) q h
noncomputable def pAtt (e : Expr) (f : Expr -> Str -> Pos -> Bool) : Bool := if h : e.ctorIdx = 20 then Expr.Attribute.elim (motive_1 := fun zz => Bool) e h f else false
theorem pAtt_e {P : Expr -> Prop} {e : Expr} {f : Expr -> Str -> Pos -> Bool} (h : pAtt e f = true) (k : ∀ o_ a_ p_, f o_ a_ p_ = true -> P (.Attribute o_ a_ p_)) : P e :=
 dif_inv h fun q h => Expr.Attribute.elim (motive_1 := fun e => ∀ q, Expr.Attribute.elim (motive_1 := fun zz => Bool) e q f = true -> P e) e q (fun o_ a_ p_ zz h => k o_ a_ p_ h) q h
noncomputable def pLc (e : Expr) (f : Expr -> List Comprehension -> Scope -> Pos -> Bool) : Bool := if h : e.ctorIdx = 8 then Expr.ListComp.elim (motive_1 := fun zz => Bool) e h f else false
theorem pLc_e {P : Expr -> Prop} {e : Expr} {f : Expr -> List Comprehension -> Scope -> Pos -> Bool} (h : pLc e f = true) (k : ∀ a_ gs_ sc_ p_, f a_ gs_ sc_ p_ = true -> P (.ListComp a_ gs_ sc_ p_)) : P e :=
 dif_inv h fun q h => Expr.ListComp.elim (motive_1 := fun e => ∀ q, Expr.ListComp.elim (motive_1 := fun zz => Bool) e q f = true -> P e) e q (fun a_ gs_ sc_ p_ zz h => k a_ gs_ sc_ p_ h) q h
noncomputable def pSAs (e : Stmt) (f : List Expr -> Expr -> Pos -> Bool) : Bool := if h : e.ctorIdx = 5 then Stmt.Assign.elim (motive_2 := fun zz => Bool) e h f else false
theorem pSAs_e {P : Stmt -> Prop} {e : Stmt} {f : List Expr -> Expr -> Pos -> Bool} (h : pSAs e f = true) (k : ∀ ts_ a_ p_, f ts_ a_ p_ = true -> P (.Assign ts_ a_ p_)) : P e :=
 dif_inv h fun q h => Stmt.Assign.elim (motive_2 := fun e => ∀ q, Stmt.Assign.elim (motive_2 := fun zz => Bool) e q f = true -> P e) e q (fun ts_ a_ p_ zz h => k ts_ a_ p_ h) q h
noncomputable def pSEx (e : Stmt) (f : PySem.Expr -> Pos -> Bool) : Bool := if h : e.ctorIdx = 24 then Stmt.Expr.elim (motive_2 := fun zz => Bool) e h f else false
theorem pSEx_e {P : Stmt -> Prop} {e : Stmt} {f : PySem.Expr -> Pos -> Bool} (h : pSEx e f = true) (k : ∀ a_ p_, f a_ p_ = true -> P (.Expr a_ p_)) : P e :=
 dif_inv h fun q h => Stmt.Expr.elim (motive_2 := fun e => ∀ q, Stmt.Expr.elim (motive_2 := fun zz => Bool) e q f = true -> P e) e q (fun a_ p_ zz h => k a_ p_ h) q h
noncomputable def pSRt (e : Stmt) (f : Option PySem.Expr -> Pos -> Bool) : Bool := if h : e.ctorIdx = 3 then Stmt.Return.elim (motive_2 := fun zz => Bool) e h f else false
theorem pSRt_e {P : Stmt -> Prop} {e : Stmt} {f : Option PySem.Expr -> Pos -> Bool} (h : pSRt e f = true) (k : ∀ a_ p_, f a_ p_ = true -> P (.Return a_ p_)) : P e :=
 dif_inv h fun q h => Stmt.Return.elim (motive_2 := fun e => ∀ q, Stmt.Return.elim (motive_2 := fun zz => Bool) e q f = true -> P e) e q (fun a_ p_ zz h => k a_ p_ h) q h
noncomputable def pSIf (e : Stmt) (f : PySem.Expr -> List Stmt -> List Stmt -> Pos -> Bool) : Bool := if h : e.ctorIdx = 12 then Stmt.If.elim (motive_2 := fun zz => Bool) e h f else false
theorem pSIf_e {P : Stmt -> Prop} {e : Stmt} {f : PySem.Expr -> List Stmt -> List Stmt -> Pos -> Bool} (h : pSIf e f = true) (k : ∀ c_ a_ b_ p_, f c_ a_ b_ p_ = true -> P (.If c_ a_ b_ p_)) : P e :=
 dif_inv h fun q h => Stmt.If.elim (motive_2 := fun e => ∀ q, Stmt.If.elim (motive_2 := fun zz => Bool) e q f = true -> P e) e q (fun c_ a_ b_ p_ zz h => k c_ a_ b_ p_ h) q h
noncomputable def pSFo (e : Stmt) (f : PySem.Expr -> PySem.Expr -> List Stmt -> List Stmt -> Pos -> Bool) : Bool := if h : e.ctorIdx = 9 then Stmt.For.elim (motive_2 := fun zz => Bool) e h f else false
theorem pSFo_e {P : Stmt -> Prop} {e : Stmt} {f : PySem.Expr -> PySem.Expr -> List Stmt -> List Stmt -> Pos -> Bool} (h : pSFo e f = true) (k : ∀ t_ a_ b_ l_ p_, f t_ a_ b_ l_ p_ = true -> P (.For t_ a_ b_ l_ p_)) : P e :=
 dif_inv h fun q h => Stmt.For.elim (motive_2 := fun e => ∀ q, Stmt.For.elim (motive_2 := fun zz => Bool) e q f = true -> P e) e q (fun t_ a_ b_ l_ p_ zz h => k t_ a_ b_ l_ p_ h) q h
noncomputable def pSWh (e : Stmt) (f : PySem.Expr -> List Stmt -> List Stmt -> Pos -> Bool) : Bool := if h : e.ctorIdx = 11 then Stmt.While.elim (motive_2 := fun zz => Bool) e h f else false
theorem pSWh_e {P : Stmt -> Prop} {e : Stmt} {f : PySem.Expr -> List Stmt -> List Stmt -> Pos -> Bool} (h : pSWh e f = true) (k : ∀ c_ b_ l_ p_, f c_ b_ l_ p_ = true -> P (.While c_ b_ l_ p_)) : P e :=
 dif_inv h fun q h => Stmt.While.elim (motive_2 := fun e => ∀ q, Stmt.While.elim (motive_2 := fun zz => Bool) e q f = true -> P e) e q (fun c_ b_ l_ p_ zz h => k c_ b_ l_ p_ h) q h
noncomputable def pSRa (e : Stmt) (f : Option PySem.Expr -> Option PySem.Expr -> Pos -> Bool) : Bool := if h : e.ctorIdx = 16 then Stmt.Raise.elim (motive_2 := fun zz => Bool) e h f else false
theorem pSRa_e {P : Stmt -> Prop} {e : Stmt} {f : Option PySem.Expr -> Option PySem.Expr -> Pos -> Bool} (h : pSRa e f = true) (k : ∀ x_ y_ p_, f x_ y_ p_ = true -> P (.Raise x_ y_ p_)) : P e :=
 dif_inv h fun q h => Stmt.Raise.elim (motive_2 := fun e => ∀ q, Stmt.Raise.elim (motive_2 := fun zz => Bool) e q f = true -> P e) e q (fun x_ y_ p_ zz h => k x_ y_ p_ h) q h
noncomputable def pSTr (e : Stmt) (f : List Stmt -> List ExceptHandler -> List Stmt -> List Stmt -> Pos -> Bool) : Bool := if h : e.ctorIdx = 17 then Stmt.Try.elim (motive_2 := fun zz => Bool) e h f else false
theorem pSTr_e {P : Stmt -> Prop} {e : Stmt} {f : List Stmt -> List ExceptHandler -> List Stmt -> List Stmt -> Pos -> Bool} (h : pSTr e f = true) (k : ∀ b_ hs_ l_ z_ p_, f b_ hs_ l_ z_ p_ = true -> P (.Try b_ hs_ l_ z_ p_)) : P e :=
 dif_inv h fun q h => Stmt.Try.elim (motive_2 := fun e => ∀ q, Stmt.Try.elim (motive_2 := fun zz => Bool) e q f = true -> P e) e q (fun b_ hs_ l_ z_ p_ zz h => k b_ hs_ l_ z_ p_ h) q h
noncomputable def pSPa (e : Stmt) (f : Pos -> Bool) : Bool := if h : e.ctorIdx = 25 then Stmt.Pass.elim (motive_2 := fun zz => Bool) e h f else false
theorem pSPa_e {P : Stmt -> Prop} {e : Stmt} {f : Pos -> Bool} (h : pSPa e f = true) (k : ∀ p_, f p_ = true -> P (.Pass p_)) : P e :=
 dif_inv h fun q h => Stmt.Pass.elim (motive_2 := fun e => ∀ q, Stmt.Pass.elim (motive_2 := fun zz => Bool) e q f = true -> P e) e q (fun p_ zz h => k p_ h) q h
noncomputable def p1 {α : Type} (l : List α) (f : α -> Bool) : Bool := match l with | [x] => f x | _ => false
theorem p1_e {α : Type} {P : List α -> Prop} {l : List α} {f : α -> Bool} (h : p1 l f = true) (k : ∀ x, f x = true -> P [x]) : P l := match l, h with
 | [x], h => k x h
noncomputable def pC {α : Type} (l : List α) (f : α -> List α -> Bool) : Bool := match l with | x :: r => f x r | [] => false
theorem pC_e {α : Type} {P : List α -> Prop} {l : List α} {f : α -> List α -> Bool} (h : pC l f = true) (k : ∀ x r, f x r = true -> P (x :: r)) : P l := match l, h with
 | x :: r, h => k x r h
noncomputable def pO {α : Type} (o : Option α) (f : α -> Bool) : Bool := match o with | some x => f x | none => false
theorem pO_e {α : Type} {P : Option α -> Prop} {o : Option α} {f : α -> Bool} (h : pO o f = true) (k : ∀ x, f x = true -> P (some x)) : P o := match o, h with
 | some x, h => k x h
theorem and_l {a b : Bool} (h : (a && b) = true) : a = true := (Bool.and_eq_true_iff.mp h).1
theorem and_r {a b : Bool} (h : (a && b) = true) : b = true := (Bool.and_eq_true_iff.mp h).2
theorem em_e {α : Type} {P : List α -> Prop} {l : List α} (h : l.isEmpty = true) (k : P []) : P l := match l, h with
 | [], _ => k
theorem dc_e {α : Type} {P : α -> Prop} {a b : α} [Decidable (a = b)] (h : decide (a = b) = true) (k : P a) : P b := of_decide_eq_true h ▸ k
theorem dc_e' {α : Type} {P : α -> Prop} {a b : α} [Decidable (a = b)] (h : decide (a = b) = true) (k : P b) : P a := of_decide_eq_true h ▸ k
noncomputable def pStr (c : Const) (f : Str -> Bool) : Bool := if h : c.ctorIdx = 5 then Const.str.elim (motive := fun zz => Bool) c h f else false
theorem pStr_e {P : Const -> Prop} {c : Const} {f : Str -> Bool} (h : pStr c f = true) (k : ∀ x, f x = true -> P (.str x)) : P c :=
 dif_inv h fun q h => Const.str.elim (motive := fun c => ∀ q, Const.str.elim (motive := fun zz => Bool) c q f = true -> P c) c q (fun x zz h => k x h) q h
noncomputable def nm? (e : Expr) : Option (Str × Pos) := if h : e.ctorIdx = 23 then Expr.Name.elim (motive_1 := fun zz => Option (Str × Pos)) e h (fun a p => some (a, p)) else none
noncomputable def tup? (e : Expr) : Option (List Expr × Nat × Pos) := if h : e.ctorIdx = 25 then Expr.Tuple.elim (motive_1 := fun zz => Option (List Expr × Nat × Pos)) e h (fun a k p => some (a, k, p)) else none
theorem dif_some {α : Type} {c : Prop} [Decidable c] {t : c -> Option α} {x : α} {G : Prop} (h : (if q : c then t q else none) = some x) (k : ∀ q, t q = some x -> G) : G := by
 by_cases q : c
 ·rw [dif_pos q] at h; exact k q h
 ·rw [dif_neg q] at h; cases h
theorem nm_e {P : Expr -> Prop} {e : Expr} {x : Str × Pos} (h : nm? e = some x) (k : P (.Name x.1 x.2)) : P e :=
 dif_some h fun q h => Expr.Name.elim (motive_1 := fun e => ∀ q, Expr.Name.elim (motive_1 := fun zz => Option (Str × Pos)) e q (fun a p => some (a, p)) = some x -> P e) e q (fun a p zz h => (congrArg (fun x : Str × Pos => P (.Name x.1 x.2)) (Option.some.inj h)).mpr k) q h
theorem tup_e {P : Expr -> Prop} {e : Expr} {x : List Expr × Nat × Pos} (h : tup? e = some x) (k : P (.Tuple x.1 x.2.1 x.2.2)) : P e :=
 dif_some h fun q h => Expr.Tuple.elim (motive_1 := fun e => ∀ q, Expr.Tuple.elim (motive_1 := fun zz => Option (List Expr × Nat × Pos)) e q (fun a k p => some (a, k, p)) = some x -> P e) e q (fun a k' p zz h => (congrArg (fun x : List Expr × Nat × Pos => P (.Tuple x.1 x.2.1 x.2.2)) (Option.some.inj h)).mpr k) q h
noncomputable def names? : List Expr -> Option (List Str)
 | [] => some []
 | e :: es => (nm? e).bind fun x => (names? es).map (x.1 :: ·)
theorem names_e {P : Expr -> List Str -> Prop} {e : Expr} {es : List Expr} {tg : List Str} (h : names? (e :: es) = some tg) (k : ∀ id p tg', names? es = some tg' -> P (.Name id p) (id :: tg')) : P e tg := by
 refine Vc.xa_1_2 (Option.bind_eq_some_iff.mp (show (nm? e).bind (fun x => (names? es).map (x.1 :: ·)) = some tg from h)) fun x h1 h2 => ?_
 refine Vc.xa_1_2 (Option.map_eq_some_iff.mp h2) fun r e1 e2 => ?_
 exact nm_e (P := fun e => P e tg) h1 (e2 ▸ k x.1 x.2 r e1)
noncomputable def tgt? (e : Expr) : Option (List Str) := match nm? e with
 | some x => some [x.1]
 | none => (tup? e).bind fun x => if 2 <= x.1.length then names? x.1 else none
theorem tgt_e {P : Expr -> List Str -> Prop} {e : Expr} {tg : List Str} (h : tgt? e = some tg) (k1 : ∀ id p, P (.Name id p) [id]) (k2 : ∀ es k p, 2 <= es.length -> names? es = some tg -> P (.Tuple es k p) tg) : P e tg := by
 unfold tgt? at h
 cases h1 : nm? e with
 | some x => rw [h1] at h; exact nm_e (P := fun e => P e tg) h1 (Option.some.inj h ▸ k1 x.1 x.2)
 | none =>
  rw [h1] at h
  refine Vc.xa_1_2 (Option.bind_eq_some_iff.mp h) fun x h2 h3 => ?_
  by_cases q : 2 <= x.1.length
  ·rw [if_pos q] at h3; exact tup_e (P := fun e => P e tg) h2 (k2 _ _ _ q h3)
  ·rw [if_neg q] at h3; cases h3
noncomputable def notSlice (e : Expr) : Bool := !(e.ctorIdx == 26)
noncomputable def notSet (e : Expr) : Bool := !(e.ctorIdx == 7)
noncomputable def notComp (e : Expr) : Bool := !(e.ctorIdx == 8) && !(e.ctorIdx == 9) && !(e.ctorIdx == 10)
noncomputable def notTuple (e : Expr) : Bool := !(e.ctorIdx == 25)
noncomputable def notSuper (e : Expr) : Bool := !(e.ctorIdx == 16) || !pCal e (fun f as ks zz => f.ctorIdx == 23 && as.isEmpty && ks.isEmpty)
noncomputable def simpE : Ex -> Bool
 | .nm _ | .ci _ | .cs _ | .cb _ | .cn | .lst [] => true
 | _ => false
noncomputable def isCn (e : Ex) : Bool := decide (e.ctorIdx = 5)
noncomputable def pQ (e : Ex) (o : Option Expr) (f : Expr -> Bool) : Bool := match o with | some e' => f e' | none => isCn e
noncomputable def chkK : List String -> List (Option Expr) -> Bool
 | [], l => l.isEmpty
 | k :: ks, l => pC l fun o r => pO o fun e => pCst e fun c zz zz => decide (c = .str (Str.ofString k)) && chkK ks r
mutual
noncomputable def chkE (vs : Vs) (ns : Ns) : Ex -> Expr -> Bool
 | .nm i, e' => pNm e' fun id zz => vOk vs i id && !(id == ("__debug__" : Str))
 | .gl x, e' => pNm e' fun id zz => gOk ns x id
 | .ci i, e' => pCst e' fun c zz zz => decide (c = .int i)
 | .cs x, e' => pCst e' fun c zz zz => decide (c = .str (Str.ofString x))
 | .cb b, e' => pCst e' fun c zz zz => decide (c = .bool b)
 | .cn, e' => pCst e' fun c zz zz => decide (c = .none)
 | .bin op l r, e' => pBin e' fun l' op' r' zz => decide (op = op') && (chkE vs ns l l' && chkE vs ns r r')
 | .una op e, e' => pUna e' fun op' x zz => decide (op = op') && chkE vs ns e x
 | .cmp op l r, e' => pCmp e' fun l' os rs zz => p1 os fun op' => p1 rs fun r' => decide (op = op') && (notSet r' && (chkE vs ns l l' && chkE vs ns r r'))
 | .cmp2 o1 o2 l m r, e' => pCmp e' fun l' os rs zz => decide (os = [o1, o2]) && pC rs fun m' rs => p1 rs fun r' => notSet m' && (notSet r' && (chkE vs ns l l' && (chkE vs ns m m' && chkE vs ns r r')))
 | .bop op es, e' => pBop e' fun op' es' zz => decide (op = op') && chkEs vs ns es es'
 | .ife c a b, e' => pIfe e' fun c' a' b' zz => chkE vs ns c c' && (chkE vs ns a a' && chkE vs ns b b')
 | .lst es, e' => pLst e' fun es' zz => chkEs vs ns es es'
 | .tup es, e' => pTup e' fun es' zz zz => chkEs vs ns es es'
 | .emp _, e' => pDct e' fun ks es zz => ks.isEmpty && es.isEmpty
 | .dct ks es, e' => pDct e' fun ks' es' zz => (!ks.isEmpty) && (decide (ks.length <= 15) && (decide (ks.length = es.length) && (es.all simpE && (chkK ks ks' && chkEs vs ns es es'))))
 | .sub o i, e' => pSub e' fun o' i' zz => notSlice i' && (chkE vs ns o o' && chkE vs ns i i')
 | .sli o l u t, e' => pSub e' fun o' i' zz => pSli i' fun l' u' t' zz => chkE vs ns o o' && (pQ l l' (chkE vs ns l) && (pQ u u' (chkE vs ns u) && pQ t t' (chkE vs ns t)))
 | .call f es, e' => pCal e' fun fn es' ks zz => pNm fn fun id zz => ks.isEmpty && (gOk ns f id && chkEs vs ns es es')
 | .meth o m es, e' => pCal e' fun fn es' ks p => pAtt fn fun o' m' ap => ks.isEmpty && (decide (m' = Str.ofString m) && (ap.endLine == p.line && (decide (es.length < 29) && (notSuper o' && (chkE vs ns o o' && chkEs vs ns es es')))))
 | .att o a, e' => pAtt e' fun o' a' zz => decide (a' = Str.ofString a) && (notSuper o' && chkE vs ns o o')
 | .comp k elt it ifs, e' => pLc e' fun elt' gs sc zz => p1 gs fun g => decide (g.is_async = 0) && pO (tgt? g.target) fun tg =>
   decide (tg.length = k) && (tg.all (fun x => sc.names.lookup x == some .local) && (decide (tg.Nodup) && (decide (sc.kind = .function) && (sc.names.all (fun x => !(x.2 == .cell)) &&
    (sc.names.all (fun x => !(x.2 == .local) || sc.names.lookup x.1 == some .local) && (sc.names.all (fun x => !(x.2 == .free) || vs.contains (x.1, Vk.cel)) &&
    (notSet g.iter && (chkE vs ns it g.iter && (chkE (innerVs vs (relab sc.names ns) tg) (relab sc.names ns) elt elt' && chkEs (innerVs vs (relab sc.names ns) tg) (relab sc.names ns) ifs g.ifs)))))))))
noncomputable def chkEs (vs : Vs) (ns : Ns) : List Ex -> List Expr -> Bool
 | [], l => l.isEmpty
 | e :: es, l => pC l fun e' es' => chkE vs ns e e' && chkEs vs ns es es'
end
noncomputable def chkO (vs : Vs) (ns : Ns) (e : Ex) (o : Option Expr) : Bool := pQ e o (chkE vs ns e)
noncomputable def chkTg (vs : Vs) : List Nat -> List Str -> Bool
 | [], l => l.isEmpty
 | i :: is, l => pC l fun x xs => vOk vs i x && chkTg vs is xs
noncomputable def chkSrc (vs : Vs) (ns : Ns) : Src -> Expr -> Bool
 | .pl e, e' => notSet e' && chkE vs ns e e'
 | .en e, x => pCal x fun f as ks zz => pNm f fun id zz => p1 as fun e' => ks.isEmpty && (gOk ns "enumerate" id && chkE vs ns e e')
 | .zp _ _, _ => false
noncomputable def chkTup : Src -> Expr -> Bool
 | .pl _, _ => true
 | _, e => pTup e fun zz zz zz => true
noncomputable def chkAs (vs : Vs) : Option Nat -> Option Str -> Bool
 | none, none => true
 | some i, some x => vs[i]? == some (x, Vk.loc)
 | _, _ => false
noncomputable def ncE (e : Ex) : Bool := !(e.ctorIdx == 21)
noncomputable def pHd (h : ExceptHandler) (f : Option Expr -> Option Str -> List Stmt -> Pos -> Bool) : Bool := match h with | .ExceptHandler x n b p => f x n b p
theorem pHd_e {P : ExceptHandler -> Prop} {h : ExceptHandler} {f : Option Expr -> Option Str -> List Stmt -> Pos -> Bool} (hh : pHd h f = true) (k : ∀ x n b p, f x n b p = true -> P (.ExceptHandler x n b p)) : P h := match h, hh with
 | .ExceptHandler x n b p, hh => k x n b p hh
noncomputable def chkR (ns : Ns) (c : String) (t' : Stmt) : Bool := pSRa t' fun x y zz => y.isNone && pO x fun x => pCal x fun f as ks zz => ks.isEmpty && pNm f fun id zz => p1 as fun a => pCst a fun v zz zz => pStr v fun zz => gOk ns c id
mutual
noncomputable def chkS (vs : Vs) (ns : Ns) : St -> Stmt -> Bool
 | .asg i e, t' => pSAs t' fun ts e' zz => p1 ts fun t => pNm t fun x zz => vOk vs i x && ((!ncE e || notComp e') && chkE vs ns e e')
 | .unp is e, t' => pSAs t' fun ts e' zz => p1 ts fun t => pTup t fun us zz zz => pO (names? us) fun xs => chkTg vs is xs && decide (2 <= us.length) && notTuple e' && notComp e' && chkE vs ns e e'
 | .seti o i e, t' => pSAs t' fun ts e' zz => p1 ts fun t => pSub t fun o' i' zz => notSlice i' && notComp e' && chkE vs ns e e' && chkE vs ns o o' && chkE vs ns i i'
 | .seta o a e, t' => pSAs t' fun ts e' zz => p1 ts fun t => pAtt t fun o' a' zz => a' == Str.ofString a && notComp e' && chkE vs ns e e' && chkE vs ns o o'
 | .exp e, t' => pSEx t' fun e' zz => notComp e' && chkE vs ns e e'
 | .ret e, t' => pSRt t' fun o zz => pO o fun e' => chkE vs ns e e'
 | .ife c a b, t' => pSIf t' fun c' a' b' zz => chkE vs ns c c' && chkSs vs ns a a' && chkSs vs ns b b'
 | .for k src body, t' => pSFo t' fun t e' body' l zz => l.isEmpty && pO (tgt? t) fun xs => chkTg vs k xs && chkTup src t && chkSrc vs ns src e' && chkSs vs ns body body'
 | .whl c body, t' => pSWh t' fun c' body' l zz => l.isEmpty && (chkE vs ns c c' && chkSs vs ns body body')
 | .rais c _, t' => chkR ns c t'
 | .tre body c as hb el, t' => pSTr t' fun body' hs el' z zz => z.isEmpty && p1 hs fun h => pHd h fun x nm hb' zz => pO x fun x => pNm x fun id zz => pC hb' fun t0 hb'' => gOk ns c id && chkSs vs ns body body' && chkAs vs as nm && chkSs vs ns hb (t0 :: hb'') && chkSs vs ns el el'
 | .pas, t' => pSPa t' fun zz => true
 | .fz i j a b body, t' => pSFo t' fun t e' body' l zz => l.isEmpty && (pTup t fun us zz zz => pO (names? us) fun xs => chkTg vs [i, j] xs && decide (2 <= us.length)) && (pCal e' fun f as ks zz => pNm f fun id zz => ks.isEmpty && (gOk ns "zip" id && chkEs vs ns [a, b] as)) && chkSs vs ns body body'
 | .trr body c c2 _, t' => pSTr t' fun body' hs el' z zz => (z.isEmpty && el'.isEmpty) && p1 hs fun h => pHd h fun x nm hb' zz => nm.isNone && pO x fun x => pNm x fun id zz => p1 hb' fun t0 => (gOk ns c id && chkR ns c2 t0) && chkSs vs ns body body'
noncomputable def chkSs (vs : Vs) (ns : Ns) : List St -> List Stmt -> Bool
 | [], l => l.isEmpty
 | t :: ts, l => pC l fun t' ts' => chkS vs ns t t' && chkSs vs ns ts ts'
end
end Vc
end
section
namespace Vc
open PySem
structure EnvS (env : Env) (vs : Vs) (ns : Ns) : Prop where
 kind : env.scope.kind = .function
 names : env.scope.names = ns
 glb : env.globals = mainGlobals
 blt : env.builtins = builtinsNs
 loc : ∀ (i : Nat) (x : Str), vs[i]? = some (x, Vk.loc) -> ns.lookup x = some .local
 cel : ∀ (i : Nat) (x : Str), vs[i]? = some (x, Vk.cel) -> ns.lookup x = some .cell
 uni : ∀ (i j : Nat) (x : Str) (k k' : Vk), vs[i]? = some (x, k) -> vs[j]? = some (x, k') -> k ≠ Vk.hid -> k' ≠ Vk.hid -> i = j
 apt : ∀ x y c, env.cells.lookup x = some c -> env.cells.lookup y = some c -> x = y
noncomputable def EA (A : Around) (env : Env) : Prop := ∃ fenv outer, A.frames = some (fenv :: outer) /\ fenv.frame = env.frame
structure FI (C : Cx) (env : Env) (vs : Vs) (ρ : Lo) (H : MH) (h : Heap) : Prop where
 len : ρ.length = vs.length
 locH : H env.locals = none
 loc0 : C.h0.get? env.locals = none
 ns : ∃ m, h.Ns env.locals m /\ ∀ (i : Nat) (x : Str) (v : V), vs[i]? = some (x, Vk.loc) -> lk ρ i = some v -> ∃ cv, m x = some cv /\ VR C h v cv
 cel : ∀ (i : Nat) (x : Str), vs[i]? = some (x, Vk.cel) -> ∃ c oc, env.cells.lookup x = some c /\ H c = none /\ C.h0.get? c = none /\ h.IsCell c oc /\ ∀ v, lk ρ i = some v -> ∃ cv, oc = some cv /\ VR C h v cv
 cex : ∀ (x : Str) (c : Addr), env.cells.lookup x = some c -> H c = none /\ C.h0.get? c = none /\ ∃ oc, h.IsCell c oc
section
variable {C : Cx} {d : Md} {env : Env} {vs : Vs} {ns : Ns} {ρ : Lo} {H H' H'' : MH} {s s' s'' : Shared} {A : Around} {D D' : Addr -> Prop}
theorem Ns.slots {h h' : Heap} {a : Addr} {m : Str -> Option Value} (x : h.Ns a m) (k : ∀ o, h.get? a = some o -> ∃ sl, h'.get? a = some { o with slots := sl }) : h'.Ns a m := by
 refine Vc.xa_3_3 x fun o es ep ho hd r => ?_
 try clear x
 refine Vc.xa_1_1 (k o ho) fun sl e => ?_
 exact ⟨_, es, ep, e, hd, r⟩
theorem FI.step (x : FI C env vs ρ H s.heap) (y : Step C D H s H' s') (hD : ¬ D env.locals) (hc : ∀ (z : Str) (c : Addr), env.cells.lookup z = some c -> ¬ D c) : FI C env vs ρ H' s'.heap where
 len := x.len
 locH := by
  refine Vc.xa_1_2 x.ns fun m ho40_1 zz => ?_
  obtain ⟨o, _, _, ho, _⟩ := ho40_1
  exact y.gone ho x.locH
 loc0 := x.loc0
 ns := by
  refine Vc.xa_1_2 x.ns fun m hm r => ?_
  refine ⟨m, Ns.slots hm fun o ho => ?_, fun i z v e l => ?_⟩
  ·refine Vc.xa_1_2 (y.chg _ o ho x.locH hD) fun sl w zz => ?_
   exact ⟨sl, w⟩
  ·refine Vc.xa_1_2 (r i z v e l) fun cv e1 e2 => ?_
   exact ⟨cv, e1, e2.keep y.vk⟩
 cel := fun i z e => by
  refine Vc.xa_2_5 (x.cel i z e) fun c oc h1 h2 h3 ho51_5 h5 => ?_
  obtain ⟨o, ho, hd⟩ := ho51_5
  refine Vc.xa_1_2 (y.chg _ o ho h2 (hc z c h1)) fun sl w zz => ?_
  refine ⟨c, oc, h1, y.gone ho h2, h3, ⟨_, w, hd⟩, fun v l => ?_⟩
  refine Vc.xa_1_2 (h5 v l) fun cv e1 e2 => ?_
  exact ⟨cv, e1, e2.keep y.vk⟩
 cex := fun z c e => by
  obtain ⟨h1, h2, oc, o, ho, hd⟩ := x.cex z c e
  refine Vc.xa_1_2 (y.chg _ o ho h1 (hc z c e)) fun sl w zz => ?_
  exact ⟨y.gone ho h1, h2, oc, _, w, hd⟩
theorem FI.stepN (x : FI C env vs ρ H s.heap) (y : Step C No H s H' s') : FI C env vs ρ H' s'.heap := x.step y (fun f => f) fun zz zz zz f => f
theorem old_of (x : Step C No H s H' s') {b : Addr} (e : s'.heap.get? b = none) : s.heap.get? b = none := by
 cases q : s.heap.get? b with
 | none => rfl
 | some o =>
  by_cases u : (H b).isSome = true
  ·refine Vc.xa_1_1 (x.rel.there (x.dom b u)) fun ob w => ?_
   rw [e] at w
   cases w
  ·refine Vc.xa_1_2 (x.chg b o q (by simpa using u) (fun f => f)) fun sl w zz => ?_
   rw [e] at w
   cases w
theorem Fly.back {tr : Bool} {a : Addr} {c : String} {h : Heap} (st : Step C No H s H' s') (x : Fly C tr s' a c h) : Fly C tr s a c h := by
 obtain ⟨new, o, ws, r, h1, h2, h3, h4, h5, h6, h7⟩ := x
 exact ⟨old_of st new, o, ws, r, h1, h2, h3, h4, h5, h6, h7.imp id fun hq1 => Vc.xa_3_3 hq1 fun T oT ts g1 g2 g3 => ⟨T, oT, ts, g1, old_of st g2, g3⟩⟩
theorem XG.back {tr : Bool} {X : XH} {e : Value} (st : Step C No H s H' s') (x : XG tr C No H' s' X e s'') : XG tr C No H s X e s'' := by
 refine Vc.xa_3_5 x fun a c H2 h1 h2 h3 h4 h5 => ?_
 try clear x
 exact ⟨a, c, H2, h1, st.trans h2, h3, h4.back st, h5⟩
theorem QP.back {Q : V -> MH -> Prop} {v : Value} (st : Step C No H s H' s') (x : QP C H' s' Q v s'') : QP C H s Q v s'' := by
 refine Vc.xa_2_3 x fun r H2 h1 h2 h3 => ?_
 try clear x
 exact ⟨r, H2, st.trans h1, h2, h3⟩
theorem wp_back {t : Sem Value} {Q : V -> MH -> Prop} {X : XP} (st : Step C No H s H' s') (h : wpAny C.M A t (QP C H' s' Q) (XQ false C No H' s' X) s') : wpAny C.M A t (QP C H s Q) (XQ false C No H s X) s' :=
 wpAny_mono h (fun zz zz q => q.back st) fun zz zz q => q.back st
theorem load_nm {i : Nat} {x : Str} {v : V} {Q : Value -> Shared -> Prop} {E : Value -> Shared -> Prop} (ES : EnvS env vs ns) (fi : FI C env vs ρ H s.heap) (ho : vOk vs i x = true) (hl : lk ρ i = some v)
  (hQ : ∀ cv, VR C s.heap v cv -> Q cv s) : wpAny C.M A (loadName env x) Q E s := by
 unfold vOk at ho
 rcases Bool.or_eq_true_iff.mp ho with q | q
 ·have q' : vs[i]? = some (x, Vk.loc) := by simpa using q
  refine Vc.xa_1_2 fi.ns fun m hm r => ?_
  refine Vc.xa_1_2 (r i x v q' hl) fun cv e1 e2 => ?_
  exact wpAny_loadName_local ES.kind (by unfold Env.kindOf; rw [ES.names]; exact ES.loc i x q') hm e1 (hQ cv e2)
 ·have q' : vs[i]? = some (x, Vk.cel) := by simpa using q
  refine Vc.xa_2_5 (fi.cel i x q') fun c oc h1 zz zz h4 h5 => ?_
  refine Vc.xa_1_2 (h5 v hl) fun cv hr104_1 e2 => ?_
  subst hr104_1
  exact wpAny_loadName_cell ES.kind (by unfold Env.kindOf; rw [ES.names]; exact ES.cel i x q') h1 h4 (hQ cv e2)
theorem load_gl {x : String} {id : Str} {cv : Value} {pos : Pos} {Q : Value -> Shared -> Prop} {E : Value -> Shared -> Prop} (G : C.Good) (ES : EnvS env vs ns) (ho : gOk ns x id = true) (t : C.h0.StaysIn s.heap) (hg : C.G x cv)
  (hQ : Q cv s) : wpAny C.M A (eval (.Name id pos) env) Q E s := by
 unfold gOk at ho
 simp only [Bool.and_eq_true, beq_iff_eq, Bool.not_eq_true'] at ho
 refine Vc.xa_0_2 ho fun ho111_0 hd => ?_
 try clear ho
 obtain ⟨rfl, hk⟩ := ho111_0
 refine Calls.Name_function_global ES.kind (by unfold Env.kindOf; rw [ES.names]; exact hk) ?_ hd
 rcases hg with h | ⟨h1, h2⟩
 ·exact Calls.loadGlobal_global (by rw [ES.glb]; exact G.g.keeps t) h hQ
 ·exact Calls.loadGlobal_builtin (by rw [ES.glb]; exact G.g.keeps t) h1 (by rw [ES.blt]; exact G.b.keeps t) h2 hQ
theorem top_vr {v : V} {cv : Value} (t : C.h0.StaysIn s.heap) (h : VR C C.h0 v cv) : VR C s.heap v cv := h.keep (.of_keeps t)
end
end Vc
end
section
namespace Vc
open PySem
section
variable {C : Cx} {d : Md} {env : Env} {vs : Vs} {ns : Ns} {ρ : Lo} {H H' H'' : MH} {s s' s'' : Shared} {A : Around} {E : Value -> Shared -> Prop}
theorem evalArgs_plain {f : Value} {args : List (Bool × Sem Value)} {Q : Args -> Shared -> Prop} (hall : ∀ x ∈ args, x.1 = false)
  (h : wpAny C.M A (spliced args) (fun cvs s1 => Q ⟨cvs, []⟩ s1) E s) : wpAny C.M A (evalArgs f true args []) Q E s := by
 cases args with
 | nil =>
  unfold evalArgs
  show wpAny C.M A (spliced [] >>= _) Q E s
  refine wpAny_bind (wpAny_mono h (fun vs s₁ h₁ => ?_) fun zz zz x => x)
  refine wpAny_bind (wpAny_pure (wpAny_holding ?_))
  exact wpAny_bind (wpAny_evalAll_nil (wpAny_bind (wpAny_pure (wpAny_pure h₁))))
 | cons x rest =>
  obtain ⟨b, t⟩ := x
  obtain rfl : b = false := hall _ (.head _)
  exact evalArgs_kw rfl (wpAny_mono h (fun vs s1 h1 => wpAny_evalAll_nil h1) fun zz zz x => x)
theorem callWith_any {pos : Pos} {f : Value} {first : List Value} {args : List (Bool × Sem Value)} {Q : Value -> Shared -> Prop} (hall : ∀ x ∈ args, x.1 = false) (hc : Callee C f)
  (h : wpAny C.M A (spliced args) (fun cvs s1 => C.h0.StaysIn s1.heap /\ wpAny C.M A (call f (first ++ cvs)) Q E s1) E s) : wpAny C.M A (callWith pos f first args []) Q E s := by
 unfold callWith
 refine wpAny_bind (wpAny_holding (evalArgs_plain hall (wpAny_mono h (fun cvs s1 h1 => wpAny_bind (wpAny_standAt ?_)) fun zz zz x => x)))
 refine Vc.xa_0_2 h1 fun ht h1 => ?_
 have tail : ∀ {t : Sem Value}, wpAny C.M A t Q E s1 -> wpAny C.M A (t >>= fun r => holding [r] point >>= fun zz => pure r) Q E s1 :=
  fun ht => wpAny_bind (wpAny_mono ht (fun r s2 hr => wpAny_bind (wpAny_holding (wpAny_point (wpAny_pure hr)))) fun zz zz x => x)
 have hany : (args.any (·.1) || ([] : List (Option Str × Sem Value)).any (·.1.isNone)) = false := by
  simp only [List.any_nil, Bool.or_false]
  rw [List.any_eq_false]; intro x hx; simp [hall x hx]
 simp only [hany]
 refine wpAny_bind (hc A s1 _ _ ht fun k => ?_)
 cases k
 ·dsimp only
  split
  ·exact tail h1
  ·exact tail (by unfold callMarked; exact Calls.wpAny_keep h1)
 ·dsimp only
  split
  ·exact tail h1
  ·exact tail (by unfold callMarked; exact Calls.wpAny_keep h1)
 ·exact tail h1
 ·exact tail (wpAny_operateT h1)
end
end Vc
end
section
namespace Vc
open PySem
section
variable {vs : Vs} {ns : Ns} {e' : Expr} {P : Expr -> Prop}
theorem iv_nm {i : Nat} (h : chkE vs ns (.nm i) e' = true) (k : ∀ id p, vOk vs i id = true -> (id == ("__debug__" : Str)) = false -> P (.Name id p)) : P e' :=
 pNm_e h fun id p h => k id p (and_l h) ((Bool.not_eq_true' _).mp (and_r h))
theorem iv_gl {x : String} (h : chkE vs ns (.gl x) e' = true) (k : ∀ id p, gOk ns x id = true -> P (.Name id p)) : P e' := pNm_e h k
theorem cst_e {c : Const} (h : pCst e' (fun d zz zz => decide (d = c)) = true) (k : ∀ j p, P (.Constant c j p)) : P e' :=
 pCst_e h fun d j p h => dc_e' (P := fun d => P (.Constant d j p)) h (k j p)
theorem iv_bin {op : Operator} {l r : Ex} (h : chkE vs ns (.bin op l r) e' = true) (k : ∀ l' r' p, chkE vs ns l l' = true -> chkE vs ns r r' = true -> P (.BinOp l' op r' p)) : P e' :=
 pBin_e h fun l' o r' p h => dc_e (P := fun o => P (.BinOp l' o r' p)) (and_l h) (k l' r' p (and_l (and_r h)) (and_r (and_r h)))
theorem iv_una {op : UnaryOp} {e : Ex} (h : chkE vs ns (.una op e) e' = true) (k : ∀ x p, chkE vs ns e x = true -> P (.UnaryOp op x p)) : P e' :=
 pUna_e h fun o x p h => dc_e (P := fun o => P (.UnaryOp o x p)) (and_l h) (k x p (and_r h))
theorem iv_cmp {op : CmpOp} {l r : Ex} (h : chkE vs ns (.cmp op l r) e' = true) (k : ∀ l' r' p, notSet r' = true -> chkE vs ns l l' = true -> chkE vs ns r r' = true -> P (.Compare l' [op] [r'] p)) : P e' :=
 pCmp_e h fun l' os rs p h => p1_e (P := fun os => P (.Compare l' os rs p)) h fun o h => p1_e (P := fun rs => P (.Compare l' [o] rs p)) h fun r' h => dc_e (P := fun o => P (.Compare l' [o] [r'] p)) (and_l h) (k l' r' p (and_l (and_r h)) (and_l (and_r (and_r h))) (and_r (and_r (and_r h))))
theorem iv_cmp2 {o1 o2 : CmpOp} {l m r : Ex} (h : chkE vs ns (.cmp2 o1 o2 l m r) e' = true) (k : ∀ l' m' r' p, notSet r' = true -> chkE vs ns l l' = true -> chkE vs ns m m' = true -> chkE vs ns r r' = true -> P (.Compare l' [o1, o2] [m', r'] p)) : P e' :=
 pCmp_e h fun l' os rs p h => dc_e' (P := fun os => P (.Compare l' os rs p)) (and_l h) (pC_e (P := fun rs => P (.Compare l' [o1, o2] rs p)) (and_r h) fun m' ms h => p1_e (P := fun ms => P (.Compare l' [o1, o2] (m' :: ms) p)) h fun r' h =>
  k l' m' r' p (and_l (and_r h)) (and_l (and_r (and_r h))) (and_l (and_r (and_r (and_r h)))) (and_r (and_r (and_r (and_r h)))))
theorem iv_bop {op : BoolOp} {es : List Ex} (h : chkE vs ns (.bop op es) e' = true) (k : ∀ es' p, chkEs vs ns es es' = true -> P (.BoolOp op es' p)) : P e' :=
 pBop_e h fun o es' p h => dc_e (P := fun o => P (.BoolOp o es' p)) (and_l h) (k es' p (and_r h))
theorem iv_ife {c a b : Ex} (h : chkE vs ns (.ife c a b) e' = true) (k : ∀ c' a' b' p, chkE vs ns c c' = true -> chkE vs ns a a' = true -> chkE vs ns b b' = true -> P (.IfExp c' a' b' p)) : P e' :=
 pIfe_e h fun c' a' b' p h => k c' a' b' p (and_l h) (and_l (and_r h)) (and_r (and_r h))
theorem iv_emp {j : Nat} (h : chkE vs ns (.emp j) e' = true) (k : ∀ p, P (.Dict [] [] p)) : P e' :=
 pDct_e h fun ks es p h => em_e (P := fun ks => P (.Dict ks es p)) (and_l h) (em_e (P := fun es => P (.Dict [] es p)) (and_r h) (k p))
theorem iv_dct {ks : List String} {es : List Ex} (h : chkE vs ns (.dct ks es) e' = true) (k : ∀ ks' es' p, ks ≠ [] -> ks.length <= 15 -> ks.length = es.length -> (∀ e ∈ es, simpE e = true) -> chkK ks ks' = true -> chkEs vs ns es es' = true -> P (.Dict ks' es' p)) : P e' :=
 pDct_e h fun ks' es' p h => k ks' es' p (fun q => by rw [q] at h; exact Bool.false_ne_true (and_l h)) (of_decide_eq_true (and_l (and_r h))) (of_decide_eq_true (and_l (and_r (and_r h)))) (List.all_eq_true.mp (and_l (and_r (and_r (and_r h))))) (and_l (and_r (and_r (and_r (and_r h))))) (and_r (and_r (and_r (and_r (and_r h)))))
theorem iv_sub {o i : Ex} (h : chkE vs ns (.sub o i) e' = true) (k : ∀ o' i' p, notSlice i' = true -> chkE vs ns o o' = true -> chkE vs ns i i' = true -> P (.Subscript o' i' p)) : P e' :=
 pSub_e h fun o' i' p h => k o' i' p (and_l h) (and_l (and_r h)) (and_r (and_r h))
theorem iv_sli {o l u t : Ex} (h : chkE vs ns (.sli o l u t) e' = true) (k : ∀ o' l' u' t' q p, chkE vs ns o o' = true -> chkO vs ns l l' = true -> chkO vs ns u u' = true -> chkO vs ns t t' = true -> P (.Subscript o' (.Slice l' u' t' q) p)) : P e' :=
 pSub_e h fun o' i' p h => pSli_e (P := fun i' => P (.Subscript o' i' p)) h fun l' u' t' q h => k o' l' u' t' q p (and_l h) (and_l (and_r h)) (and_l (and_r (and_r h))) (and_r (and_r (and_r h)))
theorem iv_call {f : String} {es : List Ex} (h : chkE vs ns (.call f es) e' = true) (k : ∀ id q es' p, gOk ns f id = true -> chkEs vs ns es es' = true -> P (.Call (.Name id q) es' [] p)) : P e' :=
 pCal_e h fun g es' ks p h => pNm_e (P := fun g => P (.Call g es' ks p)) h fun id q h => em_e (P := fun ks => P (.Call (.Name id q) es' ks p)) (and_l h) (k id q es' p (and_l (and_r h)) (and_r (and_r h)))
theorem iv_meth {o : Ex} {m : String} {es : List Ex} (h : chkE vs ns (.meth o m es) e' = true) (k : ∀ o' ap es' p, (ap.endLine == p.line) = true -> es.length < 29 -> notSuper o' = true -> chkE vs ns o o' = true -> chkEs vs ns es es' = true -> P (.Call (.Attribute o' (Str.ofString m) ap) es' [] p)) : P e' :=
 pCal_e h fun g es' ks p h => pAtt_e (P := fun g => P (.Call g es' ks p)) h fun o' m' ap h => em_e (P := fun ks => P (.Call (.Attribute o' m' ap) es' ks p)) (and_l h)
  (dc_e' (P := fun m' => P (.Call (.Attribute o' m' ap) es' [] p)) (and_l (and_r h)) (k o' ap es' p (and_l (and_r (and_r h))) (of_decide_eq_true (and_l (and_r (and_r (and_r h))))) (and_l (and_r (and_r (and_r (and_r h))))) (and_l (and_r (and_r (and_r (and_r (and_r h)))))) (and_r (and_r (and_r (and_r (and_r (and_r h))))))))
theorem iv_att {o : Ex} {a : String} (h : chkE vs ns (.att o a) e' = true) (k : ∀ o' p, notSuper o' = true -> chkE vs ns o o' = true -> P (.Attribute o' (Str.ofString a) p)) : P e' :=
 pAtt_e h fun o' a' p h => dc_e' (P := fun a' => P (.Attribute o' a' p)) (and_l h) (k o' p (and_l (and_r h)) (and_r (and_r h)))
theorem lo_of {α : Type} {l : List α} {p : α -> Bool} (h : l.all p = true) {x : α} (hx : x ∈ l) : p x = true := List.all_eq_true.mp h x hx
theorem no_kind {k j : NameKind} (h : (!(k == j)) = true) : k ≠ j := fun q => by rw [q] at h; cases j <;> cases h
theorem or_kind {k j : NameKind} {b : Bool} (h : (!(k == j) || b) = true) (q : k = j) : b = true := by rw [q] at h; cases j <;> exact h
structure TgOk (vs : Vs) (sc : Scope) (tg : List Str) : Prop where
 loc : ∀ x ∈ tg, sc.names.lookup x = some .local
 nd : tg.Nodup
 kind : sc.kind = .function
 nc : ∀ x ∈ sc.names, x.2 ≠ .cell
 nl : ∀ x ∈ sc.names, x.2 = .local -> sc.names.lookup x.1 = some .local
 fr : ∀ x ∈ sc.names, x.2 = .free -> (x.1, Vk.cel) ∈ vs
theorem iv_comp {n : Nat} {elt it : Ex} {ifs : List Ex} (h : chkE vs ns (.comp n elt it ifs) e' = true) (k : ∀ elt' t' it' ifs' sc p tg, tgt? t' = some tg -> tg.length = n -> TgOk vs sc tg -> notSet it' = true -> chkE vs ns it it' = true ->
  chkE (innerVs vs (relab sc.names ns) tg) (relab sc.names ns) elt elt' = true -> chkEs (innerVs vs (relab sc.names ns) tg) (relab sc.names ns) ifs ifs' = true -> P (.ListComp elt' [⟨t', it', ifs', 0⟩] sc p)) : P e' :=
 pLc_e h fun elt' gs sc p h => p1_e (P := fun gs => P (.ListComp elt' gs sc p)) h fun ⟨t', it', ifs', a⟩ h => dc_e' (P := fun a => P (.ListComp elt' [⟨t', it', ifs', a⟩] sc p)) (and_l h)
  (pO_e (P := fun o => tgt? t' = o -> P (.ListComp elt' [⟨t', it', ifs', 0⟩] sc p)) (and_r h) (fun tg h ht =>
   have h3 := and_r (and_r (and_r (and_r h)))
   have h4 := and_r (and_r (and_r h3))
   k elt' t' it' ifs' sc p tg ht (of_decide_eq_true (and_l h)) ⟨fun x hx => eq_of_beq (lo_of (and_l (and_r h)) hx), of_decide_eq_true (and_l (and_r (and_r h))), of_decide_eq_true (and_l (and_r (and_r (and_r h)))),
    fun x hx => no_kind (lo_of (and_l h3) hx), fun x hx q => eq_of_beq (or_kind (lo_of (and_l (and_r h3)) hx) q), fun x hx q => List.contains_iff_mem.mp (or_kind (lo_of (and_l (and_r (and_r h3))) hx) q)⟩
    (and_l h4) (and_l (and_r h4)) (and_l (and_r (and_r h4))) (and_r (and_r (and_r h4)))) rfl)
theorem iv_cons {P : List Expr -> Prop} {e : Ex} {es : List Ex} {l : List Expr} (h : chkEs vs ns (e :: es) l = true) (k : ∀ e' es', chkE vs ns e e' = true -> chkEs vs ns es es' = true -> P (e' :: es')) : P l :=
 pC_e h fun x r h => k x r (and_l h) (and_r h)
theorem iv_nil {P : List Expr -> Prop} {l : List Expr} (h : chkEs vs ns [] l = true) (k : P []) : P l := em_e h k
theorem chk_len : ∀ {es : List Ex} {es' : List Expr}, chkEs vs ns es es' = true -> es.length = es'.length
 | [], _, h => iv_nil (P := fun l => 0 = l.length) h rfl
 | _ :: _, _, h => iv_cons (P := fun l => _ + 1 = l.length) h fun zz zz zz h => congrArg (· + 1) (chk_len h)
theorem chk_notStar {e : Ex} (h : chkE vs ns e e' = true) : ∀ x p, e' ≠ .Starred x p := by
 rintro x p rfl
 cases e <;> exact Bool.false_ne_true h
end
end Vc
end
section
namespace Vc
open PySem
noncomputable def ItAt (C : Cx) (h : Heap) (iv : V) (I : Addr) (i : Nat) : Prop := match iv with
 | .ref a => h.IsListIter I a i
 | .tup l => ∃ t items, h.IsTuple t items /\ VRs C h l items.toList /\ h.IsTupleIter I t i
 | .rng a b c => IsRangeIter h I (a + (i : Int) * c) (Builtin.Range.rangeSize a b c - i) c
 | .str x => ∃ t, h.IsStrIter I (strIterType x) x t i
 | _ => False
theorem ItAt.there {C : Cx} {h : Heap} {iv : V} {I : Addr} {i : Nat} (x : ItAt C h iv I i) : ∃ o T vs, h.get? I = some o /\ o.cls = .type T /\ T ≠ "tuple" /\ T ≠ "range" /\ o.data = .fields vs := by
 cases iv with
 | ref a => obtain ⟨o, h1, h2, h3⟩ := x; exact ⟨o, _, _, h1, h2, by decide, by decide, h3⟩
 | tup l => obtain ⟨t, items, _, _, o, h1, h2, h3⟩ := x; exact ⟨o, _, _, h1, h2, by decide, by decide, h3⟩
 | rng a b c => exact ⟨_, "range_iterator", _, x, rfl, by decide, by decide, rfl⟩
 | str y =>
  refine Vc.xa_2_3 x fun t o h1 h2 h3 => ?_
  try clear x
  refine ⟨o, _, _, h1, h2, ?_, ?_, h3⟩ <;> (unfold strIterType; split <;> decide)
 | _ => exact x.elim
theorem ItAt.keep {C : Cx} {h h' : Heap} {iv : V} {I : Addr} {i : Nat} (x : ItAt C h iv I i) (k : VK h h') (e : ∀ o, h.get? I = some o -> h'.get? I = some o) : ItAt C h' iv I i := by
 cases iv with
 | ref a => obtain ⟨o, h1, h2⟩ := x; exact ⟨o, e o h1, h2⟩
 | tup l =>
  obtain ⟨t, items, ⟨o', g1, g2, n, g3⟩, r, o, h1, h2⟩ := x
  exact ⟨t, items, ⟨o', k.solid t o' g1 (.inl ⟨g2, items, n, g3⟩), g2, n, g3⟩, r.keep k, o, e o h1, h2⟩
 | rng a b c => exact e _ x
 | str y => obtain ⟨t, o, h1, h2⟩ := x; exact ⟨t, o, e o h1, h2⟩
 | _ => exact x.elim
section
variable {C : Cx} {d : Md} {H : MH} {s : Shared} {A : Around} {E : Value -> Shared -> Prop} {iv : V} {I : Addr} {i : Nat} {all : List V}
theorem ItAt.step {D : Addr -> Prop} {H' : MH} {s' : Shared} (x : ItAt C s.heap iv I i) (y : Step C D H s H' s') (hI : H I = none) (hD : ¬ D I) : ItAt C s'.heap iv I i := by
 refine Vc.xa_3_5 x.there fun o T vs h1 h2 zz zz h3 => ?_
 refine x.keep y.vk fun o' e => ?_
 refine Vc.xa_1_2 (y.chg I o' e hI hD) fun sl w q => ?_
 rw [h1] at e; cases e
 rw [q fun es ep z => by rw [h3] at z; cases z] at w
 exact w
theorem list_of {a : Addr} (r : HR C H s.heap) (h : itemsOf H (.ref a) = some all) : ∃ items, s.heap.IsList a items /\ VRs C s.heap all items.toList := by
 simp only [itemsOf] at h
 split at h
 ·rename_i l e; cases h; obtain ⟨_, items, p, q⟩ := r a _ e; exact ⟨items, p.isList, q⟩
 ·rename_i l e; cases h; obtain ⟨items, p, q⟩ := r a _ e; exact ⟨items, p, q⟩
 ·cases h
theorem rangeSize_nonneg (a b c : Int) : 0 <= Builtin.Range.rangeSize a b c := by
 unfold Builtin.Range.rangeSize
 split <;> split <;> first | omega | (have := Int.ediv_nonneg (a := b - a - 1) (b := c) (by omega) (by omega); omega) | (have := Int.ediv_nonneg (a := a - b - 1) (b := -c) (by omega) (by omega); omega)
theorem it_step {s' : Shared} (ok : Ok C d H A s) (x : ItAt C s.heap iv I i) (hI : H I = none) (h0 : C.h0.get? I = none) (k : ∀ b o, s.heap.get? b = some o -> b ≠ I -> s'.heap.get? b = some o) (g : s'.gens = s.gens) (os : s'.os = s.os) :
  Step C (· = I) H s H s' := by
 refine Vc.xa_3_5 x.there fun o T vs h1 h2 n1 n2 h3 => ?_
 refine Step.but ok.rel ok.top (fun b o e n => k b o e n) (fun b e => e ▸ hI) (fun b e => e ▸ h0) (fun b o' e q => ?_) (fun b o' es ep e q z => ?_) g os
 ·subst q; rw [h1] at e; cases e; exact .inr (.inr ⟨T, h2, n1, n2⟩)
 ·subst q; rw [h1] at e; cases e; rw [h3] at z; cases z
theorem next_item {x : V} {Q : Option Value -> Shared -> Prop} (ok : Ok C d H A s) (it : ItAt C s.heap iv I i) (hI : H I = none) (h0 : C.h0.get? I = none) (hi : itemsOf H iv = some all) (hx : all[i]? = some x)
  (hQ : ∀ s' cv, Step C (· = I) H s H s' -> ItAt C s'.heap iv I (i + 1) -> VR C s'.heap x cv -> Q (some cv) s') : wpAny C.M A (pyNext (.ref I)) Q E s := by
 cases iv with
 | ref a =>
  refine Vc.xa_1_2 (list_of ok.rel hi) fun items hl rs => ?_
  refine Vc.xa_1_2 (rs.get hx) fun cv e1 e2 => ?_
  refine wpAny_pyNext_list_item it hl (x := cv) (by simpa using e1) fun h' it' sb => ?_
  have st : Step C (· = I) H s H { s with heap := h' } := it_step ok it hI h0 (fun b o e n => (sb.2 b n).trans e) rfl rfl
  exact hQ _ cv st it' (e2.keep st.vk)
 | tup l =>
  refine Vc.xa_2_3 it fun t items ht rs hit => ?_
  try clear it
  have it' : ItAt C s.heap (.tup l) I i := ⟨t, items, ht, rs, hit⟩
  cases hi
  refine Vc.xa_1_2 (rs.get hx) fun cv e1 e2 => ?_
  refine wpAny_pyNext_tuple_item hit ht (x := cv) (by simpa using e1) fun h' it'' sb => ?_
  have st : Step C (· = I) H s H { s with heap := h' } := it_step ok it' hI h0 (fun b o e n => (sb.2 b n).trans e) rfl rfl
  obtain ⟨o', g1, g2, n, g3⟩ := ht
  exact hQ _ cv st ⟨t, items, ⟨o', st.vk.solid t o' g1 (.inl ⟨g2, items, n, g3⟩), g2, n, g3⟩, rs.keep st.vk, it''⟩ (e2.keep st.vk)
 | rng a b c =>
  cases hi
  have hlt : i < (Builtin.Range.rangeSize a b c).toNat := by
   have := (List.getElem?_eq_some_iff.mp hx).1; simpa [rngItems] using this
  unfold rngItems at hx
  rw [List.getElem?_map] at hx
  refine Vc.xa_1_2 (Option.map_eq_some_iff.mp hx) fun k e1 e2 => ?_
  rw [List.getElem?_range (by
   have := (List.getElem?_eq_some_iff.mp e1).1; simpa using this)] at e1
  cases e1
  refine wpAny_pyNext_range_item (x := a + (i : Int) * c) it (by have := rangeSize_nonneg a b c; (clear this; omega)) fun h' it' sb => ?_
  have st : Step C (· = I) H s H { s with heap := h', toks := s.toks + 1 } := it_step ok it hI h0 (fun b o e n => (sb.2 b n).trans e) rfl rfl
  refine hQ _ _ st ?_ (by subst e2; dsimp only [VR]; exact ⟨_, rfl⟩)
  show IsRangeIter h' I (a + ((i + 1 : Nat) : Int) * c) (Builtin.Range.rangeSize a b c - ((i + 1 : Nat) : Int)) c
  have e3 : a + (i : Int) * c + c = a + ((i + 1 : Nat) : Int) * c := by rw [Int.natCast_add]; rw [Int.add_mul]; simp; (clear hlt; omega)
  have e4 : Builtin.Range.rangeSize a b c - (i : Int) - 1 = Builtin.Range.rangeSize a b c - ((i + 1 : Nat) : Int) := by (clear hlt e3; omega)
  rw [<- e3, <- e4]; exact it'
 | str y =>
  cases hi
  rw [List.getElem?_map] at hx
  refine Vc.xa_1_2 (Option.map_eq_some_iff.mp hx) fun k e1 e2 => ?_
  refine Vc.xa_1_1 it fun t hit => ?_
  try clear it
  have it' : ItAt C s.heap (.str y) I i := ⟨t, hit⟩
  have e1' : y.cps[i]? = some k := by simpa using e1
  unfold strIterType at hit
  by_cases q : (y.cps.all (· < 128)) = true
  ·rw [if_pos q] at hit
   refine wpAny_pyNext_ascii_item hit e1' fun h' it'' sb => ?_
   have st : Step C (· = I) H s H { s with heap := h', toks := s.toks + 1 } := it_step ok it' hI h0 (fun b o e n => (sb.2 b n).trans e) rfl rfl
   exact hQ _ _ st ⟨t, by unfold strIterType; rw [if_pos q]; exact it''⟩ (by subst e2; dsimp only [VR]; exact ⟨_, rfl⟩)
  ·rw [if_neg q] at hit
   refine wpAny_pyNext_wide_item hit e1' fun h' it'' sb => ?_
   have st : Step C (· = I) H s H { s with heap := h', toks := s.toks + 1 } := it_step ok it' hI h0 (fun b o e n => (sb.2 b n).trans e) rfl rfl
   exact hQ _ _ st ⟨t, by unfold strIterType; rw [if_neg q]; exact it''⟩ (by subst e2; dsimp only [VR]; exact ⟨_, rfl⟩)
 | _ => exact it.elim
theorem next_end {Q : Option Value -> Shared -> Prop} (ok : Ok C d H A s) (hq : Itq d iv) (it : ItAt C s.heap iv I i) (hI : H I = none) (h0 : C.h0.get? I = none) (hi : itemsOf H iv = some all) (hx : all.length <= i)
  (hQ : ∀ s', Step C (· = I) H s H s' -> Q none s') : wpAny C.M A (pyNext (.ref I)) Q E s := by
 have hq1 : (∀ a, iv ≠ .ref a) -> (∀ l, iv ≠ .tup l) -> A.handled = none := fun n1 n2 => ok.hnd.1 (hq.1.elim id fun x => x.elim (fun hq1 => Vc.xa_1_1 hq1 fun a e => (n1 a e).elim) fun hq2 => Vc.xa_1_1 hq2 fun l e => (n2 l e).elim)
 cases iv with
 | ref a =>
  refine Vc.xa_1_2 (list_of ok.rel hi) fun items hl rs => ?_
  have hl' := rs.length
  refine next_list_endH ok.hnd.2 it hl (by rw [Array.getElem?_eq_none_iff]; simp at hl'; omega) fun h' eb => ?_
  exact hQ _ (it_step ok it hI h0 (fun b o e n => eb b o n e) rfl rfl)
 | tup l =>
  refine Vc.xa_2_3 it fun t items ht rs hit => ?_
  try clear it
  have it' : ItAt C s.heap (.tup l) I i := ⟨t, items, ht, rs, hit⟩
  cases hi
  have hl' := rs.length
  refine next_tuple_endH ok.hnd.2 hit ht (by rw [Array.getElem?_eq_none_iff]; simp at hl'; omega) fun h' eb => ?_
  exact hQ _ (it_step ok it' hI h0 (fun b o e n => eb b o n e) rfl rfl)
 | rng a b c =>
  cases hi
  have hl : (Builtin.Range.rangeSize a b c).toNat <= i := by simpa [rngItems] using hx
  refine wpAny_pyNext_range_end (hq1 (fun zz e => by cases e) (fun zz e => by cases e)) it (by have := rangeSize_nonneg a b c; (clear hx this; omega)) fun h' eb => ?_
  exact hQ _ (it_step ok it hI h0 (fun b o e n => eb b o n e) rfl rfl)
 | str y =>
  cases hi
  have hl : y.cps.size <= i := by simpa using hx
  refine Vc.xa_1_1 it fun t hit => ?_
  try clear it
  have it' : ItAt C s.heap (.str y) I i := ⟨t, hit⟩
  have e1' : y.cps[i]? = none := by simpa using hl
  unfold strIterType at hit
  by_cases q : (y.cps.all (· < 128)) = true
  ·rw [if_pos q] at hit
   exact wpAny_pyNext_ascii_end (hq1 (fun zz e => by cases e) (fun zz e => by cases e)) hit e1' fun h' eb => hQ _ (it_step ok it' hI h0 (fun b o e n => eb b o n e) rfl rfl)
  ·rw [if_neg q] at hit
   exact wpAny_pyNext_wide_end (hq1 (fun zz e => by cases e) (fun zz e => by cases e)) hit e1' fun h' eb => hQ _ (it_step ok it' hI h0 (fun b o e n => eb b o n e) rfl rfl)
 | _ => exact it.elim
theorem iter_of {cv : Value} {Q : Value -> Shared -> Prop} (ok : Ok C d H A s) (hq : Itq d iv) (r : VR C s.heap iv cv) (hi : itemsOf H iv = some all)
  (hQ : ∀ I s', Step C No H s H s' -> s.heap.get? I = none -> ItAt C s'.heap iv I 0 -> Q (.ref I) s') : wpAny C.M A (pyIter cv) Q E s := by
 have push : ∀ ob : Obj, Step C No H s H { s with heap := s.heap.push ob } := fun ob => Step.keeps ok.rel ok.top (fun b o e => Heap.get?_push_of_some _ e) rfl rfl
 cases iv with
 | ref a =>
  dsimp only [VR] at r; subst r
  refine Vc.xa_1_2 (list_of ok.rel hi) fun items hl rs => ?_
  exact wpAny_pyIter_list hl (hQ _ _ (push _) (fresh_size _) ⟨_, Heap.get?_push_size _ rfl, rfl, rfl⟩)
 | tup l =>
  dsimp only [VR] at r
  refine Vc.xa_2_3 r fun t items ho168_2 ht rs => ?_
  try clear r
  obtain ⟨rfl, nd⟩ := ho168_2
  refine wpAny_pyIter_tuple ht (hQ _ _ (push _) (fresh_size _) ⟨t, items, ht.push _, rs.keep (push _).vk, _, Heap.get?_push_size _ rfl, rfl, rfl⟩)
 | rng a b c =>
  dsimp only [VR] at r
  refine Vc.xa_4_2 r fun q t u w hr172_4 hr => ?_
  try clear r
  subst hr172_4
  refine wpAny_pyIter_range hr (hq.2 a b c rfl) (hQ _ _ (push _) (fresh_size _) ?_)
  show IsRangeIter _ _ _ _ _
  have e1 : a + ((0 : Nat) : Int) * c = a := by simp
  have e2 : Builtin.Range.rangeSize a b c - ((0 : Nat) : Int) = Builtin.Range.rangeSize a b c := by simp
  rw [e1, e2]; exact Heap.get?_push_size _ rfl
 | str y =>
  dsimp only [VR] at r
  refine Vc.xa_1_1 r fun t hr180_1 => ?_
  try clear r
  subst hr180_1
  exact wpAny_pyIter_strU (hQ _ _ (push _) (fresh_size _) ⟨t, _, Heap.get?_push_size _ rfl, rfl, rfl⟩)
 | _ => cases hi
theorem iter_self {Q : Value -> Shared -> Prop} (it : ItAt C s.heap iv I i) (hQ : Q (.ref I) s) : wpAny C.M A (pyIter (.ref I)) Q E s := by
 cases iv with
 | ref a => exact wpAny_pyIter_listiter it hQ
 | tup l => obtain ⟨t, items, ht, rs, hit⟩ := it; exact wpAny_pyIter_tupleiter hit hQ
 | rng a b c => exact wpAny_pyIter_rangeiter it hQ
 | str y =>
  refine Vc.xa_1_1 it fun t hit => ?_
  try clear it
  unfold strIterType at hit
  by_cases q : (y.cps.all (· < 128)) = true
  ·rw [if_pos q] at hit; exact wpAny_pyIter_striter_ascii hit hQ
  ·rw [if_neg q] at hit; exact wpAny_pyIter_striter_wide hit hQ
 | _ => exact it.elim
theorem it_go {t : Expr} {v : Value} {Q : Unit -> Shared -> Prop} (it : ItAt C s.heap iv I i) (hQ : Q () s) : wpAny C.M A (letOwnedTupleGo t (.ref I) v) Q E s := by
 refine Vc.xa_3_5 it.there fun o T vs h1 h2 n1 n2 h3 => ?_
 have hT : (["enumerate", "zip", "dict_itemiterator", "dict_reverseitemiterator", "odict_iterator", "itertools.zip_longest", "itertools.pairwise"].contains T) = false := by
  cases iv with
  | ref a => obtain ⟨o', g1, g2, _⟩ := it; rw [h1] at g1; cases g1; rw [h2] at g2; cases g2; decide
  | tup l => obtain ⟨_, _, _, _, o', g1, g2, _⟩ := it; rw [h1] at g1; cases g1; rw [h2] at g2; cases g2; decide
  | rng a b c => have g : s.heap.get? I = _ := it; rw [h1] at g; cases g; cases h2; decide
  | str y => obtain ⟨_, o', g1, g2, _⟩ := it; rw [h1] at g1; cases g1; rw [h2] at g2; cases g2; unfold strIterType; split <;> decide
  | _ => exact it.elim
 have main : ∀ a : Addr, wpAny C.M A (do
   let o <- load I
   match o.cls, o.data with
   | .type n, .fields vs =>
    if ["enumerate", "zip", "dict_itemiterator", "dict_reverseitemiterator", "odict_iterator", "itertools.zip_longest", "itertools.pairwise"].contains n && vs[0]? == some (rawInt a) then
     rule "for.unpacks-the-owned-tuple"
     updateField I 0 .none
   | _, _ => pure ()) Q E s := fun a => by
  refine wpAny_bind (wpAny_load h1 ?_)
  rw [h2, h3]
  dsimp only
  rw [hT, Bool.false_and, if_neg (by decide)]
  exact wpAny_pure hQ
 cases t <;> first
  | exact wpAny_pure hQ
  | (cases v <;> first | exact wpAny_pure hQ | exact main _)
end
end Vc
end
section
namespace Vc
open PySem
noncomputable def Dm (env : Env) : Addr -> Prop := fun b => b = env.locals ∨ ∃ x, env.cells.lookup x = some b
noncomputable def Dx (env : Env) (vs : Vs) (i : Nat) : Addr -> Prop := fun b => ((∃ x, vs[i]? = some (x, Vk.loc)) /\ b = env.locals) ∨ ∃ x, vs[i]? = some (x, Vk.cel) /\ env.cells.lookup x = some b
noncomputable def Dxs (env : Env) (vs : Vs) (idx : List Nat) : Addr -> Prop := fun b => ∃ i ∈ idx, Dx env vs i b
theorem dx_dm {env : Env} {vs : Vs} {i : Nat} {b : Addr} (h : Dx env vs i b) : Dm env b := by
 rcases h with ⟨_, e⟩ | ⟨x, _, e⟩
 ·exact .inl e
 ·exact .inr ⟨x, e⟩
theorem dxs_dm {env : Env} {vs : Vs} {idx : List Nat} {b : Addr} (h : Dxs env vs idx b) : Dm env b := let ⟨_, _, h⟩ := h; dx_dm h
section
variable {C : Cx} {d : Md} {env : Env} {vs : Vs} {ns : Ns} {ρ : Lo} {H H' : MH} {s s' : Shared} {A : Around} {E : Value -> Shared -> Prop} {D D' : Addr -> Prop}
theorem Step.widen (x : Step C D H s H s') (hD : ∀ b, D b -> D' b) : Step C D' H s H s' :=
 { x with chg := fun b o e n nd => x.chg b o e n fun q => nd (hD b q), dn := fun zz zz e => e }
theorem ns_cell_ne {h : Heap} {a c : Addr} {m : Str -> Option Value} {v : Option Value} (x : h.Ns a m) (y : h.IsCell c v) : c ≠ a := by
 rintro rfl
 refine Vc.xa_3_3 x fun o es ep ho hd zz => ?_
 try clear x
 refine Vc.xa_1_2 y fun o' ho' hd' => ?_
 try clear y
 rw [ho] at ho'; cases ho'; rw [hd] at hd'; cases hd'
theorem store_one {i : Nat} {id : Str} {v : V} {cv : Value} {Q : Unit -> Shared -> Prop} (ES : EnvS env vs ns) (ok : Ok C d H A s) (fi : FI C env vs ρ H s.heap) (hv : vOk vs i id = true) (r : VR C s.heap v cv)
  (hQ : ∀ s', Step C (Dx env vs i) H s H s' -> FI C env vs (ls ρ i v) H s'.heap -> Q () s') : wpAny C.M A (storeName env id cv) Q E s := by
 unfold vOk at hv
 rcases Bool.or_eq_true_iff.mp hv with q | q
 ·have q' : vs[i]? = some (id, Vk.loc) := by simpa using q
  refine Vc.xa_1_2 fi.ns fun m hm rm => ?_
  refine wpAny_storeName_local (by unfold Env.kindOf; rw [ES.names]; exact ES.loc i id q') hm (fun h' hn hs => ?_) (by rw [ES.kind]; rfl)
  have st : Step C (· = env.locals) H s H { s with heap := h', toks := s.toks + 1 } := by
   refine Step.but ok.rel ok.top (fun b o e n => (hs.2 b n).trans e) (fun b e => e ▸ fi.locH) (fun b e => e ▸ fi.loc0) (fun b o e w => ?_) (fun b o es ep e w z => ?_) rfl rfl
   ·subst w; obtain ⟨o', es, ep, ho, hd, _⟩ := hm; rw [ho] at e; cases e; exact .inl ⟨es, ep, hd⟩
   ·subst w; obtain ⟨o', es', ep', ho, hd, _⟩ := hn; exact ⟨o', es', ep', ho, hd⟩
  refine hQ _ (st.widen fun b e => .inl ⟨⟨id, q'⟩, e⟩) ⟨by rw [ls_length]; exact fi.len, fi.locH, fi.loc0, ⟨_, hn, fun j x w e l => ?_⟩, fun j x e => ?_, fun x c e => ?_⟩
  ·by_cases hji : j = i
   ·subst hji
    rw [q'] at e; cases e
    obtain rfl := lk_ls_self l
    exact ⟨cv, if_pos rfl, r.keep st.vk⟩
   ·rw [lk_ls_ne (Ne.symm hji)] at l
    refine Vc.xa_1_2 (rm j x w e l) fun cw e1 e2 => ?_
    refine ⟨cw, ?_, e2.keep st.vk⟩
    rw [if_neg]; exact e1
    rintro rfl
    exact hji (ES.uni j i _ _ _ e q' (by decide) (by decide))
  ·refine Vc.xa_2_5 (fi.cel j x e) fun c oc h1 h2 h3 h4 h5 => ?_
   refine ⟨c, oc, h1, h2, h3, h4.sameBut hs (ns_cell_ne hm h4), fun w l => ?_⟩
   by_cases hji : j = i
   ·subst hji; rw [q'] at e; cases e
   ·rw [lk_ls_ne (Ne.symm hji)] at l
    refine Vc.xa_1_2 (h5 w l) fun cw e1 e2 => ?_
    exact ⟨cw, e1, e2.keep st.vk⟩
  ·obtain ⟨g1, g2, oc, g3⟩ := fi.cex x c e
   exact ⟨g1, g2, oc, g3.sameBut hs (ns_cell_ne hm g3)⟩
 ·have q' : vs[i]? = some (id, Vk.cel) := by simpa using q
  refine Vc.xa_2_5 (fi.cel i id q') fun c oc h1 h2 h3 h4 h5 => ?_
  refine Vc.xa_1_2 fi.ns fun m hm rm => ?_
  refine wpAny_storeName_cell ES.kind (by unfold Env.kindOf; rw [ES.names]; exact ES.cel i id q') h1 h4 (fun h' hn hs => ?_)
  have st : Step C (· = c) H s H { s with heap := h' } := by
   refine Step.but ok.rel ok.top (fun b o e n => (hs.2 b n).trans e) (fun b e => e ▸ h2) (fun b e => e ▸ h3) (fun b o e w => ?_) (fun b o es ep e w z => ?_) rfl rfl
   ·subst w; obtain ⟨o', ho, hd⟩ := h4; rw [ho] at e; cases e; exact .inr (.inl ⟨_, hd⟩)
   ·subst w; obtain ⟨o', ho, hd⟩ := h4; rw [ho] at e; cases e; rw [hd] at z; cases z
  refine hQ _ (st.widen fun b e => .inr ⟨id, q', e ▸ h1⟩) ⟨by rw [ls_length]; exact fi.len, fi.locH, fi.loc0, ⟨m, hm.sameBut hs (Ne.symm (ns_cell_ne hm h4)), fun j x w e l => ?_⟩, fun j x e => ?_, fun x c' e => ?_⟩
  ·have hji : j ≠ i := by rintro rfl; rw [q'] at e; cases e
   rw [lk_ls_ne (Ne.symm hji)] at l
   refine Vc.xa_1_2 (rm j x w e l) fun cw e1 e2 => ?_
   exact ⟨cw, e1, e2.keep st.vk⟩
  ·by_cases hji : j = i
   ·subst hji
    rw [q'] at e; cases e
    refine ⟨c, some cv, h1, h2, h3, hn, fun w l => ?_⟩
    obtain rfl := lk_ls_self l
    exact ⟨cv, rfl, r.keep st.vk⟩
   ·refine Vc.xa_2_5 (fi.cel j x e) fun c' oc' g1 g2 g3 g4 g5 => ?_
    have hcc : c' ≠ c := by
     rintro rfl
     have hx := ES.apt x id c' g1 h1
     subst hx
     exact hji (ES.uni j i _ _ _ e q' (by decide) (by decide))
    refine ⟨c', oc', g1, g2, g3, g4.sameBut hs hcc, fun w l => ?_⟩
    rw [lk_ls_ne (Ne.symm hji)] at l
    refine Vc.xa_1_2 (g5 w l) fun cw e1 e2 => ?_
    exact ⟨cw, e1, e2.keep st.vk⟩
  ·obtain ⟨g1, g2, oc, g3⟩ := fi.cex x c' e
   by_cases hcc : c' = c
   ·subst hcc; exact ⟨g1, g2, _, hn⟩
   ·exact ⟨g1, g2, oc, g3.sameBut hs hcc⟩
theorem FI.dm (fi : FI C env vs ρ H s.heap) : ∀ b, Dm env b -> ∃ o, s.heap.get? b = some o := fun b hb => by
 rcases hb with rfl | ⟨x, e⟩
 ·refine Vc.xa_1_2 fi.ns fun m ho98_1 zz => ?_
  obtain ⟨o, _, _, ho, _⟩ := ho98_1
  exact ⟨o, ho⟩
 ·obtain ⟨_, _, _, o, ho, _⟩ := fi.cex x b e
  exact ⟨o, ho⟩
theorem tg_e {P : List Str -> Prop} {i : Nat} {is : List Nat} {l : List Str} (h : chkTg vs (i :: is) l = true) (k : ∀ x xs, vOk vs i x = true -> chkTg vs is xs = true -> P (x :: xs)) : P l := pC_e h fun x r h => k x r (and_l h) (and_r h)
theorem tg_len : ∀ {is : List Nat} {xs : List Str}, chkTg vs is xs = true -> is.length = xs.length
 | [], _, h => em_e (P := fun l : List Str => 0 = l.length) h rfl
 | _ :: _, _, h => tg_e (P := fun l => _ + 1 = l.length) h fun zz zz zz h => congrArg (· + 1) (tg_len h)
theorem names_len : ∀ {ts : List Expr} {xs : List Str}, names? ts = some xs -> ts.length = xs.length
 | [], _, h => by cases h; rfl
 | _ :: _, _, h => names_e (P := fun zz xs => _ + 1 = xs.length) h fun zz zz zz h => congrArg (· + 1) (names_len h)
theorem names_noStar : ∀ {es : List Expr} {tg : List Str}, names? es = some tg -> (assignEach es env).findIdx? (·.1) = none /\ (assignEach es env).length = es.length
 | [], _, h => ⟨rfl, rfl⟩
 | e :: es, tg, h => names_e (P := fun e zz => (assignEach (e :: es) env).findIdx? (·.1) = none /\ (assignEach (e :: es) env).length = es.length + 1) h fun id p tg' h => by
  have := names_noStar h
  refine ⟨?_, congrArg (· + 1) this.2⟩
  show List.findIdx? (·.1) ((false, assign (.Name id p) env) :: assignEach es env) = none
  rw [List.findIdx?_cons, this.1]; rfl
theorem parts_tup {k : Nat} {x : V} {xs : List V} (hk : k ≠ 1) (hp : parts k x = some xs) : x = .tup xs /\ xs.length = k := by
 unfold parts at hp
 rw [if_neg hk] at hp
 cases x with
 | tup l =>
  have hp : (if l.length = k then some l else none) = some xs := hp
  by_cases q : l.length = k
  ·rw [if_pos q] at hp; cases hp; exact ⟨rfl, q⟩
  ·rw [if_neg q] at hp; cases hp
 | _ => cases hp
theorem assign_each {Q : Unit -> Shared -> Prop} (ES : EnvS env vs ns) : ∀ {es : List Expr} {tg : List Str} {idx : List Nat} {xs : List V} {cvs : List Value} {ρ : Lo} {s : Shared}, names? es = some tg -> chkTg vs idx tg = true ->
  Ok C d H A s -> FI C env vs ρ H s.heap -> VRs C s.heap xs cvs -> xs.length = idx.length ->
  (∀ s', Step C (Dxs env vs idx) H s H s' -> FI C env vs (lss ρ idx xs) H s'.heap -> Q () s') -> wpAny C.M A (assignInOrder ((assignEach es env).map (·.2)) cvs) Q E s := by
 intro es
 induction es with
 | nil =>
  intro tg idx xs cvs ρ s h hc ok fi r hl hQ
  cases h
  obtain rfl : idx = [] := List.length_eq_zero_iff.mp (tg_len hc)
  obtain rfl : xs = [] := List.length_eq_zero_iff.mp hl
  obtain rfl := r.inv_nil
  exact (show wpAny C.M A (pure ()) Q E s from wpAny_pure (hQ s (.refl ok.rel ok.top) fi))
 | cons e es ih =>
  intro tg idx xs cvs ρ s h hc ok fi r hl hQ
  refine names_e (P := fun e tg => chkTg vs idx tg = true -> wpAny C.M A (assignInOrder ((assignEach (e :: es) env).map (·.2)) cvs) Q E s) h (fun id p tg' e1 hc => ?_) hc
  cases idx with
  | nil => exact (Bool.false_ne_true hc).elim
  | cons i is =>
   cases xs with
   | nil => cases hl
   | cons x xs =>
    refine Vc.xa_2_3 r.inv_cons fun cv cvs' hr150_2 r1 r2 => ?_
    subst hr150_2
    show wpAny C.M A (holding cvs' (assign (.Name id p) env cv) >>= fun zz => assignInOrder ((assignEach es env).map (·.2)) cvs') Q E s
    refine wpAny_bind (wpAny_holding (wpAny_assign_Name (store_one ES ok fi (and_l hc) r1 fun s1 st fi1 => ?_)))
    exact ih e1 (and_r hc) (ok.step st) fi1 (r2.keep st.vk) (Nat.succ.inj hl) fun s2 st2 fi2 => hQ s2 ((st.widen fun b hb => ⟨i, .head _, hb⟩).trans (st2.widen fun b hq1 => Vc.xa_1_2 hq1 fun j hj hb => ⟨j, .tail _ hj, hb⟩)) fi2
theorem assign_tup {es : List Expr} {k : Nat} {p : Pos} {tg : List Str} {idx : List Nat} {x : V} {xs : List V} {cv : Value} {Q : Unit -> Shared -> Prop} (ES : EnvS env vs ns) (h2 : 2 <= es.length) (ht : names? es = some tg) (hc : chkTg vs idx tg = true)
  (ok : Ok C d H A s) (fi : FI C env vs ρ H s.heap) (r : VR C s.heap x cv) (hp : parts idx.length x = some xs)
  (hQ : ∀ s', Step C (Dxs env vs idx) H s H s' -> FI C env vs (lss ρ idx xs) H s'.heap -> Q () s') : wpAny C.M A (assign (.Tuple es k p) env cv) Q E s := by
 have hi : idx.length = es.length := (tg_len hc).trans (names_len ht).symm
 obtain ⟨rfl, hl⟩ := parts_tup (by rw [hi]; exact fun q => absurd (q ▸ h2) (by decide)) hp
 dsimp only [VR] at r
 refine Vc.xa_2_3 r fun a items ho162_2 htu rs => ?_
 try clear r
 obtain ⟨rfl, nd⟩ := ho162_2
 have hs := names_noStar (env := env) ht
 refine assign_tupleH ok.hnd.2 htu (by rw [hs.2, <- hi, <- hl, rs.length, Array.length_toList]) hs.1 fun h' eb => ?_
 have st : Step C No H s H { s with heap := h' } := Step.keeps ok.rel ok.top (fun b o e => eb b o (Nat.ne_of_lt (Heap.lt_size e)) e) rfl rfl
 exact assign_each ES ht hc (ok.step st) (fi.stepN st) (rs.keep st.vk) hl fun s2 st2 fi2 => hQ s2 ((st.weaken fun b hb => fi.dm b (dxs_dm hb)).trans st2) fi2
theorem assign_tgt {t' : Expr} {tg : List Str} {idx : List Nat} {x : V} {xs : List V} {cv : Value} {Q : Unit -> Shared -> Prop} (ES : EnvS env vs ns) (ht : tgt? t' = some tg) (hc : chkTg vs idx tg = true)
  (ok : Ok C d H A s) (fi : FI C env vs ρ H s.heap) (r : VR C s.heap x cv) (hp : parts idx.length x = some xs)
  (hQ : ∀ s', Step C (Dxs env vs idx) H s H s' -> FI C env vs (lss ρ idx xs) H s'.heap -> Q () s') : wpAny C.M A (assign t' env cv) Q E s := by
 refine tgt_e (P := fun t' tg => chkTg vs idx tg = true -> wpAny C.M A (assign t' env cv) Q E s) ht (fun id p hc => ?_) (fun es k p h2 hx hc => assign_tup ES h2 hx hc ok fi r hp hQ) hc
 match idx with
 | [] => exact (Bool.false_ne_true hc).elim
 | _ :: _ :: _ => exact (Bool.false_ne_true (and_r hc)).elim
 | [i] =>
  obtain rfl : [x] = xs := Option.some.inj hp
  exact wpAny_assign_Name (store_one ES ok fi (and_l hc) r fun s' st fi' => hQ s' (st.widen fun b hb => ⟨i, .head _, hb⟩) fi')
end
end Vc
end
section
namespace Vc
open PySem
noncomputable def closA (env : Env) : Ns -> List (Str × Addr) -> List (Str × Addr)
 | [], acc => acc
 | (n, k) :: r, acc => if k == .free then closA env r ((n, (env.cells.lookup n).getD 0) :: acc) else closA env r acc
theorem closA_sub {env : Env} : ∀ {l : Ns} {acc : List (Str × Addr)}, (∀ x ∈ l, x.2 = .free -> (env.cells.lookup x.1).isSome = true) -> (∀ x c, acc.lookup x = some c -> env.cells.lookup x = some c) ->
  ∀ x c, (closA env l acc).lookup x = some c -> env.cells.lookup x = some c
 | [], _, _, h => h
 | (n, k) :: r, acc, hf, h => by
  unfold closA
  have hf' : ∀ x ∈ r, x.2 = .free -> (env.cells.lookup x.1).isSome = true := fun x hx => hf x (.tail _ hx)
  split
  ·rename_i hk
   refine closA_sub hf' fun x c e => ?_
   rw [List.lookup_cons] at e
   split at e
   ·rename_i hx
    cases e
    have hx' : x = n := beq_iff_eq.mp hx
    subst hx'
    refine Vc.xa_1_1 (Option.isSome_iff_exists.mp (hf (x, k) (.head _) (beq_iff_eq.mp hk))) fun c hc => ?_
    rw [hc]; rfl
   ·exact h x c e
  ·exact closA_sub hf' h
theorem closA_has {env : Env} : ∀ {l : Ns} {acc : List (Str × Addr)} {x : Str}, ((x, NameKind.free) ∈ l ∨ (acc.lookup x).isSome = true) -> ((closA env l acc).lookup x).isSome = true
 | [], _, _, h => h.elim (fun e => nomatch e) id
 | (n, k) :: r, acc, x, h => by
  unfold closA
  split
  ·refine closA_has ?_
   by_cases hx : x = n
   ·subst hx; exact .inr (by simp)
   ·refine h.imp (fun e => ?_) fun e => ?_
    ·cases e with
     | head => exact (hx rfl).elim
     | tail _ e => exact e
    ·rw [List.lookup_cons]
     have : (x == n) = false := by simpa using hx
     rw [this]; exact e
  ·rename_i hk
   refine closA_has (h.imp (fun e => ?_) id)
   cases e with
   | head => exact absurd (beq_self_eq_true NameKind.free) hk
   | tail _ e => exact e
theorem closure_of {scope : Scope} {env : Env} (hf : ∀ x ∈ scope.names, x.2 = .free -> (env.cells.lookup x.1).isSome = true) : closureFor scope env = pure (closA env scope.names []) := by
 simp only [closureFor]
 have key : ∀ (l : Ns) (acc : List (Str × Addr)), (∀ x ∈ l, x.2 = .free -> (env.cells.lookup x.1).isSome = true) ->
   (forIn l acc fun x r => (if (x.2 == NameKind.free) = true then (do let a <- cellOf env x.1; pure (ForInStep.yield ((x.1, a) :: r))) else pure (ForInStep.yield r) : Sem _)) = pure (closA env l acc) := by
  intro l
  induction l with
  | nil => intro acc _; rfl
  | cons x l ih =>
   intro acc h
   obtain ⟨n, k⟩ := x
   rw [List.forIn_cons]
   have ih' := fun acc => ih acc fun x hx => h x (.tail _ hx)
   by_cases hk : (k == NameKind.free) = true
   ·refine Vc.xa_1_1 (Option.isSome_iff_exists.mp (h (n, k) (.head _) (beq_iff_eq.mp hk))) fun c hc => ?_
    have hc' : env.cells.lookup n = some c := hc
    simp only [hk, if_true, closA]
    rw [show cellOf env n = pure c from by unfold cellOf; rw [hc']]
    show (forIn l ((n, c) :: acc) _ : Sem _) = _
    rw [ih', hc']; rfl
   ·simp only [hk, closA, Bool.false_eq_true, if_false]
    show (forIn l acc _ : Sem _) = _
    rw [ih']
 have := key scope.names [] hf
 rw [this]; rfl
theorem relab_map : ∀ (inner outer : Ns), inner.map (fun (n, k) => if (k == NameKind.free && true && outer.lookup n == some NameKind.cell) = true then (n, NameKind.cell) else (n, k)) = relab inner outer
 | [], _ => rfl
 | (n, k) :: r, outer => by
  rw [List.map_cons, relab_map r outer, relab]
  dsimp only
  rw [Bool.and_true]
  by_cases hc : (k == NameKind.free && outer.lookup n == some NameKind.cell) = true
  ·rw [hc]; rfl
  ·rw [if_neg hc, if_neg hc]
theorem relab_eq {sc : Scope} {env : Env} {ns : Ns} (hk : env.scope.kind = .function) (hn : env.scope.names = ns) : (relabel sc env).names = relab sc.names ns := by
 rw [<- relab_map]
 unfold relabel
 simp only [hk, Env.kindOf, hn]
 rfl
theorem relab_local {outer : Ns} {x : Str} : ∀ {inner : Ns}, inner.lookup x = some .local -> (relab inner outer).lookup x = some .local
 | [], h => by simp at h
 | (n, k) :: l, h => by
  rw [relab, List.lookup_cons]
  rw [List.lookup_cons] at h
  cases hx : x == n with
  | true => rw [hx] at h; cases h; rfl
  | false => rw [hx] at h; exact relab_local h
theorem relab_cell {outer : Ns} {x : Str} : ∀ {inner : Ns}, (∀ y ∈ inner, y.2 ≠ .cell) -> (relab inner outer).lookup x = some .cell -> (x, NameKind.free) ∈ inner
 | [], _, h => by simp [relab] at h
 | (n, k) :: l, hn, h => by
  rw [relab, List.lookup_cons] at h
  cases hx : x == n with
  | true =>
   rw [hx] at h
   by_cases hc : (k == NameKind.free && outer.lookup n == some NameKind.cell) = true
   ·have hk : k = .free := by simp at hc; exact hc.1
    rw [beq_iff_eq.mp hx, hk]; exact .head _
   ·simp only [hc] at h
    exact absurd (by simpa using h) (hn (n, k) (.head _))
  | false => rw [hx] at h; exact .tail _ (relab_cell (fun y hy => hn y (.tail _ hy)) h)
section
variable {vs : Vs} {inner : Ns} {tg : List Str}
theorem inner_lt {i : Nat} {x : Str} {k : Vk} (h : (innerVs vs inner tg)[i]? = some (x, k)) (hi : i < vs.length) : (k = .cel /\ vs[i]? = some (x, .cel) /\ inner.lookup x = some .cell) ∨ k = .hid := by
 unfold innerVs at h
 rw [List.getElem?_append_left (by simpa using hi), List.getElem?_map] at h
 refine Vc.xa_1_2 (Option.map_eq_some_iff.mp h) fun y e1 e2 => ?_
 obtain ⟨n, k'⟩ := y
 dsimp only at e2
 split at e2
 ·rename_i hc
  cases e2
  simp only [Bool.and_eq_true, beq_iff_eq] at hc
  refine Vc.xa_0_2 hc fun h1 h2 => ?_
  try clear hc
  subst h1
  exact .inl ⟨rfl, e1, h2⟩
 ·cases e2; exact .inr rfl
theorem inner_ge {i : Nat} {x : Str} {k : Vk} (h : (innerVs vs inner tg)[i]? = some (x, k)) (hi : ¬ i < vs.length) : k = .loc /\ tg[i - vs.length]? = some x := by
 unfold innerVs at h
 rw [List.getElem?_append_right (by simpa using hi), List.getElem?_map, List.length_map] at h
 refine Vc.xa_1_2 (Option.map_eq_some_iff.mp h) fun y e1 e2 => ?_
 cases e2
 exact ⟨rfl, e1⟩
theorem inner_tg {j : Nat} {x : Str} (h : tg[j]? = some x) : (innerVs vs inner tg)[vs.length + j]? = some (x, .loc) := by
 unfold innerVs
 rw [List.getElem?_append_right (by simp), List.getElem?_map, List.length_map]
 simp [h]
theorem inner_length : (innerVs vs inner tg).length = vs.length + tg.length := by simp [innerVs]
end
section
variable {C : Cx} {d : Md} {env : Env} {vs : Vs} {ns : Ns} {ρ : Lo} {H H' : MH} {s s' : Shared} {A : Around} {E : Value -> Shared -> Prop} {sc : Scope} {tg : List Str} {Cn : Addr}
theorem comp_envS (ES : EnvS env vs ns) (hk : sc.kind = .function) (hl : ∀ x ∈ tg, sc.names.lookup x = some .local) (nd : tg.Nodup) (hf : ∀ x ∈ sc.names, x.2 = .free -> (env.cells.lookup x.1).isSome = true) :
  EnvS (compEnvC sc (closA env sc.names []) Cn env) (innerVs vs (relab sc.names ns) tg) (relab sc.names ns) where
 kind := hk
 names := relab_eq ES.kind ES.names
 glb := ES.glb
 blt := ES.blt
 loc := fun i x h => by
  by_cases hi : i < vs.length
  ·rcases inner_lt h hi with ⟨q, _⟩ | q <;> cases q
  ·exact relab_local (hl x (List.mem_of_getElem? (inner_ge h hi).2))
 cel := fun i x h => by
  by_cases hi : i < vs.length
  ·rcases inner_lt h hi with ⟨_, _, q⟩ | q
   ·exact q
   ·cases q
  ·have := (inner_ge h hi).1; cases this
 uni := fun i j x k k' h h' n n' => by
  by_cases hi : i < vs.length <;> by_cases hj : j < vs.length
  ·rcases inner_lt h hi with ⟨_, q, _⟩ | q
   ·rcases inner_lt h' hj with ⟨_, q', _⟩ | q'
    ·exact ES.uni i j x _ _ q q' (by decide) (by decide)
    ·exact (n' q').elim
   ·exact (n q).elim
  ·rcases inner_lt h hi with ⟨_, _, q⟩ | q
   ·have := relab_local (outer := ns) (hl x (List.mem_of_getElem? (inner_ge h' hj).2)); rw [q] at this; cases this
   ·exact (n q).elim
  ·rcases inner_lt h' hj with ⟨_, _, q⟩ | q
   ·have := relab_local (outer := ns) (hl x (List.mem_of_getElem? (inner_ge h hi).2)); rw [q] at this; cases this
   ·exact (n' q).elim
  ·have h1 := (inner_ge h hi).2
   have h2 := (inner_ge h' hj).2
   have := (List.getElem?_inj (List.getElem?_eq_some_iff.mp h1).1 nd).mp (h1.trans h2.symm)
   omega
 apt := fun x y c h h' => ES.apt x y c (closA_sub hf (by simp) x c h) (closA_sub hf (by simp) y c h')
theorem lk_none {k : Nat} : ∀ {i : Nat}, lk (List.replicate k (none : Option V)) i = none := by
 induction k with
 | zero => intro i; rfl
 | succ k ih => intro i; cases i with
  | zero => rfl
  | succ i => simpa [List.replicate_succ, lk] using ih
theorem comp_fi {m : Str -> Option Value} (ES : EnvS env vs ns) (fi : FI C env vs ρ H s.heap) (hnc : ∀ x ∈ sc.names, x.2 ≠ .cell) (hf : ∀ x ∈ sc.names, x.2 = .free -> (env.cells.lookup x.1).isSome = true)
  (hCH : H Cn = none) (hC0 : C.h0.get? Cn = none) (hns : s.heap.Ns Cn m) :
  FI C (compEnvC sc (closA env sc.names []) Cn env) (innerVs vs (relab sc.names ns) tg) (ρ ++ List.replicate tg.length none) H s.heap where
 len := by rw [inner_length, List.length_append, List.length_replicate, fi.len]
 locH := hCH
 loc0 := hC0
 ns := ⟨m, hns, fun i x v h l => by
  by_cases hi : i < vs.length
  ·rcases inner_lt h hi with ⟨q, _⟩ | q <;> cases q
  ·exfalso
   have e : i = ρ.length + (i - vs.length) := by have := fi.len; omega
   rw [e, lk_append, lk_none] at l; cases l⟩
 cel := fun i x h => by
  by_cases hi : i < vs.length
  ·rcases inner_lt h hi with ⟨_, q, q2⟩ | q
   ·refine Vc.xa_2_5 (fi.cel i x q) fun c oc h1 h2 h3 h4 h5 => ?_
    refine ⟨c, oc, ?_, h2, h3, h4, fun v l => h5 v ?_⟩
    ·refine Vc.xa_1_1 (Option.isSome_iff_exists.mp (closA_has (env := env) (acc := []) (.inl (relab_cell hnc q2)))) fun c' hc' => ?_
     have := closA_sub hf (by simp) x c' hc'
     rw [h1] at this; cases this
     exact hc'
    ·rwa [lk_append_lt (by rw [fi.len]; exact hi)] at l
   ·cases q
  ·have := (inner_ge h hi).1; cases this
 cex := fun x c h => fi.cex x c (closA_sub hf (by simp) x c h)
end
end Vc
end
section
namespace Vc
open PySem
section
variable {C : Cx} {A : Around} {R : Result -> Shared -> Prop} {s : Shared}
theorem compLoop_any {elt target iter : Expr} {ifs : List Expr} {scope : Scope} {pos : Pos} {it acc : Value} {env : Env} (I : Nat -> Shared -> Prop)
  (turn : ∀ n s, I n s -> wpAny C.M A (pyNext it) (fun r s₁ => match r with
   | none => R (.ok .next) s₁
   | some v => wpAny C.M A (letOwnedTupleGo target it v) (fun zz s₁' => wpAny C.M A (assign target env v) (fun zz s₂ =>
     wpAny C.M A (forIn ifs true fun c r => if r = true then do let ok <- isTrue c env (eval c env); pure (ForInStep.yield ok) else pure (ForInStep.yield r)) (fun ok s₃ =>
      if ok = true then wpAny C.M A (eval elt env) (fun x s₄ =>
       wpAny C.M A (call (.builtin "list.append") [acc, x]) (fun zz s₅ => ∃ m, m < n /\ I m s₅) (notedBy C.M A env fun e s' => R (.error e) s') s₄) (notedBy C.M A env fun e s' => R (.error e) s') s₃
      else ∃ m, m < n /\ I m s₃) (notedBy C.M A env fun e s' => R (.error e) s') s₂) (notedBy C.M A env fun e s' => R (.error e) s') s₁') (notedBy C.M A env fun e s' => R (.error e) s') s₁) (notedBy C.M A env fun e s' => R (.error e) s') s)
  (n : Nat) (h : I n s) :
  codeAny C.M A (.compLoop (.ListComp elt [⟨target, iter, ifs, 0⟩] scope pos) 0 it acc env) R s := by
 refine codeAny_loop rfl I (fun n s hI => ?_) n h
 show wpAny _ A ((compTurn (.ListComp elt [⟨target, iter, ifs, 0⟩] scope pos) 0 it acc env).onRaise (fun x => do noteFrame x env; theTreesLotGoes x)) _ _ s
 refine wpAny_noted ?_
 rw [compTurn_list]
 refine wpAny_bind (wpAny_standAt (wpAny_bind (wpAny_mono (turn n s hI) (fun r s₁ h₁ => ?_) fun zz zz h' => h')))
 cases r with
 | none => exact wpAny_pure h₁
 | some v =>
  refine wpAny_bind (wpAny_mono h₁ (fun zz s₁' h₁' => ?_) fun zz zz h' => h')
  refine wpAny_bind (wpAny_mono h₁' (fun zz s₂ h₂ => wpAny_bind (wpAny_mono h₂ (fun ok s₃ h₃ => ?_) fun zz zz h' => h')) fun zz zz h' => h')
  cases ok with
  | false => exact wpAny_pure ⟨rfl, h₃⟩
  | true =>
   exact wpAny_bind (wpAny_bind (wpAny_mono h₃ (fun x s₄ h₄ => wpAny_bind (wpAny_mono h₄ (fun zz s₅ h₅ => wpAny_pure (wpAny_pure ⟨rfl, h₅⟩)) fun zz zz h' => h')) fun zz zz h' => h'))
end
theorem ls_mid : ∀ (ρ : Lo) (y : Option V) (t : Lo) (x : V), ls (ρ ++ y :: t) ρ.length x = ρ ++ some x :: t
 | [], _, _, _ => rfl
 | z :: ρ, y, t, x => by simp [ls, ls_mid ρ y t x]
theorem lss_new : ∀ (xs : List V) (ρ : Lo), lss (ρ ++ List.replicate xs.length none) (List.range' ρ.length xs.length) xs = ρ ++ xs.map some
 | [], ρ => by simp [lss]
 | x :: xs, ρ => by
  rw [List.length_cons, List.replicate_succ, List.range'_succ, lss, ls_mid]
  have := lss_new xs (ρ ++ [some x])
  simp only [List.length_append, List.length_singleton, List.append_assoc, List.singleton_append] at this
  rw [this]; simp
theorem parts_length {k : Nat} {x : V} {xs : List V} (h : parts k x = some xs) : xs.length = k := by
 unfold parts at h
 split at h
 ·rename_i e; cases h; exact e.symm
 ·split at h
  ·split at h
   ·rename_i e; cases h; exact e
   ·cases h
  ·cases h
theorem chkTg_inner {vs : Vs} {inner : Ns} {tg : List Str} : ∀ {l : List Str} {n : Nat}, (∀ j, l[j]? = tg[n + j]?) -> chkTg (innerVs vs inner tg) (List.range' (vs.length + n) l.length) l = true
 | [], _, _ => rfl
 | x :: l, n, h => by
  rw [List.length_cons, List.range'_succ]
  have h0 : tg[n]? = some x := (h 0).symm
  have h1 : vOk (innerVs vs inner tg) (vs.length + n) x = true := by unfold vOk; rw [inner_tg (vs := vs) (inner := inner) h0, beq_self_eq_true]; rfl
  have ih := chkTg_inner (vs := vs) (inner := inner) (tg := tg) (l := l) (n := n + 1) fun j => (h (j + 1)).trans (by congr 1; omega)
  exact Bool.and_eq_true_iff.mpr ⟨h1, ih⟩
section
variable {C : Cx} {d : Md} {env : Env} {vs : Vs} {ns : Ns} {ρ : Lo} {H H' : MH} {s s' s'' : Shared} {A : Around} {E : Value -> Shared -> Prop} {sc : Scope} {tg : List Str} {Cn : Addr} {D : Addr -> Prop}
theorem FI.forget {ts : Lo} {k : Nat} {h : Heap} (fi : FI C env vs (ρ ++ ts) H h) (hk : ts.length = k) : FI C env vs (ρ ++ List.replicate k none) H h := by
 have key : ∀ (i : Nat) (v : V), lk (ρ ++ List.replicate k none) i = some v -> lk (ρ ++ ts) i = some v := fun i v l => by
  by_cases hi : i < ρ.length
  ·rw [lk_append_lt hi] at l ⊢; exact l
  ·rw [show i = ρ.length + (i - ρ.length) by (clear hk; omega), lk_append, lk_none] at l; cases l
 refine Vc.xa_1_2 fi.ns fun m hm r => ?_
 refine ⟨by have := fi.len; simp only [List.length_append, List.length_replicate, hk] at this ⊢; exact this, fi.locH, fi.loc0, ⟨m, hm, fun i x v e l => r i x v e (key i v l)⟩, fun i x e => ?_, fi.cex⟩
 refine Vc.xa_2_5 (fi.cel i x e) fun c oc h1 h2 h3 h4 h5 => ?_
 exact ⟨c, oc, h1, h2, h3, h4, fun v l => h5 v (key i v l)⟩
theorem old_of' (x : Step C D H s H' s') (hD : ∀ b, D b -> s.heap.get? b = none) {b : Addr} (e : s'.heap.get? b = none) : s.heap.get? b = none := by
 cases q : s.heap.get? b with
 | none => rfl
 | some o =>
  by_cases u : (H b).isSome = true
  ·refine Vc.xa_1_1 (x.rel.there (x.dom b u)) fun ob w => ?_
   rw [e] at w
   cases w
  ·by_cases dd : D b
   ·rw [hD b dd] at q; cases q
   ·refine Vc.xa_1_2 (x.chg b o q (by simpa using u) dd) fun sl w zz => ?_
    rw [e] at w
    cases w
theorem Fly.back' {tr : Bool} {a : Addr} {c : String} {h : Heap} (st : Step C D H s H' s') (hD : ∀ b, D b -> s.heap.get? b = none) (x : Fly C tr s' a c h) : Fly C tr s a c h := by
 obtain ⟨new, o, ws, r, h1, h2, h3, h4, h5, h6, h7⟩ := x
 exact ⟨old_of' st hD new, o, ws, r, h1, h2, h3, h4, h5, h6, h7.imp id fun hq1 => Vc.xa_3_3 hq1 fun T oT ts g1 g2 g3 => ⟨T, oT, ts, g1, old_of' st hD g2, g3⟩⟩
theorem XG.lift {tr : Bool} {X : XP} {X' : XH} {e : Value} (st : Step C D H s H' s') (hD : ∀ b, D b -> s.heap.get? b = none) (hx : ∀ b, D b -> ∃ o, s'.heap.get? b = some o)
  (hX : ∀ c H2 s2, Step C No H' s' H2 s2 -> X c H2 -> X' c H2 s2.heap) (hN : ∀ b, D b -> H' b = none) (x : XQ tr C No H' s' X e s'') : XG tr C D H s X' e s'' := by
 refine Vc.xa_3_5 x fun a c H2 h1 h2 h3 h4 h5 => ?_
 try clear x
 refine ⟨a, c, H2, h1, st.trans (h2.weaken hx), fun b hb => ?_, h4.back' st hD, hX c H2 s'' h2 h5⟩
 refine Vc.xa_1_1 (hx b hb) fun o w => ?_
 refine Vc.xa_1_2 (h2.chg b o w (hN b hb) (fun f => f)) fun sl w' zz => ?_
 exact ⟨_, w'⟩
end
end Vc
end
section
namespace Vc
open PySem
noncomputable def DI (I Dl Cn : Addr) : Addr -> Prop := fun b => b = I ∨ b = Dl ∨ b = Cn
noncomputable def testsOf (ifs : List Expr) (env : Env) : Sem Bool := forIn ifs true fun c r => if r = true then do let ok <- isTrue c env (eval c env); pure (ForInStep.yield ok) else pure (ForInStep.yield r)
section
variable {C : Cx} {d : Md} {env : Env} {vs : Vs} {ns : Ns} {ρ : Lo} {H1 : MH} {s1 s2 : Shared} {A : Around} {E : Value -> Shared -> Prop} {sc : Scope} {tg : List Str} {X : XP}
 {elt it : Ex} {ifs : List Ex} {elt' it' t' : Expr} {ifs' : List Expr} {p : Pos} {iv : V} {all : List V} {I : Addr}
theorem ItAt.neD {h : Heap} {i : Nat} {b : Addr} {o : Obj} (x : ItAt C h iv I i) (ho : h.get? b = some o) (hd : ∀ ws, o.data ≠ .fields ws) : b ≠ I := fun q =>
 x.there.elim fun o2 y => y.elim fun T y => y.elim fun ws y => hd ws (Option.some.inj ((q ▸ ho).symm.trans y.1) ▸ y.2.2.2.2)
theorem pl_neD {h : Heap} {i : Nat} {Dl : Addr} {items : Array Value} (x : ItAt C h iv I i) (y : h.PlainList Dl items) : Dl ≠ I :=
 y.elim fun n e => x.neD e fun ws q => Data.noConfusion q
theorem pl_step {Hx Hy : MH} {sa sb : Shared} {D : Addr -> Prop} {Dl : Addr} {its : Array Value} (x : sa.heap.PlainList Dl its) (y : Step C D Hx sa Hy sb) (hx : Hx Dl = none) (nd : ¬ D Dl) : sb.heap.PlainList Dl its :=
 x.at fun o e => by
  refine Vc.xa_1_2 (y.chg Dl o e hx nd) fun sl w q => ?_
  refine Vc.xa_1_1 x fun n h1 => ?_
  try clear x
  rw [h1] at e
  cases e
  rw [q (by intro es ep z; cases z)] at w; exact w
section
variable {ce : Env} {vs' : Vs} {ns' : Ns} {Dl : Addr}
theorem FI.neL {h : Heap} {i : Nat} {ρ' : Lo} {H : MH} (x : ItAt C h iv I i) (y : FI C ce vs' ρ' H h) : ce.locals ≠ I :=
 y.ns.elim fun m z => z.1.elim fun o z => z.elim fun es z => z.elim fun ep z => x.neD z.1 fun ws q => Data.noConfusion (z.2.1.symm.trans q)
theorem FI.neC {h : Heap} {i : Nat} {ρ' : Lo} {H : MH} {z : Str} {c : Addr} (x : ItAt C h iv I i) (y : FI C ce vs' ρ' H h) (e : ce.cells.lookup z = some c) : c ≠ I :=
 (y.cex z c e).2.2.elim fun oc q => q.elim fun o q => x.neD q.1 fun ws r => Data.noConfusion (q.2.symm.trans r)
theorem FI.neP {h : Heap} {items : Array Value} {ρ' : Lo} {H : MH} {z : Str} {c : Addr} (x : h.PlainList Dl items) (y : FI C ce vs' ρ' H h) (e : ce.cells.lookup z = some c) : c ≠ Dl := fun q => by
 obtain ⟨_, _, oc, o, ho, hd⟩ := y.cex z c e
 refine Vc.xa_1_1 x fun n h1 => ?_
 try clear x
 rw [q, h1] at ho; cases ho; cases hd
structure CI (C : Cx) (ce : Env) (vs' : Vs) (iv : V) (I Dl : Addr) (H1 : MH) (s1 : Shared) (ρ' : Lo) (i : Nat) (av : List V) (items : Array Value) (H : MH) (s : Shared) : Prop where
 st : Step C (DI I Dl ce.locals) H1 s1 H s
 it : ItAt C s.heap iv I i
 go : ∀ b, DI I Dl ce.locals b -> H b = none
 pl : s.heap.PlainList Dl items
 rs : VRs C s.heap av items.toList
 fi : FI C ce vs' ρ' H s.heap
section
variable {ρ' : Lo} {i : Nat} {av : List V} {items : Array Value} {H H' : MH} {s s' : Shared}
theorem CI.exs (x : CI C ce vs' iv I Dl H1 s1 ρ' i av items H s) : ∀ b, DI I Dl ce.locals b -> ∃ o, s.heap.get? b = some o := fun b hb => by
 rcases hb with rfl | rfl | rfl
 ·refine Vc.xa_3_2 x.it.there fun o zz zz h1 zz => ?_
  exact ⟨o, h1⟩
 ·refine Vc.xa_1_1 x.pl fun n h1 => ?_
  exact ⟨_, h1⟩
 ·refine Vc.xa_1_2 x.fi.ns fun m ho55_1 zz => ?_
  obtain ⟨o, _, _, ho, _⟩ := ho55_1
  exact ⟨o, ho⟩
theorem CI.no (x : CI C ce vs' iv I Dl H1 s1 ρ' i av items H s) (y : Step C No H s H' s') : CI C ce vs' iv I Dl H1 s1 ρ' i av items H' s' where
 st := x.st.trans (y.weaken x.exs)
 it := x.it.step y (x.go I (.inl rfl)) (fun f => f)
 go := fun b hb => (x.exs b hb).elim fun o w => y.gone w (x.go b hb)
 pl := pl_step x.pl y (x.go Dl (.inr (.inl rfl))) (fun f => f)
 rs := x.rs.keep y.vk
 fi := x.fi.stepN y
theorem CI.nx (x : CI C ce vs' iv I Dl H1 s1 ρ' i av items H s) (y : Step C (· = I) H s H s') (z : ItAt C s'.heap iv I (i + 1)) : CI C ce vs' iv I Dl H1 s1 ρ' (i + 1) av items H s' where
 st := x.st.trans (y.widen fun b e => .inl e)
 it := z
 go := x.go
 pl := pl_step x.pl y (x.go Dl (.inr (.inl rfl))) (pl_neD x.it x.pl)
 rs := x.rs.keep y.vk
 fi := x.fi.step y (x.fi.neL x.it) fun zz zz e => x.fi.neC x.it e
theorem CI.as {D : Addr -> Prop} {ρ2 : Lo} (x : CI C ce vs' iv I Dl H1 s1 ρ' i av items H s) (y : Step C D H s H s') (hD : ∀ b, D b -> b = ce.locals) (hDC : Dl ≠ ce.locals) (f : FI C ce vs' ρ2 H s'.heap) : CI C ce vs' iv I Dl H1 s1 ρ2 i av items H s' where
 st := x.st.trans (y.widen fun b e => .inr (.inr (hD b e)))
 it := x.it.step y (x.go I (.inl rfl)) fun e => x.fi.neL x.it (hD _ e).symm
 go := x.go
 pl := pl_step x.pl y (x.go Dl (.inr (.inl rfl))) fun e => hDC (hD _ e)
 rs := x.rs.keep y.vk
 fi := f
theorem CI.ap {cv : Value} {v : V} {h5 : Heap} (x : CI C ce vs' iv I Dl H1 s1 ρ' i av items H s) (vr : VR C s.heap v cv) (ok : Ok C d H A s) (hz : C.h0.get? Dl = none) (hDC : Dl ≠ ce.locals)
  (pl5 : h5.PlainList Dl (items.push cv)) (sb5 : ∀ b, b ≠ Dl -> h5.get? b = s.heap.get? b) : CI C ce vs' iv I Dl H1 s1 ρ' i (av ++ [v]) (items.push cv) H { s with heap := h5 } := by
 have st5 : Step C (· = Dl) H s H { s with heap := h5 } := by
  refine Vc.xa_1_1 x.pl fun n h1 => ?_
  refine Step.but ok.rel ok.top (fun b o e nb => (sb5 b nb).trans e) (fun b e => e ▸ x.go Dl (.inr (.inl rfl))) (fun b e => e ▸ hz) (fun b o e q => ?_) (fun b o es ep e q z => ?_) rfl rfl
  ·subst q; rw [h1] at e; cases e; exact .inr (.inr ⟨"list", rfl, by decide, by decide⟩)
  ·subst q; rw [h1] at e; cases e; cases z
 exact ⟨x.st.trans (st5.widen fun b e => .inr (.inl e)), x.it.step st5 (x.go I (.inl rfl)) (pl_neD x.it x.pl).symm, x.go, pl5,
  by rw [Array.toList_push]; exact (x.rs.keep st5.vk).append (VRs.cons (vr.keep st5.vk) VRs.nil),
  x.fi.step st5 (fun q => hDC q.symm) fun zz zz e => x.fi.neP x.pl e⟩
theorem CI.er {fenv : Env} {outer : List Env} {R : Value -> Shared -> Prop} {e : Value} (x : CI C ce vs' iv I Dl H1 s1 ρ' i av items H s) (hfr : A.frames = some (fenv :: outer)) (hff : fenv.frame = ce.frame) (ok : Ok C d H1 A s1)
  (hnew : ∀ b, DI I Dl ce.locals b -> s1.heap.get? b = none)
  (herr : ∀ s' e, XG true C (DI I Dl ce.locals) H1 s1 (fun c H h => X c H /\ H ce.locals = none /\ ∃ m, h.Ns ce.locals m) e s' -> R e s') (hx : XQ false C No H s X e s') : notedBy C.M A ce R e s' := by
 have lifted : XG false C (DI I Dl ce.locals) H1 s1 (fun c H h => X c H /\ H ce.locals = none /\ ∃ m, h.Ns ce.locals m) e s' :=
  XG.lift x.st hnew x.exs (fun c H2 s2 st' hX => ⟨hX, (x.fi.stepN st').locH, (x.fi.stepN st').ns.imp fun zz q => q.1⟩) x.go hx
 have stable : StX C (fun c H h => X c H /\ H ce.locals = none /\ ∃ m, h.Ns ce.locals m) := fun c H sa sb D stD hrec hX => ⟨hX.1, hX.2.1, by
  refine Vc.xa_4_3 hX.2.2 fun m o es ep ho hd r => ?_
  have hnD : ¬ D ce.locals := fun q => by obtain ⟨vs, w⟩ := hrec ce.locals o q ho; rw [hd] at w; cases w
  refine Vc.xa_1_2 (stD.chg ce.locals o ho hX.2.1 hnD) fun sl w zz => ?_
  exact ⟨m, _, es, ep, w, hd, r⟩⟩
 refine wpAny_mono (note (fenv := fenv) (outer := outer) (env := ce) stable ok hfr hff (fun H' s' stl => ?_) lifted) (fun zz s'' h => herr s'' e h) fun e' s'' h => herr s'' e' h
 refine Vc.xa_1_2 ok.frs fun l hl' hfl => ?_
 rw [hfr] at hl'; cases hl'
 exact hfl.step stl
end
end
theorem comp_loop {ce : Env} {vs' : Vs} {ns' : Ns} {fenv : Env} {outer : List Env} {Dl : Addr} {stp : List V -> MH -> (Option V -> MH -> Prop) -> Prop} {K : List V -> MH -> Prop} {R : Value -> Addr -> Result -> Shared -> Prop} {s0 : Shared} {n0 : Nat}
  (hst : ∀ vs H2 Q', stp vs H2 Q' -> wpTs C d ifs (ρ ++ vs.map some) H2 (fun t H3 => if t = true then wpE C d elt (ρ ++ vs.map some) H3 (fun v H4 => Q' (some v) H4) X else Q' none H3) X)
  (ES' : EnvS ce vs' ns') (hfr : A.frames = some (fenv :: outer)) (hff : fenv.frame = ce.frame) (ok : Ok C d H1 A s1) (ht : tgt? t' = some tg) (hidx : chkTg vs' (List.range' ρ.length tg.length) tg = true)
  (hcl : ∀ j x, ρ.length <= j -> vs'[j]? ≠ some (x, Vk.cel))
  (hT : ∀ s H ρ' (Q : Bool -> MH -> Prop), Ok C d H A s -> FI C ce vs' ρ' H s.heap -> wpTs C d ifs ρ' H Q X -> wpAny C.M A (testsOf ifs' ce) (fun b s' => ∃ H', Step C No H s H' s' /\ Q b H') (XQ false C No H s X) s)
  (hE : ∀ s H ρ' (Q : V -> MH -> Prop), Ok C d H A s -> FI C ce vs' ρ' H s.heap -> wpE C d elt ρ' H Q X -> wpAny C.M A (eval elt' ce) (QP C H s Q) (XQ false C No H s X) s)
  (hq : Itq d iv) (hsz : all.length <= sizeLine) (hDl1 : s1.heap.get? Dl = none) (hCn1 : s1.heap.get? ce.locals = none) (hDC : Dl ≠ ce.locals) (hnew : ∀ b, DI I Dl ce.locals b -> s1.heap.get? b = none) (hz : ∀ b, DI I Dl ce.locals b -> C.h0.get? b = none)
  (hok : ∀ s' av Hc items, Step C (DI I Dl ce.locals) H1 s1 Hc s' -> Hc Dl = none -> Hc ce.locals = none -> s'.heap.PlainList Dl items -> VRs C s'.heap av items.toList ->
   (∃ m, s'.heap.Ns ce.locals m) -> K av Hc -> R (.ref Dl) ce.locals (.ok .next) s')
  (herr : ∀ s' e, XG true C (DI I Dl ce.locals) H1 s1 (fun c H h => X c H /\ H ce.locals = none /\ ∃ m, h.Ns ce.locals m) e s' -> R (.ref Dl) ce.locals (.error e) s')
  (h0' : ∃ i Hc av items, (n0 = all.length - i /\ i <= all.length /\ av.length <= i) /\ CI C ce vs' iv I Dl H1 s1 (ρ ++ List.replicate tg.length none) i av items Hc s0 /\
   wpC tg.length iv all stp (all.drop i) av Hc K) :
  codeAny C.M A (.compLoop (.ListComp elt' [⟨t', it', ifs', 0⟩] sc p) 0 (.ref I) (.ref Dl) ce) (R (.ref Dl) ce.locals) s0 := by
 refine compLoop_any (fun n s => ∃ i Hc av items, (n = all.length - i /\ i <= all.length /\ av.length <= i) /\ CI C ce vs' iv I Dl H1 s1 (ρ ++ List.replicate tg.length none) i av items Hc s /\
   wpC tg.length iv all stp (all.drop i) av Hc K)
  (fun n s hI => ?_) n0 h0'
 refine Vc.xa_4_3 hI fun i Hc av items ho122_4 ci Wc => ?_
 try clear hI
 obtain ⟨hn, hi, hsza⟩ := ho122_4
 have err : ∀ {Hx : MH} {sx : Shared} {i : Nat} {ρ' : Lo}, CI C ce vs' iv I Dl H1 s1 ρ' i av items Hx sx -> ∀ e s', XQ false C No Hx sx X e s' -> notedBy C.M A ce (fun e s' => R (.ref Dl) ce.locals (.error e) s') e s' :=
  fun c e s' hx => c.er hfr hff ok hnew herr hx
 have okc := ok.step ci.st
 have hI0 : C.h0.get? I = none := hz I (.inl rfl)
 rcases Nat.lt_or_ge i all.length with hlt | hge
 ·-- one more item
  (rw [List.drop_eq_getElem_cons hlt] at Wc; dsimp only [wpC] at Wc)
  obtain ⟨hitems, xs, hparts, Wx⟩ := Wc
  have hxl := parts_length hparts
  refine next_item okc ci.it (ci.go I (.inl rfl)) hI0 hitems (x := all[i]) (List.getElem?_eq_getElem hlt) fun sb cv stb itb vrb => ?_
  have cb := ci.nx stb itb
  refine it_go itb (assign_tgt (idx := List.range' ρ.length tg.length) ES' ht hidx (okc.step stb) cb.fi vrb (by rw [List.length_range']; exact hparts) fun sc' stc fic' => ?_)
  rw [<- hxl, lss_new] at fic'
  have cc := cb.as stc (fun b hb => by
   refine Vc.xa_1_2 hb fun j hj hb => ?_
   rcases hb with ⟨_, e⟩ | ⟨x, e, _⟩
   ·exact e
   ·exfalso
    refine Vc.xa_1_2 (List.mem_range'.mp hj) fun q hq1 hq2 => ?_
    exact hcl j x (hq2 ▸ Nat.le_add_right _ _) e) hDC fic'
  have okcc := ok.step cc.st
  refine wpAny_mono (hT sc' Hc _ _ okcc fic' (hst _ _ _ Wx)) (fun b s3 hb => ?_) (err cc)
  refine Vc.xa_1_2 hb fun H3 st3 Q3 => ?_
  try clear hb
  have c3 := cc.no st3
  cases b with
  | false => exact ⟨all.length - (i + 1), hn ▸ Nat.sub_lt_sub_left hlt (Nat.lt_succ_self i), i + 1, H3, av, items, ⟨rfl, hlt, Nat.le_succ_of_le hsza⟩, { c3 with fi := c3.fi.forget (by simpa using hxl) }, Q3⟩
  | true =>
   refine wpAny_mono (hE s3 H3 _ _ (okcc.step st3) c3.fi Q3) (fun cv s4 hb => ?_) (err c3)
   refine Vc.xa_2_3 hb fun v H4 st4 vr4 Q4 => ?_
   try clear hb
   have c4 := c3.no st4
   refine wpAny_list_append_plain c4.pl (fun h5 pl5 sb5 => ?_) (show items.toList.length <= sizeLine from c4.rs.length ▸ Nat.le_trans hsza (Nat.le_trans hi hsz))
   have c5 := c4.ap vr4 (ok.step c4.st) (hz Dl (.inr (.inl rfl))) hDC pl5 sb5.2
   exact ⟨all.length - (i + 1), hn ▸ Nat.sub_lt_sub_left hlt (Nat.lt_succ_self i), i + 1, H4, av ++ [v], items.push cv, ⟨rfl, hlt, by rw [List.length_append]; exact Nat.succ_le_succ hsza⟩, { c5 with fi := c5.fi.forget (by simpa using hxl) }, Q4⟩
 ·-- the end
  (rw [List.drop_eq_nil_of_le hge] at Wc; dsimp only [wpC] at Wc)
  refine next_end okc hq ci.it (ci.go I (.inl rfl)) hI0 Wc.1 hge fun sb stb => ?_
  refine hok sb av Hc items (ci.st.trans (stb.widen fun b e => .inl e)) (ci.go _ (.inr (.inl rfl))) (ci.go _ (.inr (.inr rfl))) (pl_step ci.pl stb (ci.go Dl (.inr (.inl rfl))) (pl_neD ci.it ci.pl)) (ci.rs.keep stb.vk) ?_ Wc.2
  exact (ci.fi.step stb (ci.fi.neL ci.it) fun zz zz e => ci.fi.neC ci.it e).ns.imp fun zz q => q.1
theorem comp_core (ES : EnvS env vs ns) (ea : EA A env) (ok : Ok C d H1 A s1) (fi : FI C env vs ρ H1 s1.heap)
  (ht : tgt? t' = some tg) (hl : ∀ x ∈ tg, sc.names.lookup x = some .local) (nd : tg.Nodup) (hk : sc.kind = .function) (hnc : ∀ x ∈ sc.names, x.2 ≠ .cell)
  (hf : ∀ x ∈ sc.names, x.2 = .free -> (env.cells.lookup x.1).isSome = true)
  (hT : ∀ env' s H ρ' (Q : Bool -> MH -> Prop), EnvS env' (innerVs vs (relab sc.names ns) tg) (relab sc.names ns) -> EA A env' -> Ok C d H A s -> FI C env' (innerVs vs (relab sc.names ns) tg) ρ' H s.heap -> wpTs C d ifs ρ' H Q X ->
   wpAny C.M A (testsOf ifs' env') (fun b s' => ∃ H', Step C No H s H' s' /\ Q b H') (XQ false C No H s X) s)
  (hE : ∀ env' s H ρ' (Q : V -> MH -> Prop), EnvS env' (innerVs vs (relab sc.names ns) tg) (relab sc.names ns) -> EA A env' -> Ok C d H A s -> FI C env' (innerVs vs (relab sc.names ns) tg) ρ' H s.heap -> wpE C d elt ρ' H Q X ->
   wpAny C.M A (eval elt' env') (QP C H s Q) (XQ false C No H s X) s)
  {K : List V -> MH -> Prop} (hq : Itq d iv) (hsz : all.length <= sizeLine)
  (W : wpC tg.length iv all (fun vs H2 Q' => wpTs C d ifs (ρ ++ vs.map some) H2 (fun t H3 => if t = true then wpE C d elt (ρ ++ vs.map some) H3 (fun v H4 => Q' (some v) H4) X else Q' none H3) X) all [] H1 K)
  (st2 : Step C No H1 s1 H1 s2) (hI1 : s1.heap.get? I = none) (hit : ItAt C s2.heap iv I 0)
  {R : Value -> Addr -> Result -> Shared -> Prop}
  (hok : ∀ Dl Cn s' av Hc items, Step C (DI I Dl Cn) H1 s1 Hc s' -> s1.heap.get? Dl = none -> s1.heap.get? Cn = none -> Dl ≠ Cn -> Hc Dl = none -> Hc Cn = none -> s'.heap.PlainList Dl items -> VRs C s'.heap av items.toList ->
   (∃ m, s'.heap.Ns Cn m) -> K av Hc -> R (.ref Dl) Cn (.ok .next) s')
  (herr : ∀ Dl Cn s' e, s1.heap.get? Dl = none -> s1.heap.get? Cn = none -> XG true C (DI I Dl Cn) H1 s1 (fun c H h => X c H /\ H Cn = none /\ ∃ m, h.Ns Cn m) e s' -> R (.ref Dl) Cn (.error e) s') :
  wpAny C.M A (newList []) (fun acc s3 => wpAny C.M A (newFunctionEnv sc env.globals (closA env sc.names []) [] env.qual none .none (some env)) (fun cenv s4 =>
   codeAny C.M A (.compStart (.ListComp elt' [⟨t', it', ifs', 0⟩] sc p) 0 (.ref I) acc { cenv with scope := relabel sc env }) (R acc cenv.locals) s4) E s3) E s2 := by
 have ok2 := ok.step st2
 refine wpAny_newObj_type (wpAny_newFunctionEnv hnc (by intro y hy; simp at hy) (fun h₁ hns₁ hsb₁ => ?_) hk)
 dsimp only at hns₁ hsb₁ ⊢
 generalize hDl : s2.heap.objs.size = Dl at *
 generalize hP : s2.heap.push { cls := .type "list", dict := none, data := .seq ([] : List Value).toArray } = P at *
 generalize hCn : P.objs.size = Cn at *
 have hCn' : Cn = Dl + 1 := by rw [<- hCn, <- hP, Heap.size_push, hDl]
 have hDC : Dl ≠ Cn := by (clear hsz hDl hCn; omega)
 have k2 : ∀ b o, s2.heap.get? b = some o -> h₁.get? b = some o := fun b o e => by
  have hb : b < Dl := hDl ▸ Heap.lt_size e
  rw [hsb₁.2 b (hCn' ▸ Nat.ne_of_lt (Nat.lt_succ_of_lt hb))]
  exact Heap.get?_push_of_some _ (hP ▸ Heap.get?_push_of_some _ e)
 have hDl2 : s2.heap.get? Dl = none := hDl ▸ fresh_size _
 have hCn2 : s2.heap.get? Cn = none := by
  cases q : s2.heap.get? Cn with
  | none => rfl
  | some o => have := Heap.lt_size q; rw [hDl, hCn'] at this; exact absurd this (Nat.not_lt.mpr (Nat.le_succ _))
 have hDl1 := old_of st2 hDl2
 have hCn1 := old_of st2 hCn2
 have hpl : h₁.PlainList Dl #[] := ⟨0, by
  rw [hsb₁.2 Dl hDC]
  exact Heap.get?_push_of_some _ (hP ▸ hDl ▸ Heap.get?_push_size _ rfl)⟩
 refine Vc.xa_2_2 ea fun fenv outer hfr hff => ?_
 try clear ea
 have stA : Step C No H1 s2 H1 { s2 with heap := h₁, toks := s2.toks + ([] : List (Str × Value)).length } := Step.keeps ok2.rel ok2.top k2 rfl rfl
 have st0 := st2.trans stA
 generalize hs0 : ({ s2 with heap := h₁, toks := s2.toks + ([] : List (Str × Value)).length } : Shared) = s0 at *
 have hh0 : s0.heap = h₁ := by rw [<- hs0]
 have hnew : ∀ b, DI I Dl Cn b -> s1.heap.get? b = none := fun b hb => by
  rcases hb with rfl | rfl | rfl
  ·exact hI1
  ·exact hDl1
  ·exact hCn1
 have hH : ∀ b, DI I Dl Cn b -> H1 b = none := fun b hb => ok.rel.fresh (hnew b hb)
 have hz : ∀ b, DI I Dl Cn b -> C.h0.get? b = none := fun b hb => fresh_top ok.top (hnew b hb)
 have hit0 : ItAt C s0.heap iv I 0 := hit.step stA (ok.rel.fresh hI1) (fun f => f)
 have ES' : EnvS (compEnvC sc (closA env sc.names []) Cn env) (innerVs vs (relab sc.names ns) tg) (relab sc.names ns) := comp_envS ES hk hl nd hf
 have fi0 : FI C (compEnvC sc (closA env sc.names []) Cn env) (innerVs vs (relab sc.names ns) tg) (ρ ++ List.replicate tg.length none) H1 s0.heap :=
  comp_fi ES (fi.stepN st0) hnc hf (hH _ (.inr (.inr rfl))) (hz _ (.inr (.inr rfl))) (by rw [hh0]; exact hns₁)
 have e0 : Step C (DI I Dl Cn) H1 s1 H1 s0 := { st0 with chg := fun b o e n zz => st0.chg b o e n (fun f => f), dn := fun b hb zz => hH b hb }
 have loop := comp_loop (ce := compEnvC sc (closA env sc.names []) Cn env) (vs' := innerVs vs (relab sc.names ns) tg) (ns' := relab sc.names ns) (fenv := fenv) (outer := outer) (Dl := Dl) (R := R) (s0 := s0) (n0 := all.length) (sc := sc) (p := p) (it' := it') (elt' := elt') (ifs' := ifs') (t' := t') (I := I)
  (fun zz zz zz h => h) ES' hfr hff ok ht (by
   rw [fi.len]
   have := chkTg_inner (vs := vs) (inner := relab sc.names ns) (tg := tg) (l := tg) (n := 0) (fun j => by simp)
   simpa using this) (fun j x hj e => by
   have := (inner_ge e (by rw [<- fi.len]; (clear hsz hDl hCn hCn' hDC; omega))).1; cases this) (fun s H ρ' Q o f w => hT _ s H ρ' Q ES' ⟨fenv, outer, hfr, hff⟩ o f w) (fun s H ρ' Q o f w => hE _ s H ρ' Q ES' ⟨fenv, outer, hfr, hff⟩ o f w) hq hsz hDl1 hCn1 hDC hnew hz
   (fun s' av Hc items a1 a2 a3 a4 a5 a6 a7 => hok Dl Cn s' av Hc items a1 hDl1 hCn1 hDC a2 a3 a4 a5 a6 a7) (fun s' e x => herr Dl Cn s' e hDl1 hCn1 x)
   ⟨0, H1, [], #[], ⟨rfl, Nat.zero_le _, Nat.le_refl _⟩, ⟨e0, hit0, hH, by rw [hh0]; exact hpl, VRs.nil, fi0⟩, W⟩
 exact codeAny_compStart_list loop (iter_self hit0 loop)
end
end Vc
end
section
namespace Vc
open PySem
theorem starEach_cons {e : Expr} {es : List Expr} {env : Env} (h : ∀ x p, e ≠ .Starred x p) : starEach (e :: es) env = (false, eval e env) :: starEach es env := by
 cases e <;> first | rfl | exact absurd rfl (h _ _)
theorem backTo_cons {pos : Pos} {t : Sem Value} {l : List (Bool × Sem Value)} : backTo pos ((false, t) :: l) = (false, t) :: backTo pos l := rfl
section
variable {C : Cx} {d : Md} {env : Env} {vs : Vs} {ns : Ns} {ρ : Lo} {H H1 H' : MH} {s s1 s' : Shared} {A : Around} {X : XP} {Q : V -> MH -> Prop}
noncomputable def SndE (C : Cx) (d : Md) (e : Ex) (e' : Expr) (vs : Vs) (ns : Ns) : Prop :=
 ∀ env A s ρ H Q X, EnvS env vs ns -> EA A env -> Ok C d H A s -> FI C env vs ρ H s.heap -> wpE C d e ρ H Q X -> wpAny C.M A (eval e' env) (QP C H s Q) (XQ false C No H s X) s
noncomputable def SndT (C : Cx) (d : Md) (e : Ex) (e' : Expr) (vs : Vs) (ns : Ns) : Prop :=
 ∀ env A s ρ H (Q : Bool -> MH -> Prop) X, EnvS env vs ns -> EA A env -> Ok C d H A s -> FI C env vs ρ H s.heap -> wpT C d e ρ H Q X -> wpAny C.M A (isTrue e' env (eval e' env)) (fun b s' => ∃ H', Step C No H s H' s' /\ Q b H') (XQ false C No H s X) s
noncomputable def SndEs (C : Cx) (d : Md) (es : List Ex) (es' : List Expr) (vs : Vs) (ns : Ns) : Prop :=
 ∀ env A s ρ H (Q : List V -> MH -> Prop) X pos, EnvS env vs ns -> EA A env -> Ok C d H A s -> FI C env vs ρ H s.heap -> wpEs C d es ρ H Q X ->
  wpAny C.M A (spliced (backTo pos (starEach es' env))) (fun cvs s' => ∃ xs H', Step C No H s H' s' /\ VRs C s'.heap xs cvs /\ Q xs H') (XQ false C No H s X) s
theorem snd_bin {op : Operator} {l r : Ex} {l' r' : Expr} {p : Pos} (hl : SndE C d l l' vs ns) (hr : SndE C d r r' vs ns) : SndE C d (.bin op l r) (.BinOp l' op r' p) vs ns := by
 intro env A s ρ H Q X ES ea ok fi W
 dsimp only [wpE] at W
 refine wpAny_BinOp (wpAny_mono (hl env A s ρ H _ X ES ea ok fi W) (fun a s1 hq1 => Vc.xa_2_3 hq1 fun va H1 st1 r1 W1 => ?_) fun zz zz h => h)
 refine wpAny_mono (hr env A s1 ρ H1 _ X ES ea (ok.step st1) (fi.stepN st1) W1) (fun b s2 hq2 => Vc.xa_2_3 hq2 fun vb H2 st2 r2 W2 => ?_) fun zz zz h => h.back st1
 have st := st1.trans st2
 exact wpAny_mono (W2 A s2 a b (ok.step st) (r1.keep st2.vk) r2) (fun zz zz h => h.back st) fun zz zz h => h.back st
theorem snd_una {op : UnaryOp} {e : Ex} {e' : Expr} {p : Pos} (he : SndE C d e e' vs ns) : SndE C d (.una op e) (.UnaryOp op e' p) vs ns := by
 intro env A s ρ H Q X ES ea ok fi W
 dsimp only [wpE] at W
 rw [arm_eval_UnaryOp]
 refine wpAny_bind (wpAny_mono (he env A s ρ H _ X ES ea ok fi W) (fun a s1 hq3 => Vc.xa_2_3 hq3 fun va H1 st1 r1 W1 => ?_) fun zz zz h => h)
 exact wpAny_bind (wpAny_standAt (wpAny_holding (wpAny_mono (W1 A s1 a (ok.step st1) r1) (fun zz zz h => h.back st1) fun zz zz h => h.back st1)))
theorem marks_false {op : CmpOp} {e : Expr} (h : notSet e = true) : behindInMarks op e = false := by
 cases e <;> first | rfl | (exact (Bool.false_ne_true h).elim)
theorem snd_cmp {op : CmpOp} {l r : Ex} {l' r' : Expr} {p : Pos} (hs : notSet r' = true) (hl : SndE C d l l' vs ns) (hr : SndE C d r r' vs ns) : SndE C d (.cmp op l r) (.Compare l' [op] [r'] p) vs ns := by
 intro env A s ρ H Q X ES ea ok fi W
 dsimp only [wpE] at W
 refine wpAny_Compare1 (wpAny_mono (hl env A s ρ H _ X ES ea ok fi W) (fun a s1 hq4 => Vc.xa_2_3 hq4 fun va H1 st1 r1 W1 => ?_) fun zz zz h => h) (marks_false hs)
 refine wpAny_mono (hr env A s1 ρ H1 _ X ES ea (ok.step st1) (fi.stepN st1) W1) (fun b s2 hq5 => Vc.xa_2_3 hq5 fun vb H2 st2 r2 W2 => ?_) fun zz zz h => h.back st1
 have st := st1.trans st2
 exact wpAny_mono (W2 A s2 a b (ok.step st) (r1.keep st2.vk) r2) (fun zz zz h => h.back st) fun zz zz h => h.back st
theorem sndT_cmp {op : CmpOp} {l r : Ex} {l' r' : Expr} {p : Pos} (hs : notSet r' = true) (hl : SndE C d l l' vs ns) (hr : SndE C d r r' vs ns) : SndT C d (.cmp op l r) (.Compare l' [op] [r'] p) vs ns := by
 intro env A s ρ H Q X ES ea ok fi W
 dsimp only [wpT] at W
 ·refine wpAny_isTrue_Compare1 (wpAny_mono (hl env A s ρ H _ X ES ea ok fi W) (fun a s1 hq6 => Vc.xa_2_3 hq6 fun va H1 st1 r1 W1 => ?_) fun zz zz h => h) (marks_false hs)
  refine wpAny_mono (hr env A s1 ρ H1 _ X ES ea (ok.step st1) (fi.stepN st1) W1) (fun b s2 hq7 => Vc.xa_2_3 hq7 fun vb H2 st2 r2 W2 => ?_) fun zz zz h => h.back st1
  have st := st1.trans st2
  refine wpAny_mono (W2 A s2 a b (ok.step st) (r1.keep st2.vk) r2) (fun c s3 hq8 => Vc.xa_2_3 hq8 fun vc H3 st3 r3 W3 => ?_) fun zz zz h => h.back st
  have st' := st.trans st3
  exact wpAny_mono (W3 A s3 c (ok.step st') r3) (fun b s4 hq9 => Vc.xa_1_2 hq9 fun H4 st4 W4 => ⟨H4, st'.trans st4, W4⟩) fun zz zz h => h.back st'
 all_goals (intros; rename_i h; cases h)
theorem chain2 {env : Env} {l m r : Expr} {o1 o2 : CmpOp} {p : Pos} (hs : notSet r = true) : eval (.Compare l [o1, o2] [m, r] p) env = (do
  let a <- eval l env
  let b <- holding [a] (eval m env)
  standAt p
  let c <- holding [a, b] (compareOp o1 a b)
  release [a, b] [c]
  if <- holding [c, b] (truthy c) then do
   let b' <- holding [b] (eval r env)
   standAt p
   operate [b, b'] (compareOp o2 b b')
  else pure c) := by
 rw [arm_eval_Compare]
 have : markedEach [o1, o2] [m, r] (evalEach [m, r] env) = [eval m env, eval r env] := by
  show [eval m env, markedBehindIn o2 r (eval r env)] = _
  rw [markedBehindIn_of_false (marks_false hs)]
 rw [this]
 rfl
theorem testChain2 {env : Env} {l m r : Expr} {o1 o2 : CmpOp} {p : Pos} {t : Sem Value} (hs : notSet r = true) : isTrue (.Compare l [o1, o2] [m, r] p) env t = (do
  let a <- eval l env
  let b <- holding [a] (eval m env)
  standAt p
  let c <- holding [a, b] (compareOp o1 a b)
  release [a, b] [c]
  if <- holding [c, b] (truthy c) then do
   let b' <- holding [b] (eval r env)
   standAt p
   let c' <- operate [b, b'] (compareOp o2 b b')
   holding [c'] (truthy c')
  else pure false) := by
 show (do testChain p (<- eval l env) [o1, o2] (markedEach [o1, o2] [m, r] (evalEach [m, r] env))) = _
 have : markedEach [o1, o2] [m, r] (evalEach [m, r] env) = [eval m env, eval r env] := by
  show [eval m env, markedBehindIn o2 r (eval r env)] = _
  rw [markedBehindIn_of_false (marks_false hs)]
 rw [this]
 rfl
theorem snd_cmp2 {o1 o2 : CmpOp} {l m r : Ex} {l' m' r' : Expr} {p : Pos} (hs : notSet r' = true) (hl : SndE C d l l' vs ns) (hm : SndE C d m m' vs ns) (hr : SndE C d r r' vs ns) :
  SndE C d (.cmp2 o1 o2 l m r) (.Compare l' [o1, o2] [m', r'] p) vs ns := by
 intro env A s ρ H Q X ES ea ok fi W
 dsimp only [wpE] at W
 rw [chain2 hs]
 refine wpAny_bind (wpAny_mono (hl env A s ρ H _ X ES ea ok fi W) (fun a s1 hq10 => Vc.xa_2_3 hq10 fun va H1 st1 r1 W1 => ?_) fun zz zz h => h)
 refine wpAny_bind (wpAny_holding (wpAny_mono (hm env A s1 ρ H1 _ X ES ea (ok.step st1) (fi.stepN st1) W1) (fun b s2 hq11 => Vc.xa_2_3 hq11 fun vb H2 st2 r2 W2 => ?_) fun zz zz h => h.back st1))
 have st := st1.trans st2
 refine wpAny_bind (wpAny_standAt (wpAny_bind (wpAny_holding (wpAny_mono (W2 A s2 a b (ok.step st) (r1.keep st2.vk) r2) (fun c s3 hq12 => Vc.xa_2_3 hq12 fun vc H3 st3 r3 W3 => ?_) fun zz zz h => h.back st))))
 have st' := st.trans st3
 refine wpAny_bind (wpAny_release (wpAny_bind (wpAny_holding (wpAny_mono (W3 A s3 c (ok.step st') r3) (fun t s4 hq13 => Vc.xa_1_2 hq13 fun H4 st4 W4 => ?_) fun zz zz h => h.back st'))))
 have st'' := st'.trans st4
 cases t with
 | false => rw [if_neg (by decide)] at W4 ⊢; exact wpAny_pure ⟨vc, H4, st'', r3.keep st4.vk, W4⟩
 | true =>
  rw [if_pos rfl] at W4 ⊢
  refine wpAny_bind (wpAny_holding (wpAny_mono (hr env A s4 ρ H4 _ X ES ea (ok.step st'') (fi.stepN st'') W4) (fun b' s5 hq14 => Vc.xa_2_3 hq14 fun vb' H5 st5 r5 W5 => ?_) fun zz zz h => h.back st''))
  have st5' := st''.trans st5
  exact wpAny_bind (wpAny_standAt (wpAny_operateT (wpAny_mono (W5 A s5 b b' (ok.step st5') ((r2.keep (st3.vk.trans st4.vk)).keep st5.vk) r5) (fun zz zz h => h.back st5') fun zz zz h => h.back st5')))
theorem sndT_cmp2 {o1 o2 : CmpOp} {l m r : Ex} {l' m' r' : Expr} {p : Pos} (hs : notSet r' = true) (hl : SndE C d l l' vs ns) (hm : SndE C d m m' vs ns) (hr : SndE C d r r' vs ns) :
  SndT C d (.cmp2 o1 o2 l m r) (.Compare l' [o1, o2] [m', r'] p) vs ns := by
 intro env A s ρ H Q X ES ea ok fi W
 dsimp only [wpT] at W
 rw [testChain2 hs]
 refine wpAny_bind (wpAny_mono (hl env A s ρ H _ X ES ea ok fi W) (fun a s1 hq15 => Vc.xa_2_3 hq15 fun va H1 st1 r1 W1 => ?_) fun zz zz h => h)
 refine wpAny_bind (wpAny_holding (wpAny_mono (hm env A s1 ρ H1 _ X ES ea (ok.step st1) (fi.stepN st1) W1) (fun b s2 hq16 => Vc.xa_2_3 hq16 fun vb H2 st2 r2 W2 => ?_) fun zz zz h => h.back st1))
 have st := st1.trans st2
 refine wpAny_bind (wpAny_standAt (wpAny_bind (wpAny_holding (wpAny_mono (W2 A s2 a b (ok.step st) (r1.keep st2.vk) r2) (fun c s3 hq17 => Vc.xa_2_3 hq17 fun vc H3 st3 r3 W3 => ?_) fun zz zz h => h.back st))))
 have st' := st.trans st3
 refine wpAny_bind (wpAny_release (wpAny_bind (wpAny_holding (wpAny_mono (W3 A s3 c (ok.step st') r3) (fun t s4 hq18 => Vc.xa_1_2 hq18 fun H4 st4 W4 => ?_) fun zz zz h => h.back st'))))
 have st'' := st'.trans st4
 cases t with
 | false => rw [if_neg (by decide)] at W4 ⊢; exact wpAny_pure ⟨H4, st'', W4⟩
 | true =>
  rw [if_pos rfl] at W4 ⊢
  refine wpAny_bind (wpAny_holding (wpAny_mono (hr env A s4 ρ H4 _ X ES ea (ok.step st'') (fi.stepN st'') W4) (fun b' s5 hq19 => Vc.xa_2_3 hq19 fun vb' H5 st5 r5 W5 => ?_) fun zz zz h => h.back st''))
  have st5' := st''.trans st5
  refine wpAny_bind (wpAny_standAt (wpAny_bind (wpAny_operateT (wpAny_mono (W5 A s5 b b' (ok.step st5') ((r2.keep (st3.vk.trans st4.vk)).keep st5.vk) r5) (fun c' s6 hq20 => Vc.xa_2_3 hq20 fun vc' H6 st6 r6 W6 => ?_) fun zz zz h => h.back st5'))))
  have st6' := st5'.trans st6
  exact wpAny_holding (wpAny_mono (W6 A s6 c' (ok.step st6') r6) (fun b s7 hq21 => Vc.xa_1_2 hq21 fun H7 st7 W7 => ⟨H7, st6'.trans st7, W7⟩) fun zz zz h => h.back st6')
theorem snd_ife {c a b : Ex} {c' a' b' : Expr} {p : Pos} (hc : SndT C d c c' vs ns) (ha : SndE C d a a' vs ns) (hb : SndE C d b b' vs ns) : SndE C d (.ife c a b) (.IfExp c' a' b' p) vs ns := by
 intro env A s ρ H Q X ES ea ok fi W
 dsimp only [wpE] at W
 refine wpAny_IfExp (wpAny_mono (hc env A s ρ H _ X ES ea ok fi W) (fun t s1 hq22 => Vc.xa_1_2 hq22 fun H1 st1 W1 => ?_) fun zz zz h => h)
 cases t with
 | true => rw [if_pos rfl] at W1 ⊢; exact wp_back st1 (ha env A s1 ρ H1 _ X ES ea (ok.step st1) (fi.stepN st1) W1)
 | false => rw [if_neg (by decide)] at W1 ⊢; exact wp_back st1 (hb env A s1 ρ H1 _ X ES ea (ok.step st1) (fi.stepN st1) W1)
theorem new_list {vs' : List V} {cvs : List Value} {Q : V -> MH -> Prop} {E : Value -> Shared -> Prop} (ok : Ok C d H A s) (r : VRs C s.heap vs' cvs) (W : NewL vs' H Q) : wpAny C.M A (newList cvs) (QP C H s Q) E s := by
 have hl := r.length
 refine wpAny_newObj_type ?_ (by show cvs.toArray.size <= sizeLine; simp; have := W.1; omega)
 have hf : H s.heap.objs.size = none := ok.rel.fresh (fresh_size _)
 have k : VK s.heap (s.heap.push { cls := .type "list", data := .seq cvs.toArray }) := .of_keeps fun b o e => Heap.get?_push_of_some _ e
 have st : Step C No H s (upd H s.heap.objs.size (.lst vs')) { s with heap := s.heap.push { cls := .type "list", dict := none, data := .seq cvs.toArray } } :=
  Step.alloc ok.rel ok.top ⟨fresh_top ok.top (fresh_size _), cvs.toArray, ⟨0, Heap.get?_push_size _ rfl⟩, by simpa using r.keep k⟩ rfl rfl rfl
 exact ⟨.ref s.heap.objs.size, _, st, rfl, W.2 _ hf⟩
theorem new_tuple {vs' : List V} {cvs : List Value} {Q : V -> MH -> Prop} {E : Value -> Shared -> Prop} (ok : Ok C d H A s) (r : VRs C s.heap vs' cvs) (W : NewT vs' H Q) : wpAny C.M A (newTuple cvs) (QP C H s Q) E s := by
 have hl := r.length
 refine wpAny_newObj_type ?_ (by show cvs.toArray.size <= sizeLine; simp; have := W.1; omega)
 have st : Step C No H s H { s with heap := s.heap.push { cls := .type "tuple", dict := none, data := .seq cvs.toArray } } := Step.keeps ok.rel ok.top (fun b o e => Heap.get?_push_of_some _ e) rfl rfl
 refine ⟨.tup vs', H, st, ?_, W.2⟩
 dsimp only [VR]
 exact ⟨_, cvs.toArray, ⟨rfl, .of (Heap.get?_push_size _ rfl) rfl⟩, ⟨_, Heap.get?_push_size _ rfl, rfl, 0, rfl⟩, by simpa using r.keep st.vk⟩
theorem snd_lst {es : List Ex} {es' : List Expr} {p : Pos} (he : SndEs C d es es' vs ns) : SndE C d (.lst es) (.List es' p) vs ns := by
 intro env A s ρ H Q X ES ea ok fi W
 dsimp only [wpE] at W
 rw [arm_eval_List]
 refine wpAny_bind (wpAny_standAt (wpAny_bind (wpAny_mono (he env A s ρ H _ X p ES ea ok fi W) (fun cvs s1 hq23 => Vc.xa_2_3 hq23 fun xs H1 st1 r1 W1 => ?_) fun zz zz h => h)))
 exact wpAny_mono (new_list (E := fun zz zz => False) (ok.step st1) r1 W1) (fun zz zz h => h.back st1) fun zz zz h => h.elim
theorem snd_tup {es : List Ex} {es' : List Expr} {k : Nat} {p : Pos} (he : SndEs C d es es' vs ns) : SndE C d (.tup es) (.Tuple es' k p) vs ns := by
 intro env A s ρ H Q X ES ea ok fi W
 dsimp only [wpE] at W
 rw [arm_eval_Tuple]
 refine wpAny_bind (wpAny_standAt (wpAny_bind (wpAny_mono (he env A s ρ H _ X p ES ea ok fi W) (fun cvs s1 hq24 => Vc.xa_2_3 hq24 fun xs H1 st1 r1 W1 => ?_) fun zz zz h => h)))
 exact wpAny_mono (new_tuple (E := fun zz zz => False) (ok.step st1) r1 W1) (fun zz zz h => h.back st1) fun zz zz h => h.elim
theorem not_sys (G : C.Good) (ok : Ok C d H A s) : s.heap.objs.size ≠ sysModules := by
 refine Vc.xa_1_2 G.nolimit fun mc ho180_1 zz => ?_
 obtain ⟨o, _, _, ho, _⟩ := ho180_1
 have := Heap.lt_size (ok.top _ _ ho)
 intro e
 rw [e] at this
 exact absurd this (by decide)
theorem snd_emp {k : Nat} {p : Pos} (G : C.Good) : SndE C d (.emp k) (.Dict [] [] p) vs ns := by
 intro env A s ρ H Q X ES ea ok fi W
 dsimp only [wpE] at W
 refine wpAny_Dict_empty ?_
 have hf : H s.heap.objs.size = none := ok.rel.fresh (fresh_size _)
 have h0 := fresh_top ok.top (fresh_size s.heap)
 have W' := W _ hf
 match k with
 | 0 =>
  refine ⟨.ref s.heap.objs.size, _, Step.alloc (o := .dci []) ok.rel ok.top ⟨h0, not_sys G ok, [], ⟨_, #[], 0, Heap.get?_push_size _ rfl, ⟨rfl, rfl, rfl⟩, rfl, fun zz he => by simp at he, .nil, by simp⟩, rfl, VRs.nil⟩ rfl rfl rfl, rfl, W'⟩
 | 1 =>
  refine ⟨.ref s.heap.objs.size, _, Step.alloc (o := .dcs []) ok.rel ok.top ⟨h0, not_sys G ok, [], ⟨_, #[], 0, Heap.get?_push_size _ rfl, ⟨rfl, rfl, rfl⟩, rfl, fun zz he => by simp at he, .nil, by simp⟩, rfl, VRs.nil⟩ rfl rfl rfl, rfl, W'⟩
 | k + 2 =>
  refine ⟨.ref s.heap.objs.size, _, Step.alloc (o := .prd (dckP [])) ok.rel ok.top ⟨h0, not_sys G ok, [], Heap.DictOfH.new _, rfl⟩ rfl rfl rfl, rfl, W'⟩
end
end Vc
end
section
namespace Vc
open PySem
section
variable {C : Cx} {d : Md} {env : Env} {vs : Vs} {ns : Ns} {ρ : Lo} {H H1 H' : MH} {s s1 s' : Shared} {A : Around} {X : XP} {Q : V -> MH -> Prop}
theorem qp_e {P : Prop} {v : Value} (h : QP C H s Q v s') (k : ∀ r H', Step C No H s H' s' -> VR C s'.heap r v -> Q r H' -> P) : P := h.elim fun r h => h.elim fun H' h => k r H' h.1 h.2.1 h.2.2
theorem sndEs_nil : SndEs C d [] [] vs ns := by
 intro env A s ρ H Q X pos ES ea ok fi W
 dsimp only [wpEs] at W
 exact wpAny_pure ⟨[], H, ok.refl, VRs.nil, W⟩
theorem sndEs_cons {e : Ex} {es : List Ex} {e' : Expr} {es' : List Expr} (hs : ∀ x p, e' ≠ .Starred x p) (he : SndE C d e e' vs ns) (hes : SndEs C d es es' vs ns) : SndEs C d (e :: es) (e' :: es') vs ns := by
 intro env A s ρ H Q X pos ES ea ok fi W
 dsimp only [wpEs] at W
 rw [starEach_cons hs, backTo_cons]
 refine Calls.spliced_cons (wpAny_mono (he env A s ρ H _ X ES ea ok fi W) (fun cv s1 hq1 => Vc.xa_2_3 hq1 fun v H1 st1 r1 W1 => ?_) fun zz zz h => h)
 refine wpAny_mono (hes env A s1 ρ H1 _ X pos ES ea (ok.step st1) (fi.stepN st1) W1) (fun cvs s2 hq2 => Vc.xa_2_3 hq2 fun xs H2 st2 r2 W2 => ?_) fun zz zz h => h.back st1
 exact ⟨v :: xs, H2, st1.trans st2, VRs.cons (r1.keep st2.vk) r2, W2⟩
theorem starEach_false {es : List Ex} : ∀ {es' : List Expr}, chkEs vs ns es es' = true -> ∀ pos, ∀ x ∈ backTo pos (starEach es' env), x.1 = false := by
 induction es with
 | nil => intro es' h pos x; exact iv_nil (P := fun l => x ∈ backTo pos (starEach l env) -> x.1 = false) h fun hx => absurd (show x ∈ ([] : List _) from hx) List.not_mem_nil
 | cons e es ih =>
  intro es' h pos x
  refine iv_cons (P := fun l => x ∈ backTo pos (starEach l env) -> x.1 = false) h fun e1 es1 h1 h2 hx => ?_
  rw [starEach_cons (chk_notStar h1), backTo_cons] at hx
  rcases List.mem_cons.mp hx with rfl | hx
  ·rfl
  ·exact ih h2 pos x hx
theorem snd_call {f : String} {es : List Ex} {es' : List Expr} {id : Str} {q p : Pos} (G : C.Good) (hg : gOk ns f id = true) (hc : chkEs vs ns es es' = true) (he : SndEs C d es es' vs ns) : SndE C d (.call f es) (.Call (.Name id q) es' [] p) vs ns := by
 intro env A s ρ H Q X ES ea ok fi W
 dsimp only [wpE] at W
 refine Vc.xa_0_2 W fun ho36_0 W => ?_
 obtain ⟨fv, gf, cf⟩ := ho36_0
 refine wpAny_Call_Name_kw (load_gl G ES hg ok.top gf ?_)
 refine callWith_any (starEach_false hc p) cf ?_
 refine wpAny_mono (he env A s ρ H _ X p ES ea ok fi W) (fun cvs s1 hq3 => Vc.xa_2_3 hq3 fun xs H1 st1 r1 W1 => ⟨st1.top, ?_⟩) fun zz zz h => h
 rw [List.nil_append]
 exact wp_back st1 (W1 fv gf A s1 cvs (ok.step st1) r1)
theorem base_plain {o : Expr} {a : Str} {env : Env} {t : Sem Value} (h : notSuper o = true) : attributeBase o a env t = t := by
 cases o with
 | Call f args kws p =>
  cases f with
  | Name id q =>
   cases args with
   | nil =>
    cases kws with
    | nil => exact (Bool.false_ne_true h).elim
    | cons _ _ => exact @Eq.refl _ t
   | cons _ _ => exact @Eq.refl _ t
  | _ => exact @Eq.refl _ t
 | _ => exact @Eq.refl _ t
theorem form_true {es : List Ex} {es' : List Expr} {pos : Pos} (hc : chkEs vs ns es es' = true) (hl : es.length < 29) : methodCallForm (es'.length + ([] : List Keyword).length) (backTo pos (starEach es' env)) (backToKw pos (keywordEach [] env)) = true := by
 have h1 : ∀ x ∈ backTo pos (starEach es' env), x.1 = false := starEach_false hc pos
 have hlen : es.length = es'.length := chk_len hc
 unfold methodCallForm
 have h2 : (backTo pos (starEach es' env)).all (fun x => !x.1) = true := List.all_eq_true.mpr fun x hx => by rw [h1 x hx]; rfl
 have h3 : (backToKw pos (keywordEach [] env)) = [] := rfl
 rw [h2, h3]
 simp
 omega
theorem snd_meth {o : Ex} {m : String} {es : List Ex} {o' : Expr} {ap p : Pos} {es' : List Expr} (hap : (ap.endLine == p.line) = true) (hl : es.length < 29) (hsup : notSuper o' = true) (hc : chkEs vs ns es es' = true)
  (ho : SndE C d o o' vs ns) (he : SndEs C d es es' vs ns) : SndE C d (.meth o m es) (.Call (.Attribute o' (Str.ofString m) ap) es' [] p) vs ns := by
 intro env A s ρ H Q X ES ea ok fi W
 dsimp only [wpE] at W
 rw [arm_eval_Call, base_plain hsup]
 refine wpAny_bind (wpAny_mono (ho env A s ρ H _ X ES ea ok fi W) (fun co s1 hzz => qp_e hzz fun ov H1 st1 r1 hzw => ?_) fun zz zz h => h)
 refine Vc.xa_1_3 hzw fun fv mg cf W1 => ?_
 try clear hzw
 refine wpAny_bind (wpAny_standAt ?_)
 unfold methodCall
 rw [form_true hc hl]
 refine wpAny_bind (wpAny_holding ?_)
 unfold calleeOf
 rw [if_pos rfl]
 refine mg A s1 co _ _ _ (ok.step st1) r1 ?_
 refine wpAny_bind ?_
 unfold methodCallPos
 rw [hap]
 simp only [Bool.or_true, if_true]
 refine wpAny_pure ?_
 refine callWith_any (starEach_false hc p) cf ?_
 refine wpAny_mono (he env A s1 ρ H1 _ X p ES ea (ok.step st1) (fi.stepN st1) W1) (fun cvs s2 hq4 => Vc.xa_2_3 hq4 fun xs H2 st2 r2 W2 => ⟨st2.top, ?_⟩) fun zz zz h => h.back st1
 have st := st1.trans st2
 exact wp_back st (W2 A s2 (co :: cvs) (ok.step st) (VRs.cons (r1.keep st2.vk) r2))
theorem snd_att {o : Ex} {a : String} {o' : Expr} {p : Pos} (hsup : notSuper o' = true) (ho : SndE C d o o' vs ns) : SndE C d (.att o a) (.Attribute o' (Str.ofString a) p) vs ns := by
 intro env A s ρ H Q X ES ea ok fi W
 dsimp only [wpE] at W
 rw [arm_eval_Attribute, base_plain hsup]
 refine wpAny_bind (wpAny_mono (ho env A s ρ H _ X ES ea ok fi W) (fun co s1 hzz => qp_e hzz fun ov H1 st1 r1 W1 => ?_) fun zz zz h => h)
 refine wpAny_bind (wpAny_standAt (wpAny_bind (wpAny_holding (wpAny_mono (W1 A s1 co (ok.step st1) r1) (fun cr s2 h2 => ?_) fun zz zz h => h.back st1))))
 exact wpAny_bind (wpAny_letTemporaryGo (wpAny_pure (h2.back st1)))
theorem sub_plain {i : Expr} {o iv : Value} (h : notSlice i = true) : subscripted i false o iv = operate [o, iv] (getItem o iv) := by
 cases i <;> first | rfl | (exact (Bool.false_ne_true h).elim)
theorem snd_sub {o i : Ex} {o' i' : Expr} {p : Pos} (hn : notSlice i' = true) (ho : SndE C d o o' vs ns) (hi : SndE C d i i' vs ns) : SndE C d (.sub o i) (.Subscript o' i' p) vs ns := by
 intro env A s ρ H Q X ES ea ok fi W
 dsimp only [wpE] at W
 rw [arm_eval_Subscript]
 refine wpAny_bind (wpAny_mono (ho env A s ρ H _ X ES ea ok fi W) (fun co s1 hzz => qp_e hzz fun ov H1 st1 r1 W1 => ?_) fun zz zz h => h)
 refine wpAny_bind (wpAny_holding (wpAny_mono (hi env A s1 ρ H1 _ X ES ea (ok.step st1) (fi.stepN st1) W1) (fun ci s2 hzz => qp_e hzz fun iv H2 st2 r2 W2 => ?_) fun zz zz h => h.back st1))
 have st := st1.trans st2
 refine Vc.xa_0_2 (W2 A s2 co ci (ok.step st) (r1.keep st2.vk) r2) fun g1 g2 => ?_
 refine wpAny_bind (wpAny_standAt (wpAny_bind (wpAny_mono g1 (fun b s3 ⟨hb, hs⟩ => ?_) fun zz zz h => h.elim)))
 subst hb hs
 rw [sub_plain hn]
 refine wpAny_bind (wpAny_operateT (wpAny_mono g2 (fun cr s4 h4 => ?_) fun zz zz h => h.back st))
 exact wpAny_bind (wpAny_letTemporaryGo (wpAny_pure (h4.back st)))
noncomputable def SndO (C : Cx) (d : Md) (e : Ex) (e' : Option Expr) (vs : Vs) (ns : Ns) : Prop :=
 ∀ env A s ρ H Q X, EnvS env vs ns -> EA A env -> Ok C d H A s -> FI C env vs ρ H s.heap -> wpE C d e ρ H Q X -> wpAny C.M A (valueOrNone (evalOpt e' env)) (QP C H s Q) (XQ false C No H s X) s
theorem sndO_none : SndO C d .cn none vs ns := by
 intro env A s ρ H Q X ES ea ok fi W
 dsimp only [wpE] at W
 exact wpAny_pure ⟨.none, H, ok.refl, rfl, W⟩
theorem snd_sli {o l u t : Ex} {o' : Expr} {l' u' t' : Option Expr} {q p : Pos} (ho : SndE C d o o' vs ns) (hl : SndO C d l l' vs ns) (hu : SndO C d u u' vs ns) (ht : SndO C d t t' vs ns) :
  SndE C d (.sli o l u t) (.Subscript o' (.Slice l' u' t' q) p) vs ns := by
 intro env A s ρ H Q X ES ea ok fi W
 dsimp only [wpE] at W
 rw [arm_eval_Subscript, arm_eval_Slice]
 refine wpAny_bind (wpAny_mono (ho env A s ρ H _ X ES ea ok fi W) (fun co s1 hzz => qp_e hzz fun ov H1 st1 r1 W1 => ?_) fun zz zz h => h)
 refine wpAny_bind (wpAny_holding (wpAny_bind (wpAny_mono (hl env A s1 ρ H1 _ X ES ea (ok.step st1) (fi.stepN st1) W1) (fun cl s2 hzz => qp_e hzz fun lv H2 st2 r2 W2 => ?_) fun zz zz h => h.back st1)))
 have stb := st1.trans st2
 refine wpAny_bind (wpAny_holding (wpAny_mono (hu env A s2 ρ H2 _ X ES ea (ok.step stb) (fi.stepN stb) W2) (fun cu s3 hzz => qp_e hzz fun uv H3 st3 r3 W3 => ?_) fun zz zz h => h.back stb))
 have stc := stb.trans st3
 refine wpAny_bind (wpAny_holding (wpAny_mono (ht env A s3 ρ H3 _ X ES ea (ok.step stc) (fi.stepN stc) W3) (fun ct s4 hzz => qp_e hzz fun tv H4 st4 r4 W4 => ?_) fun zz zz h => h.back stc))
 have std := stc.trans st4
 have okd := ok.step std
 unfold newFields
 refine wpAny_newObj_type ?_ (by size_fits)
 have ste : Step C No H4 s4 H4 { s4 with heap := s4.heap.push { cls := .type "slice", dict := none, data := .fields [cl, cu, ct].toArray } } := Step.keeps okd.rel okd.top (fun b o e => Heap.get?_push_of_some _ e) rfl rfl
 have st := std.trans ste
 refine Vc.xa_0_2 (W4 A _ co cl cu ct s4.heap.objs.size (ok.step st) ((((r1.keep st2.vk).keep st3.vk).keep st4.vk).keep ste.vk) (((r2.keep st3.vk).keep st4.vk).keep ste.vk) ((r3.keep st4.vk).keep ste.vk) (r4.keep ste.vk) (Heap.get?_push_size _ rfl)) fun g1 g2 => ?_
 refine wpAny_bind (wpAny_standAt (wpAny_bind (wpAny_mono g1 (fun b s5 ⟨hb, hs⟩ => ?_) fun zz zz h => h.elim)))
 subst hb hs
 have key : ∀ (t' : Option Expr) (o iv : Value), ∃ l, subscripted (.Slice l' u' t' q) false o iv = operate l (getItem o iv) := fun t' o iv => by
  cases t' <;> exact ⟨_, rfl⟩
 refine Vc.xa_1_1 (key t' co (.ref s4.heap.objs.size)) fun l0 e0 => ?_
 rw [e0]
 refine wpAny_bind (wpAny_operateT (wpAny_mono g2 (fun cr s6 h6 => ?_) fun zz zz h => h.back st))
 exact wpAny_bind (wpAny_letTemporaryGo (wpAny_pure (h6.back st)))
noncomputable def SndB (C : Cx) (d : Md) (op : BoolOp) (es : List Ex) (es' : List Expr) (vs : Vs) (ns : Ns) : Prop :=
 ∀ env A s ρ H Q X pos, EnvS env vs ns -> EA A env -> Ok C d H A s -> FI C env vs ρ H s.heap -> wpB C d op es ρ H Q X -> wpAny C.M A (boolOp pos op (evalEach es' env)) (QP C H s Q) (XQ false C No H s X) s
theorem sndB_one {op : BoolOp} {e : Ex} {e' : Expr} (h : SndE C d e e' vs ns) : SndB C d op [e] [e'] vs ns := by
 intro env A s ρ H Q X pos ES ea ok fi W
 dsimp only [wpB] at W
 exact h env A s ρ H Q X ES ea ok fi W
theorem sndB_more {op : BoolOp} {e e2 : Ex} {es : List Ex} {e' e2' : Expr} {es' : List Expr} (h : SndE C d e e' vs ns) (hs : SndB C d op (e2 :: es) (e2' :: es') vs ns) : SndB C d op (e :: e2 :: es) (e' :: e2' :: es') vs ns := by
 intro env A s ρ H Q X pos ES ea ok fi W
 dsimp only [wpB] at W
 ·show wpAny C.M A (do
   let v <- eval e' env
   standAt pos
   let t <- holding [v] (truthy v)
   match op, t with
   | .And, false | .Or, true => pure v
   | _, _ => boolOp pos op (evalEach (e2' :: es') env)) _ _ s
  refine wpAny_bind (wpAny_mono (h env A s ρ H _ X ES ea ok fi W) (fun cv s1 hq5 => Vc.xa_2_3 hq5 fun v H1 st1 r1 W1 => ?_) fun zz zz h => h)
  refine wpAny_bind (wpAny_standAt (wpAny_bind (wpAny_holding (wpAny_mono (W1 A s1 cv (ok.step st1) r1) (fun t s2 hq6 => Vc.xa_1_2 hq6 fun H2 st2 W2 => ?_) fun zz zz h => h.back st1))))
  have st := st1.trans st2
  cases op <;> cases t <;> simp at W2
  ·exact wpAny_pure ⟨v, H2, st, r1.keep st2.vk, W2⟩
  ·exact wp_back st (hs env A s2 ρ H2 Q X pos ES ea (ok.step st) (fi.stepN st) W2)
  ·exact wp_back st (hs env A s2 ρ H2 Q X pos ES ea (ok.step st) (fi.stepN st) W2)
  ·exact wpAny_pure ⟨v, H2, st, r1.keep st2.vk, W2⟩
noncomputable def SndA (C : Cx) (d : Md) (op : BoolOp) (es : List Ex) (es' : List Expr) (vs : Vs) (ns : Ns) : Prop :=
 ∀ env A s ρ H (Q : Bool -> MH -> Prop) X, EnvS env vs ns -> EA A env -> Ok C d H A s -> FI C env vs ρ H s.heap -> wpA C d op es ρ H Q X -> wpAny C.M A (allTrue op es' env) (fun b s' => ∃ H', Step C No H s H' s' /\ Q b H') (XQ false C No H s X) s
theorem sndA_nil {op : BoolOp} : SndA C d op [] [] vs ns := by
 intro env A s ρ H Q X ES ea ok fi W
 dsimp only [wpA] at W
 show wpAny C.M A (pure (op == .And)) _ _ s
 refine wpAny_pure ⟨H, ok.refl, ?_⟩
 cases op <;> exact W
theorem sndA_cons {op : BoolOp} {e : Ex} {es : List Ex} {e' : Expr} {es' : List Expr} (h : SndT C d e e' vs ns) (hs : SndA C d op es es' vs ns) : SndA C d op (e :: es) (e' :: es') vs ns := by
 intro env A s ρ H Q X ES ea ok fi W
 dsimp only [wpA] at W
 show wpAny C.M A (do
  match op, <- isTrue e' env (eval e' env) with
  | .And, false => pure false
  | .Or, true => pure true
  | _, _ => allTrue op es' env) _ _ s
 refine wpAny_bind (wpAny_mono (h env A s ρ H _ X ES ea ok fi W) (fun t s1 hq7 => Vc.xa_1_2 hq7 fun H1 st1 W1 => ?_) fun zz zz h => h)
 have nx : wpA C d op es ρ H1 Q X -> wpAny C.M A (allTrue op es' env) (fun b s' => ∃ H', Step C No H s H' s' /\ Q b H') (XQ false C No H s X) s1 := fun W1 =>
  wpAny_mono (hs env A s1 ρ H1 Q X ES ea (ok.step st1) (fi.stepN st1) W1) (fun b s2 hq8 => Vc.xa_1_2 hq8 fun H2 st2 W2 => ⟨H2, st1.trans st2, W2⟩) fun zz zz h => h.back st1
 cases op <;> cases t <;> simp at W1
 ·exact wpAny_pure ⟨H1, st1, W1⟩
 ·exact nx W1
 ·exact nx W1
 ·exact wpAny_pure ⟨H1, st1, W1⟩
noncomputable def SndTs (C : Cx) (d : Md) (es : List Ex) (es' : List Expr) (vs : Vs) (ns : Ns) : Prop :=
 ∀ env A s ρ H (Q : Bool -> MH -> Prop) X, EnvS env vs ns -> EA A env -> Ok C d H A s -> FI C env vs ρ H s.heap -> wpTs C d es ρ H Q X -> wpAny C.M A (testsOf es' env) (fun b s' => ∃ H', Step C No H s H' s' /\ Q b H') (XQ false C No H s X) s
theorem sndTs_nil : SndTs C d [] [] vs ns := by
 intro env A s ρ H Q X ES ea ok fi W
 dsimp only [wpTs] at W
 exact wpAny_pure ⟨H, ok.refl, W⟩
theorem tests_false {es' : List Expr} {P : Bool -> Shared -> Prop} {E : Value -> Shared -> Prop} (h : P false s) :
  wpAny C.M A (forIn es' false fun c r => if r = true then do let ok <- isTrue c env (eval c env); pure (ForInStep.yield ok) else pure (ForInStep.yield r)) P E s := by
 induction es' with
 | nil => exact wpAny_pure h
 | cons e es ih =>
  rw [List.forIn_cons]
  simp only [Bool.false_eq_true, if_false]
  exact wpAny_bind (wpAny_pure ih)
theorem sndTs_cons {e : Ex} {es : List Ex} {e' : Expr} {es' : List Expr} (h : SndT C d e e' vs ns) (hs : SndTs C d es es' vs ns) : SndTs C d (e :: es) (e' :: es') vs ns := by
 intro env A s ρ H Q X ES ea ok fi W
 dsimp only [wpTs] at W
 unfold testsOf
 rw [List.forIn_cons]
 simp only [if_true]
 refine wpAny_bind (wpAny_bind (wpAny_mono (h env A s ρ H _ X ES ea ok fi W) (fun t s1 hq9 => Vc.xa_1_2 hq9 fun H1 st1 W1 => ?_) fun zz zz h => h))
 refine wpAny_pure ?_
 cases t with
 | true =>
  rw [if_pos rfl] at W1
  exact wpAny_mono (hs env A s1 ρ H1 Q X ES ea (ok.step st1) (fi.stepN st1) W1) (fun b s2 hq10 => Vc.xa_1_2 hq10 fun H2 st2 W2 => ⟨H2, st1.trans st2, W2⟩) fun zz zz h => h.back st1
 | false =>
  rw [if_neg (by decide)] at W1
  exact tests_false ⟨H1, st1, W1⟩
theorem sndT_not {e : Ex} {e' : Expr} {p : Pos} (h : SndT C d e e' vs ns) : SndT C d (.una .Not e) (.UnaryOp .Not e' p) vs ns := by
 intro env A s ρ H Q X ES ea ok fi W
 dsimp only [wpT] at W
 exact wpAny_isTrue_Not (wpAny_mono (h env A s ρ H _ X ES ea ok fi W) (fun b s1 hq11 => Vc.xa_1_2 hq11 fun H1 st1 W1 => ⟨H1, st1, W1⟩) fun zz zz h => h)
theorem sndT_bop {op : BoolOp} {es : List Ex} {es' : List Expr} {p : Pos} (h : SndA C d op es es' vs ns) : SndT C d (.bop op es) (.BoolOp op es' p) vs ns := by
 intro env A s ρ H Q X ES ea ok fi W
 dsimp only [wpT] at W
 exact wpAny_isTrue_BoolOp (h env A s ρ H _ X ES ea ok fi W)
theorem sndT_ife {c a b : Ex} {c' a' b' : Expr} {p : Pos} (hc : SndT C d c c' vs ns) (ha : SndT C d a a' vs ns) (hb : SndT C d b b' vs ns) : SndT C d (.ife c a b) (.IfExp c' a' b' p) vs ns := by
 intro env A s ρ H Q X ES ea ok fi W
 dsimp only [wpT] at W
 show wpAny C.M A (do if <- isTrue c' env (eval c' env) then isTrue a' env (eval a' env) else isTrue b' env (eval b' env)) _ _ s
 refine wpAny_bind (wpAny_mono (hc env A s ρ H _ X ES ea ok fi W) (fun t s1 hq12 => Vc.xa_1_2 hq12 fun H1 st1 W1 => ?_) fun zz zz h => h)
 cases t with
 | true => rw [if_pos rfl] at W1 ⊢; exact wpAny_mono (ha env A s1 ρ H1 _ X ES ea (ok.step st1) (fi.stepN st1) W1) (fun b s2 hq13 => Vc.xa_1_2 hq13 fun H2 st2 W2 => ⟨H2, st1.trans st2, W2⟩) fun zz zz h => h.back st1
 | false => rw [if_neg (by decide)] at W1 ⊢; exact wpAny_mono (hb env A s1 ρ H1 _ X ES ea (ok.step st1) (fi.stepN st1) W1) (fun b s2 hq14 => Vc.xa_1_2 hq14 fun H2 st2 W2 => ⟨H2, st1.trans st2, W2⟩) fun zz zz h => h.back st1
theorem sndT_val {e : Ex} {e' : Expr} (he : isTrue e' = fun env whole => (do let v <- whole; standAt e'.pos; holding [v] (truthy v))) (hw : ∀ ρ H Q X, wpT C d e ρ H Q X = wpE C d e ρ H (fun v H1 => TruW C d v H1 Q X) X) (h : SndE C d e e' vs ns) : SndT C d e e' vs ns := by
 intro env A s ρ H Q X ES ea ok fi W
 rw [hw] at W
 refine wpAny_isTrue_value ?_ (by rw [he])
 refine wpAny_mono (h env A s ρ H _ X ES ea ok fi W) (fun cv s1 hq15 => Vc.xa_2_3 hq15 fun v H1 st1 r1 W1 => ?_) fun zz zz h => h
 exact wpAny_mono (W1 A s1 cv (ok.step st1) r1) (fun b s2 hq16 => Vc.xa_1_2 hq16 fun H2 st2 W2 => ⟨H2, st1.trans st2, W2⟩) fun zz zz h => h.back st1
end
end Vc
end
section
namespace Vc
open PySem
section
variable {C : Cx} {d : Md} {env : Env} {vs : Vs} {ns : Ns} {ρ : Lo} {H H1 H' : MH} {s s1 s' : Shared} {A : Around} {X : XP} {Q : V -> MH -> Prop}
noncomputable def AllE (C : Cx) (d : Md) (vs : Vs) (ns : Ns) : List Ex -> List Expr -> Prop
 | [], [] => True
 | e :: es, e' :: es' => SndE C d e e' vs ns /\ AllE C d vs ns es es'
 | _, _ => False
noncomputable def AllT (C : Cx) (d : Md) (vs : Vs) (ns : Ns) : List Ex -> List Expr -> Prop
 | [], [] => True
 | e :: es, e' :: es' => SndT C d e e' vs ns /\ AllT C d vs ns es es'
 | _, _ => False
theorem AllE.es : ∀ {es : List Ex} {es' : List Expr}, chkEs vs ns es es' = true -> AllE C d vs ns es es' -> SndEs C d es es' vs ns
 | [], [], _, _ => sndEs_nil
 | e :: es, e' :: es', h, a => by
  have h := Bool.and_eq_true_iff.mp (show (chkE vs ns e e' && chkEs vs ns es es') = true from h)
  exact sndEs_cons (chk_notStar h.1) a.1 (a.2.es h.2)
 | [], _ :: _, _, a => a.elim
 | _ :: _, [], _, a => a.elim
theorem AllE.b {op : BoolOp} : ∀ {es : List Ex} {es' : List Expr}, AllE C d vs ns es es' -> SndB C d op es es' vs ns
 | [], [], _ => by intro env A s ρ H Q X pos ES ea ok fi W; dsimp only [wpB] at W; exact W.elim
 | [_], [_], a => sndB_one a.1
 | _ :: e2 :: es, _ :: e2' :: es', a => sndB_more a.1 (AllE.b (es := e2 :: es) (es' := e2' :: es') a.2)
 | [], _ :: _, a => a.elim
 | _ :: _, [], a => a.elim
 | [_], _ :: _ :: _, a => a.2.elim
 | _ :: _ :: _, [_], a => a.2.elim
theorem AllT.a {op : BoolOp} : ∀ {es : List Ex} {es' : List Expr}, AllT C d vs ns es es' -> SndA C d op es es' vs ns
 | [], [], _ => sndA_nil
 | _ :: _, _ :: _, a => sndA_cons a.1 a.2.a
 | [], _ :: _, a => a.elim
 | _ :: _, [], a => a.elim
theorem AllT.ts : ∀ {es : List Ex} {es' : List Expr}, AllT C d vs ns es es' -> SndTs C d es es' vs ns
 | [], [], _ => sndTs_nil
 | _ :: _, _ :: _, a => sndTs_cons a.1 a.2.ts
 | [], _ :: _, a => a.elim
 | _ :: _, [], a => a.elim
theorem Step.adopt {a : Addr} {o : O} (x : Step C No H s H' s') (hn : s.heap.get? a = none) (ho : OR C s'.heap a o) : Step C No H s (upd H' a o) s' where
 rel := fun b ob e => by
  by_cases q : b = a
  ·subst q; rw [upd_self] at e; cases e; exact ho
  ·rw [upd_ne q] at e; exact x.rel b ob e
 chg := x.chg
 top := x.top
 dom := fun b e => by
  by_cases q : b = a
  ·subst q; rw [upd_self]; rfl
  ·rw [upd_ne q]; exact x.dom b e
 new := fun b e => by
  by_cases q : b = a
  ·subst q; exact .inr hn
  ·rw [upd_ne q] at e; exact x.new b e
 dn := fun zz f => f.elim
 vk := x.vk
 gens := x.gens
 os := x.os
theorem folded {it' : Expr} {x : Value} (h : notSet it' = true) : foldedSetIterable it' env x = pure x := by
 cases it' <;> first | rfl | (exact (Bool.false_ne_true h).elim)
theorem Step.after {Cn : Addr} {Hc : MH} {D : Addr -> Prop} {h' : Heap} (st : Step C D H1 s1 Hc s') (hC : s1.heap.get? Cn = none) (hHC : Hc Cn = none) (top1 : C.h0.StaysIn s1.heap)
  (hl : ∀ o, s'.heap.get? Cn = some o -> Loose o) (sb : Heap.SameBut Cn s'.heap h') : Step C D H1 s1 Hc { s' with heap := h' } := by
 have vs : VS s'.heap h' := ⟨fun b o e so => (sb.2 b fun q => (hl o (q ▸ e)).not_solid so).trans e, fun b o ws r e c dd => ⟨o, ws, (sb.2 b fun q => (hl o (q ▸ e)).not_exc c dd).trans e, ⟨rfl, rfl⟩, dd, rfl⟩⟩
 have old : ∀ b o, s1.heap.get? b = some o -> b ≠ Cn := fun b o e q => by rw [q, hC] at e; cases e
 refine ⟨fun b o e => ?_, fun b o e n nd => ?_, fun b o e => ?_, st.dom, st.new, st.dn, ⟨fun b o e so => ?_, fun b o ws r e c dd => ?_, fun b o es ep e dd => ?_⟩, st.gens, st.os⟩
 ·exact (st.rel b o e).keepS vs fun ob w => (sb.2 b fun q => by rw [q, hHC] at e; cases e).trans w
 ·refine Vc.xa_1_2 (st.chg b o e n nd) fun sl w q => ?_
  exact ⟨sl, (sb.2 b (old b o e)).trans w, q⟩
 ·exact (sb.2 b (old b o (top1 b o e))).trans (st.top b o e)
 ·exact (sb.2 b (old b o e)).trans (st.vk.solid b o e so)
 ·refine Vc.xa_2_2 (st.vk.exc b o ws r e c dd) fun o' ws' w r' => ?_
  exact ⟨o', ws', (sb.2 b (old b o e)).trans w, r'⟩
 ·refine Vc.xa_3_2 (st.vk.dct b o es ep e dd) fun o' es' ep' w r' => ?_
  exact ⟨o', es', ep', (sb.2 b (old b o e)).trans w, r'⟩
theorem di_new {I Dl Cn : Addr} (h1 : s1.heap.get? I = none) (h2 : s1.heap.get? Dl = none) (h3 : s1.heap.get? Cn = none) : ∀ b, DI I Dl Cn b -> s1.heap.get? b = none := fun b hb => by
 rcases hb with rfl | rfl | rfl
 ·exact h1
 ·exact h2
 ·exact h3
theorem Step.shed {D : Addr -> Prop} (st : Step C D H s H' s') (hD : ∀ b, D b -> s.heap.get? b = none) : Step C No H s H' s' := st.narrow (fun zz f => f.elim) fun b hb => .inr (hD b hb)
theorem ns_loose {h : Heap} {Cn : Addr} {m : Str -> Option Value} (hm : h.Ns Cn m) : ∀ o, h.get? Cn = some o -> Loose o := fun o e => by
 refine Vc.xa_3_3 hm fun o' es ep ho hd zz => ?_
 try clear hm
 rw [ho] at e
 cases e
 exact .inl ⟨es, ep, hd⟩
theorem vs_but {h h' : Heap} {Cn : Addr} (hlo : ∀ o, h.get? Cn = some o -> Loose o) (sb : Heap.SameBut Cn h h') : VS h h' :=
 ⟨fun b o e so => (sb.2 b fun q => (hlo o (q ▸ e)).not_solid so).trans e, fun b o ws r e c dd => ⟨o, ws, (sb.2 b fun q => (hlo o (q ▸ e)).not_exc c dd).trans e, ⟨rfl, rfl⟩, dd, rfl⟩⟩
theorem comp_bad {I Dl Cn : Addr} {e : Value} (ok1 : Ok C d H1 A s1) (hI : s1.heap.get? I = none) (hDl : s1.heap.get? Dl = none) (hCn : s1.heap.get? Cn = none)
  (x : XG true C (DI I Dl Cn) H1 s1 (fun c H h => X c H /\ H Cn = none /\ ∃ m, h.Ns Cn m) e s') : ∃ m, s'.heap.Ns Cn m /\ ∀ h', Heap.SameBut Cn s'.heap h' -> XQ true C No H1 s1 X e { s' with heap := h' } := by
 obtain ⟨a, c, Hc, rfl, st, hD, fl, hX, hcC, m, hm⟩ := x
 refine ⟨m, hm, fun h' sb => ?_⟩
 have st' := (st.after hCn hcC ok1.top (ns_loose hm) sb).shed (di_new hI hDl hCn)
 have hne : ∀ b o, s'.heap.get? b = some o -> (∃ vs, o.data = .fields vs) -> b ≠ Cn := fun b o e ⟨vs, hv⟩ q => by
  refine Vc.xa_3_3 hm fun o' es ep ho hd zz => ?_
  try clear hm
  rw [q, ho] at e
  cases e
  rw [hd] at hv
  cases hv
 have fl' : Fly C true s1 a c h' := by
  obtain ⟨new, o, ws, r, h1, h2, h3, h4, h5, h6, h7⟩ := fl
  refine ⟨new, o, ws, r, (sb.2 a (hne a o h1 ⟨ws, h4⟩)).trans h1, h2, h3, h4, h5, h6.keep (vs_but (ns_loose hm) sb) rfl, h7.imp id ?_⟩
  rintro ⟨T, oT, ts, g1, g2, g3, g4, g5, g6, g7⟩
  exact ⟨T, oT, ts, g1, g2, g3, (sb.2 T (hne T oT g4 ⟨ts, g6⟩)).trans g4, g5, g6, g7⟩
 exact ⟨a, c, Hc, rfl, st', fun zz f => f.elim, fl', hX⟩
theorem FI.closed (fi : FI C env vs ρ H s.heap) {l : Ns} (hfr : ∀ x ∈ l, x.2 = .free -> (x.1, Vk.cel) ∈ vs) : ∀ x ∈ l, x.2 = .free -> (env.cells.lookup x.1).isSome = true := fun x hx e => by
 refine Vc.xa_1_1 (List.mem_iff_getElem?.mp (hfr x hx e)) fun i hi => ?_
 refine Vc.xa_2_2 (fi.cel i x.1 hi) fun c oc h1 zz => ?_
 rw [h1]; rfl
theorem snd_comp {elt it : Ex} {ifs : List Ex} {elt' it' t' : Expr} {ifs' : List Expr} {sc : Scope} {p : Pos} {tg : List Str} (ht : tgt? t' = some tg) (hl : ∀ x ∈ tg, sc.names.lookup x = some .local) (nd : tg.Nodup) (hk : sc.kind = .function)
  (hnc : ∀ x ∈ sc.names, x.2 ≠ .cell) (hnl : ∀ x ∈ sc.names, x.2 = .local -> sc.names.lookup x.1 = some .local) (hfr : ∀ x ∈ sc.names, x.2 = .free -> (x.1, Vk.cel) ∈ vs) (hns : notSet it' = true)
  (hit : SndE C d it it' vs ns) (hE : SndE C d elt elt' (innerVs vs (relab sc.names ns) tg) (relab sc.names ns)) (hT : SndTs C d ifs ifs' (innerVs vs (relab sc.names ns) tg) (relab sc.names ns)) :
  SndE C d (.comp tg.length elt it ifs) (.ListComp elt' [⟨t', it', ifs', 0⟩] sc p) vs ns := by
 intro env A s ρ H Q X ES ea ok fi W
 dsimp only [wpE] at W
 have hf := fi.closed hfr
 rw [eval_ListComp]
 refine wpAny_comprehension_free (use := none) rfl (fun x => folded hns) (closure_of hf) hk hnl ?_
 refine wpAny_mono (hit env A s ρ H _ X ES ea ok fi W) (fun civ s1 hzz => qp_e hzz fun iv H1 st1 r1 hzw => ?_) fun zz zz h => h
 refine Vc.xa_1_4 hzw fun all hq hi hsz W1 => ?_
 try clear hzw
 have ok1 := ok.step st1
 refine iter_of ok1 hq r1 hi fun I s2 st2 hI hit2 => ?_
 refine comp_core (E := XQ false C No H s X) ES ea ok1 (fi.stepN st1) ht hl nd hk hnc hf (fun env' s H ρ' Q e1 e2 e3 e4 w => hT env' A s ρ' H Q X e1 e2 e3 e4 w) (fun env' s H ρ' Q e1 e2 e3 e4 w => hE env' A s ρ' H Q X e1 e2 e3 e4 w) hq hsz W1 st2 hI hit2
  (fun Dl Cn s' av Hc items st hDl hCn hDC hcD hcC pl rs hm hK => ?_) (fun Dl Cn s' e hDl hCn x => ?_)
 ·refine Vc.xa_1_1 hm fun m hm => ?_
  refine ⟨m, hm, fun h' sb => ?_⟩
  have hlo := ns_loose hm
  have st' := (st.after hCn hcC ok1.top hlo sb).shed (di_new hI hDl hCn)
  have pl' : h'.PlainList Dl items := pl.at fun o e => (sb.2 Dl hDC).trans e
  exact ⟨.ref Dl, upd Hc Dl (.lst av), st1.trans (st'.adopt hDl ⟨fresh_top ok1.top hDl, items, pl', rs.keepS (vs_but hlo sb)⟩), rfl, hK.2 Dl hcD⟩
 ·exact (comp_bad ok1 hI hDl hCn x).imp fun m y => ⟨y.1, fun h' sb cenv' hcl => passing stX_up ok1 (y.2 h' sb) fun s'' x'' => (XG.mono x'').back st1⟩
end
end Vc
end
section
namespace Vc
open PySem
section
variable {C : Cx} {d : Md} {env : Env} {vs : Vs} {ns : Ns} {ρ : Lo} {H H1 H' : MH} {s s1 s' : Shared} {A : Around} {X : XP} {Q : V -> MH -> Prop}
theorem chkK_e {P : List (Option Expr) -> Prop} {k : String} {ks : List String} {ks0 : List (Option Expr)} (h : chkK (k :: ks) ks0 = true) (q : ∀ c p r, chkK ks r = true -> P (some (.Constant (.str (Str.ofString k)) c p) :: r)) : P ks0 :=
 pC_e h fun o r h => pO_e (P := fun o => P (o :: r)) h fun e h => pCst_e (P := fun e => P (some e :: r)) h fun v c p h => dc_e' (P := fun v => P (some (.Constant v c p) :: r)) (and_l h) (q c p r (and_r h))
theorem chkK_len : ∀ {ks : List String} {ks' : List (Option Expr)}, chkK ks ks' = true -> ks.length = ks'.length /\ ks'.all (·.isSome) = true
 | [], _, h => em_e (P := fun l : List (Option Expr) => 0 = l.length /\ l.all (·.isSome) = true) h ⟨rfl, rfl⟩
 | _ :: _, _, h => chkK_e (P := fun l : List (Option Expr) => _ + 1 = l.length /\ l.all (·.isSome) = true) h fun zz zz zz h => ⟨congrArg (· + 1) (chkK_len h).1, (chkK_len h).2⟩
noncomputable def KeyRow : List String -> List Value -> Prop
 | [], [] => True
 | k :: ks, v :: vs => (∃ t, v = .str (Str.ofString k) t) /\ KeyRow ks vs
 | _, _ => False
noncomputable def SW (C : Cx) (A : Around) (env : Env) (H : MH) (s : Shared) (Q : V -> MH -> Prop) (E : Value -> Shared -> Prop) (e' : Expr) : Prop :=
 wpAny C.M A (eval e' env) (fun v s' => ∃ r H', Step C No H s H' s' /\ VR C s'.heap r v /\ Q r H' /\ ∀ b o, s.heap.get? b = some o -> s'.heap.get? b = some o) E s
theorem sw_emp {p : Pos} {E : Value -> Shared -> Prop} (ok : Ok C d H A s) (W : NewL [] H Q) : SW C A env H s Q E (.List [] p) := by
 unfold SW
 rw [arm_eval_List]
 refine wpAny_bind (wpAny_standAt (wpAny_bind (Calls.spliced_nil ?_)))
 refine wpAny_newObj_type ?_ (by size_fits)
 have hf : H s.heap.objs.size = none := ok.rel.fresh (fresh_size _)
 exact ⟨.ref s.heap.objs.size, _, Step.alloc (o := .lst []) ok.rel ok.top ⟨fresh_top ok.top (fresh_size _), #[], ⟨0, Heap.get?_push_size _ rfl⟩, VRs.nil⟩ rfl rfl rfl, by dsimp only [VR], W.2 _ hf, fun b o e => Heap.get?_push_of_some _ e⟩
theorem sw_int {i : Int} {k : Nat} {p : Pos} {E : Value -> Shared -> Prop} (ok : Ok C d H A s) (W : Q (.int i) H) : SW C A env H s Q E (.Constant (.int i) k p) := by
 unfold SW
 rw [arm_eval_Constant]
 exact wpAny_mkInt ⟨.int i, H, ok.toks _, by dsimp only [VR]; exact ⟨_, rfl⟩, W, fun zz zz e => e⟩
theorem simple_walk {e : Ex} {e' : Expr} {Q : V -> MH -> Prop} {E : Value -> Shared -> Prop} (hs : simpE e = true) (hc : chkE vs ns e e' = true) (ES : EnvS env vs ns) (ok : Ok C d H A s) (fi : FI C env vs ρ H s.heap) (W : wpE C d e ρ H Q X) :
  SW C A env H s Q E e' := by
 cases e with
 | nm i =>
  refine Vc.xa_1_2 W fun v l w => ?_
  try clear W
  exact iv_nm (P := SW C A env H s Q E) hc fun id p h1 h2 => wpAny_Name (load_nm ES fi h1 l fun cv r => ⟨v, H, ok.refl, r, w, fun zz zz e => e⟩) h2
 | ci i => exact cst_e (P := SW C A env H s Q E) hc fun k p => sw_int ok W
 | cs x => exact cst_e (P := SW C A env H s Q E) hc fun k p => Calls.Constant_str ⟨.str (Str.ofString x), H, ok.toks _, by dsimp only [VR]; exact ⟨_, rfl⟩, W, fun zz zz e => e⟩
 | cb b => exact cst_e (P := SW C A env H s Q E) hc fun k p => wpAny_pure ⟨.bool b, H, ok.refl, by dsimp only [VR], W, fun zz zz e => e⟩
 | cn => exact cst_e (P := SW C A env H s Q E) hc fun k p => wpAny_pure ⟨.none, H, ok.refl, by dsimp only [VR], W, fun zz zz e => e⟩
 | lst es =>
  cases es with
  | cons _ _ => exact (Bool.false_ne_true hs).elim
  | nil => exact pLst_e (P := SW C A env H s Q E) hc fun es' p h => em_e (P := fun es' => SW C A env H s Q E (.List es' p)) h (sw_emp ok W)
 | _ => exact (Bool.false_ne_true hs).elim
noncomputable def PW (C : Cx) (A : Around) (env : Env) (pos : Pos) (H : MH) (s : Shared) (Q : List V -> MH -> Prop) (E : Value -> Shared -> Prop) (ks : List String) (ks' : List (Option Expr)) (es' : List Expr) : Prop :=
 wpAny C.M A (evalPairs (pairTrees ks' es' env pos)) (fun prs s' => ∃ xs H', Step C No H s H' s' /\ VRs C s'.heap xs (prs.map (·.2)) /\ KeyRow ks (prs.map (·.1)) /\ Q xs H' /\ ∀ b o, s.heap.get? b = some o -> s'.heap.get? b = some o) E s
theorem pairs_walk (pos : Pos) {E : Value -> Shared -> Prop} (ES : EnvS env vs ns) : ∀ {ks : List String} {es : List Ex} {ks' : List (Option Expr)} {es' : List Expr} {s : Shared} {H : MH} {Q : List V -> MH -> Prop}, chkK ks ks' = true -> chkEs vs ns es es' = true -> (∀ e ∈ es, simpE e = true) -> ks.length = es.length -> Ok C d H A s -> FI C env vs ρ H s.heap -> wpEs C d es ρ H Q X ->
  PW C A env pos H s Q E ks ks' es'
 | [], [], ks', es', s, H, Q => fun hk hc zz zz ok fi W => em_e (P := fun es' => PW C A env pos H s Q E [] ks' es') hc (em_e (P := fun ks' => PW C A env pos H s Q E [] ks' []) hk
   (pairTrees_nil_walk ⟨[], H, ok.refl, VRs.nil, trivial, W, fun zz zz e => e⟩))
 | k :: ks, e :: es, ks0, es0, s, H, Q => fun hk hc hs hl ok fi W => by
  refine iv_cons (P := fun es0 => PW C A env pos H s Q E (k :: ks) ks0 es0) hc fun e' es' hc1 hc2 => chkK_e (P := fun ks0 => PW C A env pos H s Q E (k :: ks) ks0 (e' :: es')) hk fun c p ks' hk3 => ?_
  refine pairTrees_cons_walk (Calls.Constant_str ?_)
  have st0 : Step C No H s H { s with toks := s.toks + 1 } := ok.toks _
  refine wpAny_mono (simple_walk (E := E) (hs e (.head _)) hc1 ES (ok.step st0) (fi.stepN st0) W) (fun cv s1 hq1 => Vc.xa_2_4 hq1 fun v H1 st1 r1 W1 k1 => ?_) fun zz zz h => h
  have st := st0.trans st1
  refine wpAny_mono (pairs_walk pos (E := E) ES hk3 hc2 (fun e he => hs e (.tail _ he)) (Nat.succ.inj hl) (ok.step st) (fi.stepN st) W1) (fun prs s2 hzz => ?_) fun zz zz h => h
  refine Vc.xa_2_5 hzz fun xs H2 st2 r2 kr W2 k2 => ?_
  try clear hzz
  exact ⟨v :: xs, H2, st.trans st2, VRs.cons (r1.keep st2.vk) r2, ⟨⟨_, rfl⟩, kr⟩, W2, fun b o e => k2 b o (k1 b o e)⟩
 | _ :: _, [], _, _, _, _, _ => fun zz zz zz hl zz zz zz => by cases hl
 | [], _ :: _, _, _, _, _, _ => fun zz zz zz hl zz zz zz => by cases hl
theorem carries_row : ∀ {ks : List String} {prs : List (Value × Value)}, KeyRow ks (prs.map (·.1)) -> Carries (strKind C.prog C.w) prs ((ks.map Str.ofString).zip (prs.map (·.2)))
 | [], [], _ => trivial
 | k :: ks, (key, v) :: prs, h => by
  refine Vc.xa_0_2 h fun ho73_0 h2 => ?_
  try clear h
  obtain ⟨t, e⟩ := ho73_0
  refine ⟨?_, rfl, carries_row h2⟩
  have e' : key = .str (Str.ofString k) t := e
  rw [e']; exact strKind_is C.prog C.w _ t
 | [], _ :: _, h => h.elim
 | _ :: _, [], h => h.elim
theorem merged_new {K : Type} [DecidableEq K] : ∀ {kvs acc : List (K × Value)}, ((acc ++ kvs).map (·.1)).Nodup -> merged acc kvs = acc ++ kvs
 | [], acc, _ => by simp [merged]
 | (k, v) :: r, acc, h => by
  have h1 : stored acc k v = acc ++ [(k, v)] := by
   unfold stored
   rw [if_neg]
   intro hc
   refine Vc.xa_1_2 (List.any_eq_true.mp hc) fun x hx he => ?_
   have he' : x.1 = k := by simpa using he
   simp only [List.map_append, List.map_cons] at h
   have := List.nodup_append.mp h
   exact this.2.2 x.1 (List.mem_map_of_mem hx) k (.head _) he'
  show merged (stored acc k v) r = _
  rw [h1]
  have : acc ++ (k, v) :: r = (acc ++ [(k, v)]) ++ r := by simp
  rw [this] at h ⊢
  exact merged_new h
theorem keys_zip : ∀ {ks : List Str} {prs : List Value}, ks.length = prs.length -> (ks.zip prs).map (·.1) = ks /\ (ks.zip prs).map (·.2) = prs
 | [], [], _ => ⟨rfl, rfl⟩
 | k :: ks, p :: prs, h => by have := keys_zip (ks := ks) (prs := prs) (by simpa using h); simp [this.1, this.2]
 | [], _ :: _, h => by simp at h
 | _ :: _, [], h => by simp at h
theorem keys_zipV : ∀ {ks : List Str} {xs : List V}, ks.length = xs.length -> (ks.zip xs).map (·.1) = ks /\ (ks.zip xs).map (·.2) = xs
 | [], [], _ => ⟨rfl, rfl⟩
 | k :: ks, p :: prs, h => by have := keys_zipV (ks := ks) (xs := prs) (by simpa using h); simp [this.1, this.2]
 | [], _ :: _, h => by simp at h
 | _ :: _, [], h => by simp at h
theorem snd_dct {ks : List String} {es : List Ex} {ks' : List (Option Expr)} {es' : List Expr} {p : Pos} (G : C.Good) (h0 : ks ≠ []) (h15 : ks.length <= 15) (hl : ks.length = es.length) (hk : chkK ks ks' = true) (hc : chkEs vs ns es es' = true) (hs : ∀ e ∈ es, simpE e = true) :
  SndE C d (.dct ks es) (.Dict ks' es' p) vs ns := by
 intro env A s ρ H Q X ES ea ok fi W
 dsimp only [wpE] at W
 have hkl := chkK_len hk
 have hne : ks' ≠ [] := fun q => h0 (by have := hkl.1; rw [q] at this; exact List.length_eq_zero_iff.mp this)
 refine wpAny_Dict_walk (knd := strKind C.prog C.w) hkl.2 (by rw [<- hkl.1, hl, chk_len hc]) hne (by (clear hl; omega)) ?_
 have st0 : Step C No H s H { s with heap := s.heap.push { cls := .type "dict", data := .dict #[] } } := Step.keeps ok.rel ok.top (fun b o e => Heap.get?_push_of_some _ e) rfl rfl
 have hm0 : (s.heap.push { cls := .type "dict", data := .dict #[] }).DictOf (strKind C.prog C.w) s.heap.objs.size [] := ⟨_, #[], 0, Heap.get?_push_size _ rfl, ⟨rfl, rfl, rfl⟩, rfl, fun zz he => by simp at he, .nil, by simp⟩
 refine wpAny_mono (pairs_walk (E := XQ false C No H s X) p ES hk hc hs hl (ok.step st0) (fi.stepN st0) W) (fun prs s1 hzz => ?_) fun zz zz h => h
 refine Vc.xa_2_5 hzz fun xs H1 st1 r1 kr W1 k1 => ?_
 try clear hzz
 refine Vc.xa_0_4 W1 fun w1 w2 w3 w4 => ?_
 try clear W1
 have hfr : s.heap.get? s.heap.objs.size = none := fresh_size _
 have hH : H s.heap.objs.size = none := ok.rel.fresh hfr
 have hH1 : H1 s.heap.objs.size = none := st1.gone (Heap.get?_push_size _ rfl) hH
 have ok1 := ok.step (st0.trans st1)
 refine Vc.xa_3_4 hm0 fun o es0 ep ho hx hd r0 => ?_
 try clear hm0
 have hw := k1 _ o ho
 refine ⟨_, carries_row kr, ⟨o, es0, ep, hw, hx, hd, r0⟩, fun h' hm' sb => ?_⟩
 have hlp : ks.length = prs.length := by have := r1.length; rw [List.length_map] at this; (clear h15 hl hkl w2 r0; omega)
 have hz := keys_zip (ks := ks.map Str.ofString) (prs := prs.map (·.2)) (by simp [hlp])
 have hzv := keys_zipV (ks := ks.map Str.ofString) (xs := xs) (by simp [w1])
 have hnd : (ks.map Str.ofString).Nodup := w3
 have hmg : merged [] ((ks.map Str.ofString).zip (prs.map (·.2))) = (ks.map Str.ofString).zip (prs.map (·.2)) := by
  have := merged_new (kvs := (ks.map Str.ofString).zip (prs.map (·.2))) (acc := []) (by rw [List.nil_append, hz.1]; exact hnd)
  simpa using this
 rw [hmg] at hm'
 have ste : Step C (· = s.heap.objs.size) H1 s1 H1 { s1 with heap := h', toks := s1.toks + prs.length } := by
  refine Step.but ok1.rel ok1.top (fun b ob e n => (sb.2 b n).trans e) (fun b e => e ▸ hH1) (fun b e => e ▸ fresh_top ok.top hfr) (fun b ob e q => ?_) (fun b ob es ep e q z => ?_) rfl rfl
  ·subst q; rw [hw] at e; cases e; exact .inl ⟨_, _, hd⟩
  ·subst q; obtain ⟨o', es', ep', ho', _, hd', _⟩ := hm'; exact ⟨o', es', ep', ho', hd'⟩
 have st : Step C No H s H1 { s1 with heap := h', toks := s1.toks + prs.length } := (st0.trans st1).trans_new ste (fun b q => by subst q; exact hfr) (fun zz f => f.elim)
 refine ⟨.ref s.heap.objs.size, _, st.adopt (o := .dcs ((ks.map Str.ofString).zip xs)) hfr ⟨fresh_top ok.top hfr, not_sys G ok, _, hm', ?_, ?_⟩, rfl, w4 _ hH1⟩
 ·rw [hz.1, hzv.1]
 ·rw [hz.2, hzv.2]; exact r1.keep ste.vk
end
end Vc
end
section
namespace Vc
open PySem
section
variable {C : Cx} {d : Md}
noncomputable def SX (C : Cx) (d : Md) (e : Ex) (vs : Vs) (ns : Ns) (e' : Expr) : Prop := SndE C d e e' vs ns /\ SndT C d e e' vs ns
theorem sx_val {e : Ex} {e' : Expr} {vs : Vs} {ns : Ns} (h : SndE C d e e' vs ns) (hw : ∀ ρ H Q X, wpT C d e ρ H Q X = wpE C d e ρ H (fun v H1 => TruW C d v H1 Q X) X) (he : isTrue e' = fun env whole => (do let v <- whole; standAt e'.pos; holding [v] (truthy v))) : SX C d e vs ns e' := ⟨h, sndT_val he hw h⟩
theorem snd_simp {e : Ex} {e' : Expr} {vs : Vs} {ns : Ns} (hs : simpE e = true) (hc : chkE vs ns e e' = true) : SndE C d e e' vs ns := fun env A s ρ H Q X ES ea ok fi W =>
 wpAny_mono (simple_walk (E := XQ false C No H s X) hs hc ES ok fi W) (fun v s' hq1 => Vc.xa_2_4 hq1 fun r H' a b c zz => ⟨r, H', a, b, c⟩) fun zz zz h => h
theorem sx_cst {e : Ex} {e' : Expr} {vs : Vs} {ns : Ns} {c : Const} (hs : simpE e = true) (hw : ∀ ρ H Q X, wpT C d e ρ H Q X = wpE C d e ρ H (fun v H1 => TruW C d v H1 Q X) X) (hc : chkE vs ns e e' = true) (h : pCst e' (fun d zz zz => decide (d = c)) = true) : SX C d e vs ns e' :=
 cst_e (P := fun e' => chkE vs ns e e' = true -> SX C d e vs ns e') h (fun k p hc => sx_val (snd_simp hs hc) hw rfl) hc
theorem snd_gl (G : C.Good) {x : String} {id : Str} {p : Pos} {vs : Vs} {ns : Ns} (h1 : gOk ns x id = true) : SndE C d (.gl x) (.Name id p) vs ns := fun env A s ρ H Q X ES ea ok fi hq2 => Vc.xa_2_3 hq2 fun v cv g r w =>
 load_gl G ES h1 ok.top g ⟨v, H, ok.refl, top_vr ok.top r, w⟩
theorem sx_una {op : UnaryOp} {e : Ex} {x : Expr} {p : Pos} {vs : Vs} {ns : Ns} (h : SX C d e vs ns x) : SX C d (.una op e) vs ns (.UnaryOp op x p) := by
 refine ⟨snd_una h.1, ?_⟩
 cases op with
 | Not => exact sndT_not h.2
 | _ => exact sndT_val rfl (fun ρ H Q X => rfl) (snd_una h.1)
theorem snd_bop {op : BoolOp} {es : List Ex} {es' : List Expr} {p : Pos} {vs : Vs} {ns : Ns} (h : SndB C d op es es' vs ns) : SndE C d (.bop op es) (.BoolOp op es' p) vs ns := fun env A s ρ H Q X ES ea ok fi W => by
 rw [arm_eval_BoolOp]
 exact h env A s ρ H Q X p ES ea ok fi W
theorem sndO_of {e : Ex} {o : Option Expr} {vs : Vs} {ns : Ns} (h : chkO vs ns e o = true) (k : ∀ e', chkE vs ns e e' = true -> SndE C d e e' vs ns) : SndO C d e o vs ns := by
 cases o with
 | some e' => exact k e' h
 | none => exact Ex.cn.elim (motive_1 := fun e => SndO C d e none vs ns) e (of_decide_eq_true h) sndO_none
mutual
theorem sX (G : C.Good) : ∀ (e : Ex) (e' : Expr) (vs : Vs) (ns : Ns), chkE vs ns e e' = true -> SX C d e vs ns e'
 | .nm i, e', vs, ns, hc => iv_nm (P := fun e' => chkE vs ns (.nm i) e' = true -> SX C d (.nm i) vs ns e') hc (fun id p h1 h2 hc => sx_val (snd_simp rfl hc) (fun zz zz zz zz => rfl) rfl) hc
 | .gl x, e', vs, ns, hc => iv_gl (P := SX C d (.gl x) vs ns) hc fun id p h1 => sx_val (snd_gl G h1) (fun zz zz zz zz => rfl) rfl
 | .ci i, e', vs, ns, hc => sx_cst rfl (fun zz zz zz zz => rfl) hc hc
 | .cs i, e', vs, ns, hc => sx_cst rfl (fun zz zz zz zz => rfl) hc hc
 | .cb i, e', vs, ns, hc => sx_cst rfl (fun zz zz zz zz => rfl) hc hc
 | .cn, e', vs, ns, hc => sx_cst rfl (fun zz zz zz zz => rfl) hc hc
 | .bin op l r, e', vs, ns, hc => iv_bin (P := SX C d (.bin op l r) vs ns) hc fun l' r' p h1 h2 => sx_val (snd_bin (sX G l l' vs ns h1).1 (sX G r r' vs ns h2).1) (fun zz zz zz zz => rfl) rfl
 | .una op e, e', vs, ns, hc => iv_una (P := SX C d (.una op e) vs ns) hc fun x p h1 => sx_una (sX G e x vs ns h1)
 | .cmp op l r, e', vs, ns, hc => iv_cmp (P := SX C d (.cmp op l r) vs ns) hc fun l' r' p h0 h1 h2 => ⟨snd_cmp h0 (sX G l l' vs ns h1).1 (sX G r r' vs ns h2).1, sndT_cmp h0 (sX G l l' vs ns h1).1 (sX G r r' vs ns h2).1⟩
 | .cmp2 o1 o2 l m r, e', vs, ns, hc => iv_cmp2 (P := SX C d (.cmp2 o1 o2 l m r) vs ns) hc fun l' m' r' p h0 h1 h2 h3 => ⟨snd_cmp2 h0 (sX G l l' vs ns h1).1 (sX G m m' vs ns h2).1 (sX G r r' vs ns h3).1, sndT_cmp2 h0 (sX G l l' vs ns h1).1 (sX G m m' vs ns h2).1 (sX G r r' vs ns h3).1⟩
 | .bop op es, e', vs, ns, hc => iv_bop (P := SX C d (.bop op es) vs ns) hc fun es' p h1 => ⟨snd_bop (sXs G es es' vs ns h1).1.b, sndT_bop (sXs G es es' vs ns h1).2.a⟩
 | .ife c a b, e', vs, ns, hc => iv_ife (P := SX C d (.ife c a b) vs ns) hc fun c' a' b' p h1 h2 h3 => ⟨snd_ife (sX G c c' vs ns h1).2 (sX G a a' vs ns h2).1 (sX G b b' vs ns h3).1, sndT_ife (sX G c c' vs ns h1).2 (sX G a a' vs ns h2).2 (sX G b b' vs ns h3).2⟩
 | .lst es, e', vs, ns, hc => pLst_e (P := SX C d (.lst es) vs ns) hc fun es' p h1 => sx_val (snd_lst ((sXs G es es' vs ns h1).1.es h1)) (fun zz zz zz zz => rfl) rfl
 | .tup es, e', vs, ns, hc => pTup_e (P := SX C d (.tup es) vs ns) hc fun es' k p h1 => sx_val (snd_tup ((sXs G es es' vs ns h1).1.es h1)) (fun zz zz zz zz => rfl) rfl
 | .emp k, e', vs, ns, hc => iv_emp (P := SX C d (.emp k) vs ns) hc fun p => sx_val (snd_emp G) (fun zz zz zz zz => rfl) rfl
 | .dct ks es, e', vs, ns, hc => iv_dct (P := SX C d (.dct ks es) vs ns) hc fun ks' es' p h0 h1 h2 h3 h4 h5 => sx_val (snd_dct G h0 h1 h2 h4 h5 h3) (fun zz zz zz zz => rfl) rfl
 | .sub o i, e', vs, ns, hc => iv_sub (P := SX C d (.sub o i) vs ns) hc fun o' i' p h0 h1 h2 => sx_val (snd_sub h0 (sX G o o' vs ns h1).1 (sX G i i' vs ns h2).1) (fun zz zz zz zz => rfl) rfl
 | .sli o l u t, e', vs, ns, hc => iv_sli (P := SX C d (.sli o l u t) vs ns) hc fun o' l' u' t' q p h1 h2 h3 h4 => sx_val (snd_sli (sX G o o' vs ns h1).1 (sndO_of h2 fun x h => (sX G l x vs ns h).1) (sndO_of h3 fun x h => (sX G u x vs ns h).1) (sndO_of h4 fun x h => (sX G t x vs ns h).1)) (fun zz zz zz zz => rfl) rfl
 | .call f es, e', vs, ns, hc => iv_call (P := SX C d (.call f es) vs ns) hc fun id q es' p h1 h2 => sx_val (snd_call G h1 h2 ((sXs G es es' vs ns h2).1.es h2)) (fun zz zz zz zz => rfl) rfl
 | .meth o m es, e', vs, ns, hc => iv_meth (P := SX C d (.meth o m es) vs ns) hc fun o' ap es' p h0 h1 h2 h3 h4 => sx_val (snd_meth h0 h1 h2 h4 (sX G o o' vs ns h3).1 ((sXs G es es' vs ns h4).1.es h4)) (fun zz zz zz zz => rfl) rfl
 | .att o a, e', vs, ns, hc => iv_att (P := SX C d (.att o a) vs ns) hc fun o' p h0 h1 => sx_val (snd_att h0 (sX G o o' vs ns h1).1) (fun zz zz zz zz => rfl) rfl
 | .comp k elt it ifs, e', vs, ns, hc => iv_comp (P := SX C d (.comp k elt it ifs) vs ns) hc fun elt' t' it' ifs' sc p tg h0 h1 t h8 h9 h10 h11 =>
   h1 ▸ sx_val (snd_comp h0 t.loc t.nd t.kind t.nc t.nl t.fr h8 (sX G it it' vs ns h9).1 (sX G elt elt' _ _ h10).1 (sXs G ifs ifs' _ _ h11).2.ts) (fun zz zz zz zz => rfl) rfl
theorem sXs (G : C.Good) : ∀ (es : List Ex) (es' : List Expr) (vs : Vs) (ns : Ns), chkEs vs ns es es' = true -> AllE C d vs ns es es' /\ AllT C d vs ns es es'
 | [], es', vs, ns, hc => iv_nil (P := fun l => AllE C d vs ns [] l /\ AllT C d vs ns [] l) hc ⟨trivial, trivial⟩
 | e :: es, es', vs, ns, hc => by
  refine iv_cons (P := fun l => AllE C d vs ns (e :: es) l /\ AllT C d vs ns (e :: es) l) hc fun e1 es1 h1 h2 => ?_
  exact ⟨⟨(sX G e e1 vs ns h1).1, (sXs G es es1 vs ns h2).1⟩, ⟨(sX G e e1 vs ns h1).2, (sXs G es es1 vs ns h2).2⟩⟩
end
theorem sE (G : C.Good) (e : Ex) (e' : Expr) (vs : Vs) (ns : Ns) (h : chkE vs ns e e' = true) : SndE C d e e' vs ns := (sX G e e' vs ns h).1
theorem sT (G : C.Good) (e : Ex) (e' : Expr) (vs : Vs) (ns : Ns) (h : chkE vs ns e e' = true) : SndT C d e e' vs ns := (sX G e e' vs ns h).2
theorem sAll (G : C.Good) (es : List Ex) (es' : List Expr) (vs : Vs) (ns : Ns) (h : chkEs vs ns es es' = true) : AllE C d vs ns es es' := (sXs G es es' vs ns h).1
theorem sAllT (G : C.Good) (es : List Ex) (es' : List Expr) (vs : Vs) (ns : Ns) (h : chkEs vs ns es es' = true) : AllT C d vs ns es es' := (sXs G es es' vs ns h).2
end
end Vc
end
section
namespace Vc
open PySem
structure Itr (C : Cx) (d : Md) (sv : Sv) (t' : Expr) (I : Addr) (Is : Addr -> Prop) (At : Heap -> Nat -> Prop) : Prop where
 keep : ∀ {D : Addr -> Prop} {H H' : MH} {s s' : Shared} {i : Nat}, At s.heap i -> Step C D H s H' s' -> (∀ b, Is b -> H b = none) -> (∀ b, Is b -> ¬ D b) -> At s'.heap i
 ex : ∀ {h : Heap} {i : Nat}, At h i -> ∀ b, Is b -> ∃ o vs, h.get? b = some o /\ o.data = .fields vs
 item : ∀ {H : MH} {s : Shared} {A : Around} {i : Nat} {all : List V} {x : V} {P : Value -> Shared -> Prop} {E : Value -> Shared -> Prop}, Ok C d H A s -> At s.heap i -> (∀ b, Is b -> H b = none) -> (∀ b, Is b -> C.h0.get? b = none) ->
  svItems H sv = some all -> all[i]? = some x -> (∀ cv s', Step C Is H s H s' -> VR C s'.heap x cv -> At s'.heap (i + 1) -> P cv s') ->
  wpAny C.M A (pyNext (.ref I)) (fun r s1 => ∃ cv, r = some cv /\ wpAny C.M A (letOwnedTupleGo t' (.ref I) cv) (fun zz s2 => P cv s2) E s1) E s
 done : ∀ {H : MH} {s : Shared} {A : Around} {i : Nat} {all : List V} {P : Shared -> Prop} {E : Value -> Shared -> Prop}, Ok C d H A s -> At s.heap i -> (∀ b, Is b -> H b = none) -> (∀ b, Is b -> C.h0.get? b = none) ->
  svItems H sv = some all -> all.length <= i -> (∀ s', Step C Is H s H s' -> P s') -> wpAny C.M A (pyNext (.ref I)) (fun r s1 => r = none /\ P s1) E s
section
variable {C : Cx} {d : Md} {t' : Expr} {I : Addr}
theorem itr_pl {iv : V} (hq : Itq d iv) : Itr C d (.pl iv) t' I (· = I) (fun h i => ItAt C h iv I i) where
 keep := fun x y hI hD => x.step y (hI I rfl) (hD I rfl)
 ex := fun x b hb => by subst hb; obtain ⟨o, T, vs, h1, _, _, _, h3⟩ := x.there; exact ⟨o, vs, h1, h3⟩
 item := fun ok it hI h0 hi hx hP => next_item ok it (hI I rfl) (h0 I rfl) hi hx fun s' cv st it' vr => ⟨cv, rfl, it_go it' (hP cv s' st vr it')⟩
 done := fun ok it hI h0 hi hx hP => next_end ok hq it (hI I rfl) (h0 I rfl) hi hx fun s' st => ⟨rfl, hP s' st⟩
theorem enumd_get : ∀ {l : List V} {n i : Nat} {x : V}, (enumd n l)[i]? = some x -> ∃ y, l[i]? = some y /\ x = .tup [.int ((n + i : Nat) : Int), y]
 | [], _, _, _, h => by simp [enumd] at h
 | y :: l, n, 0, x, h => by simp [enumd] at h; exact ⟨y, rfl, by rw [<- h]; simp⟩
 | y :: l, n, i + 1, x, h => by
  simp only [enumd, List.getElem?_cons_succ] at h
  refine Vc.xa_1_2 (enumd_get h) fun z h1 h2 => ?_
  exact ⟨z, by simpa using h1, by rw [h2]; congr 3; omega⟩
theorem enumd_length : ∀ (l : List V) (n : Nat), (enumd n l).length = l.length
 | [], _ => rfl
 | _ :: l, n => by simp [enumd, enumd_length l]
noncomputable def EnAt (a e it : Addr) (h : Heap) (i : Nat) : Prop := (∃ old, IsEnum h e it i old) /\ h.IsListIter it a i
theorem itr_en {a e it : Addr} {es : List Expr} {k : Nat} {p : Pos} (hq : d.q = true) (hne : e ≠ it) : Itr C d (.en (.ref a)) (.Tuple es k p) e (fun b => b = e ∨ b = it) (EnAt a e it) where
 keep := fun {D H H' s s' i} x y hI hD => by
  obtain ⟨⟨old, h1⟩, o, h2, h3, h4⟩ := x
  refine ⟨⟨old, ?_⟩, o, ?_, h3, h4⟩
  ·refine Vc.xa_1_2 (y.chg e _ h1 (hI e (.inl rfl)) (hD e (.inl rfl))) fun sl w q => ?_
   rw [q (by intro es ep z; cases z)] at w; exact w
  ·refine Vc.xa_1_2 (y.chg it _ h2 (hI it (.inr rfl)) (hD it (.inr rfl))) fun sl w q => ?_
   rw [q (by intro es ep z; rw [h4] at z; cases z)] at w; exact w
 ex := fun x b hb => by
  obtain ⟨⟨old, h1⟩, o, h2, h3, h4⟩ := x
  rcases hb with rfl | rfl
  ·exact ⟨_, _, h1, rfl⟩
  ·exact ⟨o, _, h2, h4⟩
 item := fun {H s A i all x P E} ok at_ hI h0 hi hx hP => by
  refine Vc.xa_0_2 at_ fun ho54_0 h2 => ?_
  try clear at_
  obtain ⟨old, h1⟩ := ho54_0
  simp only [svItems] at hi
  refine Vc.xa_1_2 (Option.map_eq_some_iff.mp hi) fun l hl hr56_2 => ?_
  subst hr56_2
  refine Vc.xa_1_2 (enumd_get hx) fun y hy hr57_2 => ?_
  subst hr57_2
  refine Vc.xa_1_2 (list_of ok.rel hl) fun items hL rs => ?_
  refine Vc.xa_1_2 (rs.get hy) fun cv e1 e2 => ?_
  refine wpAny_pyNext_enum_item h1 h2 hL (x := cv) (by simpa using e1) hne fun h' ho hit' htp hsz kp => ?_
  refine ⟨_, rfl, ?_⟩
  refine wpAny_letOwnedTupleGo_enum ho fun h'' he'' sb => ?_
  refine Vc.xa_1_3 (id h2) fun o2 g2 g3 g4 => ?_
  have loose : ∀ b o, s.heap.get? b = some o -> (b = e ∨ b = it) -> Loose o /\ ∀ es ep, o.data ≠ .dict es ep := fun b o w hb => by
   rcases hb with rfl | rfl
   ·rw [h1] at w; cases w; exact ⟨.inr (.inr ⟨"enumerate", rfl, by decide, by decide⟩), by intro es ep z; cases z⟩
   ·rw [g2] at w; cases w; exact ⟨.inr (.inr ⟨_, g3, by decide, by decide⟩), by intro es ep z; rw [g4] at z; cases z⟩
  have st : Step C (fun b => b = e ∨ b = it) H s H { s with heap := h'', toks := s.toks + 1 } := by
   refine Step.but ok.rel ok.top (fun b o w nb => ?_) hI h0 (fun b o w hb => (loose b o w hb).1) (fun b o es ep w hb z => ((loose b o w hb).2 es ep z).elim) rfl rfl
   have n1 : b ≠ e := fun q => nb (.inl q)
   have n2 : b ≠ it := fun q => nb (.inr q)
   exact (sb.2 b n1).trans (kp b o n1 n2 w)
  refine hP _ _ st ?_ ⟨⟨cv, by have : ((i : Int) + 1) = ((i + 1 : Nat) : Int) := by (clear hne hsz; omega)
                               rw [<- this]; exact he''⟩, ?_⟩
  ·dsimp only [VR]
   have htp' : h''.get? s.heap.objs.size = some { cls := .type "tuple", data := .seq #[.int (i : Int) s.toks, cv] } := by
    rw [sb.2 _ (fun q => ?_)]
    ·exact htp
    ·have := Heap.lt_size h1; rw [<- q] at this; exact absurd this (Nat.lt_irrefl _)
   refine ⟨_, #[.int (i : Int) s.toks, cv], ⟨rfl, .of htp' rfl⟩, ⟨_, htp', rfl, 0, rfl⟩, ?_⟩
   ·show VRs C h'' [V.int ((0 + i : Nat) : Int), y] [.int (i : Int) s.toks, cv]
    exact VRs.cons (by dsimp only [VR]; exact ⟨s.toks, by simp⟩) (VRs.cons (e2.keep st.vk) VRs.nil)
  ·refine Vc.xa_1_2 hit' fun o3 g5 g6 => ?_
   try clear hit'
   exact ⟨o3, (sb.2 it (Ne.symm hne)).trans g5, g6⟩
 done := fun {H s A i all P E} ok at_ hI h0 hi hx hP => by
  refine Vc.xa_0_2 at_ fun ho86_0 h2 => ?_
  try clear at_
  obtain ⟨old, h1⟩ := ho86_0
  simp only [svItems] at hi
  refine Vc.xa_1_2 (Option.map_eq_some_iff.mp hi) fun l hl hr88_2 => ?_
  subst hr88_2
  rw [enumd_length] at hx
  refine Vc.xa_1_2 (list_of ok.rel hl) fun items hL rs => ?_
  have hlen := rs.length
  refine wpAny_pyNext_enum_end (ok.hnd.1 hq) h1 h2 hL (by rw [Array.getElem?_eq_none_iff]; simp at hlen; (clear hne; omega)) fun h' eb => ⟨rfl, hP _ ?_⟩
  refine Vc.xa_1_3 (id h2) fun o2 g2 g3 g4 => ?_
  have loose : ∀ b o, s.heap.get? b = some o -> (b = e ∨ b = it) -> Loose o /\ ∀ es ep, o.data ≠ .dict es ep := fun b o w hb => by
   rcases hb with rfl | rfl
   ·rw [h1] at w; cases w; exact ⟨.inr (.inr ⟨"enumerate", rfl, by decide, by decide⟩), by intro es ep z; cases z⟩
   ·rw [g2] at w; cases w; exact ⟨.inr (.inr ⟨_, g3, by decide, by decide⟩), by intro es ep z; rw [g4] at z; cases z⟩
  refine Step.but ok.rel ok.top (fun b o w nb => eb b o (fun q => nb (.inr q)) w) hI h0 (fun b o w hb => (loose b o w hb).1) (fun b o es ep w hb z => ((loose b o w hb).2 es ep z).elim) rfl rfl
end
end Vc
end
section
namespace Vc
open PySem
noncomputable def FlR (C : Cx) (h : Heap) : Fl -> Flow -> Prop
 | .next, f => f = .next
 | .ret v, f => ∃ cv, f = .ret cv /\ VR C h v cv
noncomputable def SP (C : Cx) (env : Env) (vs : Vs) (D : Addr -> Prop) (H : MH) (s : Shared) (K : KP) (fl : Flow) (s' : Shared) : Prop :=
 ∃ f ρ' H', Step C D H s H' s' /\ FI C env vs ρ' H' s'.heap /\ FlR C s'.heap f fl /\ K f ρ' H'
noncomputable def XSt (C : Cx) (env : Env) (vs : Vs) (X : XS) : XH := fun c H h => ∃ ρ', FI C env vs ρ' H h /\ X c ρ' H
theorem sp_e {P : Prop} {C : Cx} {env : Env} {vs : Vs} {D : Addr -> Prop} {H : MH} {s : Shared} {K : KP} {fl : Flow} {s' : Shared} (h : SP C env vs D H s K fl s') (k : ∀ f ρ' H', Step C D H s H' s' -> FI C env vs ρ' H' s'.heap -> FlR C s'.heap f fl -> K f ρ' H' -> P) : P := h.elim fun f h => h.elim fun ρ h => h.elim fun H' h => k f ρ H' h.1 h.2.1 h.2.2.1 h.2.2.2
section
variable {C : Cx} {d : Md} {env : Env} {vs : Vs} {ns : Ns} {ρ : Lo} {H H1 H' : MH} {s s1 s' s'' : Shared} {A : Around} {K : KP} {X : XS} {D : Addr -> Prop}
theorem stX_St : StX C (XSt C env vs X) := fun c H s s' D st hrec hX => by
 refine Vc.xa_1_2 hX fun ρ' fi x => ?_
 try clear hX
 refine ⟨ρ', fi.step st (fun q => ?_) fun z c e q => ?_, x⟩
 ·refine Vc.xa_1_2 fi.ns fun m ho22_1 zz => ?_
  obtain ⟨o, es, ep, ho, hd, _⟩ := ho22_1
  refine Vc.xa_1_1 (hrec _ o q ho) fun ws w => ?_
  rw [hd] at w
  cases w
 ·obtain ⟨_, _, oc, o, ho, hd⟩ := fi.cex z c e
  refine Vc.xa_1_1 (hrec _ o q ho) fun ws w => ?_
  rw [hd] at w
  cases w
theorem old_ofD (x : Step C D H s H' s') (hx : ∀ b, D b -> ∃ o, s'.heap.get? b = some o) {b : Addr} (e : s'.heap.get? b = none) : s.heap.get? b = none := by
 cases q : s.heap.get? b with
 | none => rfl
 | some o =>
  by_cases u : (H b).isSome = true
  ·refine Vc.xa_1_1 (x.rel.there (x.dom b u)) fun ob w => ?_
   rw [e] at w
   cases w
  ·by_cases dd : D b
   ·refine Vc.xa_1_1 (hx b dd) fun ob w => ?_
    rw [e] at w
    cases w
   ·refine Vc.xa_1_2 (x.chg b o q (by simpa using u) dd) fun sl w zz => ?_
    rw [e] at w
    cases w
theorem Fly.backD {tr : Bool} {a : Addr} {c : String} {h : Heap} (st : Step C D H s H' s') (hx : ∀ b, D b -> ∃ o, s'.heap.get? b = some o) (x : Fly C tr s' a c h) : Fly C tr s a c h := by
 obtain ⟨new, o, ws, r, h1, h2, h3, h4, h5, h6, h7⟩ := x
 exact ⟨old_ofD st hx new, o, ws, r, h1, h2, h3, h4, h5, h6, h7.imp id fun hq1 => Vc.xa_3_3 hq1 fun T oT ts g1 g2 g3 => ⟨T, oT, ts, g1, old_ofD st hx g2, g3⟩⟩
theorem XG.backD {tr : Bool} {X : XH} {e : Value} (st : Step C D H s H' s') (hx : ∀ b, D b -> ∃ o, s'.heap.get? b = some o) (x : XG tr C D H' s' X e s'') : XG tr C D H s X e s'' := by
 refine Vc.xa_3_5 x fun a c H2 h1 h2 h3 h4 h5 => ?_
 try clear x
 exact ⟨a, c, H2, h1, st.trans h2, h3, h4.backD st hx, h5⟩
theorem SP.back {fl : Flow} (st : Step C D H s H' s') (x : SP C env vs D H' s' K fl s'') : SP C env vs D H s K fl s'' := by
 refine Vc.xa_3_4 x fun f ρ' H2 h1 h2 h3 h4 => ?_
 try clear x
 exact ⟨f, ρ', H2, st.trans h1, h2, h3, h4⟩
theorem XG.toS {e : Value} (fi : FI C env vs ρ H s.heap) (x : XQ false C No H s (fun c H1 => X c ρ H1) e s') : XG false C (Dm env) H s (XSt C env vs X) e s' := by
 refine Vc.xa_3_5 x fun a c H2 h1 h2 h3 h4 h5 => ?_
 try clear x
 exact ⟨a, c, H2, h1, h2.weaken fi.dm, (fi.stepN h2).dm, h4, ρ, fi.stepN h2, h5⟩
noncomputable def SndS (C : Cx) (d : Md) (t : St) (t' : Stmt) (vs : Vs) (ns : Ns) : Prop :=
 ∀ env A s ρ H K X, EnvS env vs ns -> EA A env -> Ok C d H A s -> FI C env vs ρ H s.heap -> wpS C d t ρ H K X -> wpAny C.M A (exec t' env) (SP C env vs (Dm env) H s K) (XG false C (Dm env) H s (XSt C env vs X)) s
noncomputable def SndSs (C : Cx) (d : Md) (t : List St) (t' : List Stmt) (vs : Vs) (ns : Ns) : Prop :=
 ∀ env A s ρ H K X, EnvS env vs ns -> EA A env -> Ok C d H A s -> FI C env vs ρ H s.heap -> wpSs C d t ρ H K X -> wpAny C.M A (execs t' env) (SP C env vs (Dm env) H s K) (XG false C (Dm env) H s (XSt C env vs X)) s
theorem sndS_ret {e : Ex} {e' : Expr} {p : Pos} (h : SndE C d e e' vs ns) : SndS C d (.ret e) (.Return (some e') p) vs ns := by
 intro env A s ρ H K X ES ea ok fi W
 dsimp only [wpS] at W
 exact wpAny_Return_some (wpAny_mono (h env A s ρ H _ _ ES ea ok fi W) (fun cv s1 hq2 => Vc.xa_2_3 hq2 fun v H1 st1 r1 W1 => ⟨.ret v, ρ, H1, st1.weaken fi.dm, fi.stepN st1, ⟨cv, rfl, r1⟩, W1⟩) fun zz zz x => x.toS fi)
theorem swaps_no {e' : Expr} {t : Option Expr} {n : Nat} (h : notComp e' = true) : swapsWith e' t n env = pure false := by
 cases e' <;> first | exact @Eq.refl _ (pure false : Sem Bool) | (exact (Bool.false_ne_true h).elim)
theorem stores_no {e' : Expr} {ts : List Expr} {k : Nat} {q : Pos} (h : notTuple e' = true) : swappedStores [.Tuple ts k q] e' env = pure none := by
 cases e' <;> first | exact @Eq.refl _ (pure none : Sem (Option (List Str))) | (exact (Bool.false_ne_true h).elim)
theorem not_inter (ES : EnvS env vs ns) : interactive env = false := by unfold interactive; rw [ES.kind]; rfl
theorem sndS_exp {e : Ex} {e' : Expr} {p : Pos} (hn : notComp e' = true) (h : SndE C d e e' vs ns) : SndS C d (.exp e) (.Expr e' p) vs ns := by
 intro env A s ρ H K X ES ea ok fi W
 dsimp only [wpS] at W
 exact wpAny_Expr_any (wpAny_mono (h env A s ρ H _ _ ES ea ok fi W) (fun cv s1 hq3 => Vc.xa_2_3 hq3 fun v H1 st1 r1 W1 => ⟨.next, ρ, H1, st1.weaken fi.dm, fi.stepN st1, rfl, W1⟩) fun zz zz x => x.toS fi) (not_inter ES) (swaps_no hn)
theorem sndS_ife {c : Ex} {a b : List St} {c' : Expr} {a' b' : List Stmt} {p : Pos} (hc : SndT C d c c' vs ns) (ha : SndSs C d a a' vs ns) (hb : SndSs C d b b' vs ns) : SndS C d (.ife c a b) (.If c' a' b' p) vs ns := by
 intro env A s ρ H K X ES ea ok fi W
 dsimp only [wpS] at W
 refine wpAny_If (wpAny_mono (hc env A s ρ H _ _ ES ea ok fi W) (fun t s1 hq4 => Vc.xa_1_2 hq4 fun H1 st1 W1 => ?_) fun zz zz x => x.toS fi)
 have st := st1.weaken fi.dm
 cases t with
 | true => rw [if_pos rfl] at W1 ⊢; exact wpAny_mono (ha env A s1 ρ H1 K X ES ea (ok.step st1) (fi.stepN st1) W1) (fun zz zz h => h.back st) fun zz zz h => h.backD st (fi.stepN st1).dm
 | false => rw [if_neg (by decide)] at W1 ⊢; exact wpAny_mono (hb env A s1 ρ H1 K X ES ea (ok.step st1) (fi.stepN st1) W1) (fun zz zz h => h.back st) fun zz zz h => h.backD st (fi.stepN st1).dm
theorem sndS_pas {p : Pos} : SndS C d .pas (.Pass p) vs ns := by
 intro env A s ρ H K X ES ea ok fi W
 dsimp only [wpS] at W
 exact wpAny_Pass ⟨.next, ρ, H, ok.refl, fi, rfl, W⟩
theorem sndSs_nil : SndSs C d [] [] vs ns := by
 intro env A s ρ H K X ES ea ok fi W
 dsimp only [wpSs] at W
 exact wpAny_execs_nil ⟨.next, ρ, H, ok.refl, fi, rfl, W⟩
theorem sndSs_cons {t : St} {ts : List St} {t' : Stmt} {ts' : List Stmt} (h : SndS C d t t' vs ns) (hs : SndSs C d ts ts' vs ns) : SndSs C d (t :: ts) (t' :: ts') vs ns := by
 intro env A s ρ H K X ES ea ok fi W
 dsimp only [wpSs] at W
 refine wpAny_execs_cons (wpAny_mono (h env A s ρ H _ X ES ea ok fi W) (fun fl s1 hzz => sp_e hzz fun f ρ1 H1 st1 fi1 fr W1 => ?_) fun zz zz x => x)
 cases f with
 | next =>
  cases fr
  exact wpAny_mono (hs env A s1 ρ1 H1 K X ES ea (ok.step st1) fi1 W1) (fun zz zz h => h.back st1) fun zz zz h => h.backD st1 fi1.dm
 | ret v =>
  refine Vc.xa_1_2 fr fun cv hr107_1 r => ?_
  try clear fr
  subst hr107_1
  exact ⟨.ret v, ρ1, H1, st1, fi1, ⟨cv, rfl, r⟩, W1⟩
theorem sndS_asg {i : Nat} {e : Ex} {id : Str} {q p : Pos} {e' : Expr} (hv : vOk vs i id = true) (h : SndE C d e e' vs ns) (hn : notComp e' = true) : SndS C d (.asg i e) (.Assign [.Name id q] e' p) vs ns := by
 intro env A s ρ H K X ES ea ok fi W
 dsimp only [wpS] at W
 refine wpAny_Assign_Name (wpAny_mono (h env A s ρ H _ _ ES ea ok fi W) (fun cv s1 hq5 => Vc.xa_2_3 hq5 fun v H1 st1 r1 W1 => ?_) fun zz zz x => x.toS fi) (swaps_no hn)
 refine store_one ES (ok.step st1) (fi.stepN st1) hv r1 fun s2 st2 fi2 => ?_
 exact ⟨.next, _, H1, (st1.weaken fi.dm).trans (st2.widen fun b hb => dx_dm hb), fi2, rfl, W1⟩
end
end Vc
end
section
namespace Vc
open PySem
section
variable {C : Cx} {d : Md} {env : Env} {vs : Vs} {ns : Ns} {ρ : Lo} {H H1 H' : MH} {s s1 s' s'' : Shared} {A : Around} {K : KP} {X : XS} {D : Addr -> Prop}
theorem FI.letgo {Cn : Addr} {h h' : Heap} (fi : FI C env vs ρ H h) (hL : env.locals ≠ Cn) (hc : ∀ x c, env.cells.lookup x = some c -> c ≠ Cn) (hlo : ∀ o, h.get? Cn = some o -> Loose o) (sb : Heap.SameBut Cn h h') : FI C env vs ρ H h' := by
 have vsx := vs_but hlo sb
 refine Vc.xa_1_2 fi.ns fun m3 hn3 hr3 => ?_
 refine ⟨fi.len, fi.locH, fi.loc0, ⟨m3, hn3.sameBut sb hL, fun j x v e l => ?_⟩, fun j x e => ?_, fun x c e => ?_⟩
 ·refine Vc.xa_1_2 (hr3 j x v e l) fun cv e1 e2 => ?_
  exact ⟨cv, e1, e2.keepS vsx⟩
 ·refine Vc.xa_2_5 (fi.cel j x e) fun c oc g1 g2 g3 g4 g5 => ?_
  exact ⟨c, oc, g1, g2, g3, g4.sameBut sb (hc x c g1), fun v l => (g5 v l).imp fun zz q => ⟨q.1, q.2.keepS vsx⟩⟩
 ·obtain ⟨g1, g2, oc, g3⟩ := fi.cex x c e
  exact ⟨g1, g2, oc, g3.sameBut sb (hc x c e)⟩
theorem FI.new {Cn : Addr} {h : Heap} (fi : FI C env vs ρ H h) (hC : h.get? Cn = none) : ¬ Dm env Cn := fun hb => by
 rcases hb with e | ⟨x, e⟩
 ·refine Vc.xa_1_2 fi.ns fun m ho21_1 zz => ?_
  obtain ⟨o, _, _, ho, _⟩ := ho21_1
  rw [<- e, hC] at ho
  cases ho
 ·obtain ⟨_, _, oc, o, ho, _⟩ := fi.cex x Cn e
  rw [hC] at ho
  cases ho
theorem sndS_asgC {i : Nat} {id : Str} {q p0 : Pos} (hv : vOk vs i id = true)
  {elt it : Ex} {ifs : List Ex} {elt' it' t' : Expr} {ifs' : List Expr} {sc : Scope} {p : Pos} {tg : List Str} (ht : tgt? t' = some tg) (hl : ∀ x ∈ tg, sc.names.lookup x = some .local) (nd : tg.Nodup) (hk : sc.kind = .function)
  (hnc : ∀ x ∈ sc.names, x.2 ≠ .cell) (hnl : ∀ x ∈ sc.names, x.2 = .local -> sc.names.lookup x.1 = some .local) (hfr : ∀ x ∈ sc.names, x.2 = .free -> (x.1, Vk.cel) ∈ vs) (hns : notSet it' = true)
  (hit : SndE C d it it' vs ns) (hE : SndE C d elt elt' (innerVs vs (relab sc.names ns) tg) (relab sc.names ns)) (hT : SndTs C d ifs ifs' (innerVs vs (relab sc.names ns) tg) (relab sc.names ns)) :
  SndS C d (.asg i (.comp tg.length elt it ifs)) (.Assign [.Name id q] (.ListComp elt' [⟨t', it', ifs', 0⟩] sc p) p0) vs ns := by
 intro env A s ρ H K X ES ea ok fi W
 have hsnd := snd_comp (p := p) ht hl nd hk hnc hnl hfr hns hit hE hT
 dsimp only [wpS] at W
 have hsw : ∃ b, swapsWith (.ListComp elt' [⟨t', it', ifs', 0⟩] sc p) (some (.Name id q)) p0.line env = pure b := ⟨_, rfl⟩
 refine Vc.xa_1_1 hsw fun b hsw => ?_
 cases b with
 | false =>
  refine wpAny_Assign_Name (wpAny_mono (hsnd env A s ρ H _ _ ES ea ok fi W) (fun cv s1 hq1 => Vc.xa_2_3 hq1 fun v H1 st1 r1 W1 => ?_) fun zz zz x => x.toS fi) hsw
  refine store_one ES (ok.step st1) (fi.stepN st1) hv r1 fun s2 st2 fi2 => ?_
  exact ⟨.next, _, H1, (st1.weaken fi.dm).trans (st2.widen fun b hb => dx_dm hb), fi2, rfl, W1⟩
 | true =>
  rw [exec_Assign_Name_used _ _ _ _ hsw]
  refine wpAny_bind (wpAny_standAt (wpAny_bind ?_))
  show wpAny _ A (do let _ <- comprehension (.ListComp elt' [⟨t', it', ifs', 0⟩] sc p) sc env _ (newList []) false (eval it' env) (some (assign (.Name id q) env))) _ _ s
  dsimp only [wpE] at W
  have hf := fi.closed hfr
  refine wpAny_bind (wpAny_mono (wpAny_comprehension_free (use := some (assign (.Name id q) env)) (Q := fun zz s' => SP C env vs (Dm env) H s K .next s') rfl (fun x => folded hns) (closure_of hf) hk hnl ?_) (fun zz s' hq => wpAny_pure (wpAny_pure hq)) fun zz zz e => e)
  refine wpAny_mono (hit env A s ρ H _ _ ES ea ok fi W) (fun civ s1 hzz => qp_e hzz fun iv H1 st1 r1 hzw => ?_) fun zz zz x => x.toS fi
  refine Vc.xa_1_4 hzw fun all hq hi hsz W1 => ?_
  try clear hzw
  have ok1 := ok.step st1
  have fi1 := fi.stepN st1
  refine iter_of ok1 hq r1 hi fun I s2 st2 hI hit2 => ?_
  refine comp_core (E := XG false C (Dm env) H s (XSt C env vs X)) ES ea ok1 fi1 ht hl nd hk hnc hf (fun env' s H ρ' Q e1 e2 e3 e4 w => hT env' A s ρ' H Q _ e1 e2 e3 e4 w) (fun env' s H ρ' Q e1 e2 e3 e4 w => hE env' A s ρ' H Q _ e1 e2 e3 e4 w) hq hsz W1 st2 hI hit2
   (fun Dl Cn s' av Hc items st hDl hCn hDC hcD hcC pl rs hm hK => ?_) (fun Dl Cn s' e hDl hCn x => ?_)
  ·-- the list is stored, then the table let go
   have stN := st.shed (di_new hI hDl hCn)
   have stL := stN.adopt (o := .lst av) hDl ⟨fresh_top ok1.top hDl, items, pl, rs⟩
   have fiL := fi1.stepN stL
   show wpAny C.M A (assign (.Name id q) env (.ref Dl)) _ _ s'
   refine wpAny_assign_Name (store_one (v := .ref Dl) ES (ok1.step stL) fiL hv (by dsimp only [VR]) fun s3 st3 fi3 => ?_)
   refine Vc.xa_1_1 hm fun m hm => ?_
   have hH2 : (upd Hc Dl (.lst av)) Cn = none := by rw [upd_ne (Ne.symm hDC)]; exact hcC
   have hnC := fi1.new hCn
   have hm3 : s3.heap.Ns Cn m := Ns.slots hm fun o ho => (st3.chg Cn o ho hH2 fun hb => hnC (dx_dm hb)).imp fun sl w => w.1
   refine ⟨m, hm3, fun h' sb => ?_⟩
   have stA : Step C (Dm env) H1 s1 (upd Hc Dl (.lst av)) s3 := (stL.weaken fi1.dm).trans (st3.widen fun b hb => dx_dm hb)
   exact ⟨.next, _, _, (st1.weaken fi.dm).trans (stA.after hCn hH2 ok1.top (ns_loose hm3) sb), fi3.letgo (fun q => hnC (.inl q.symm)) (fun x c e q => hnC (.inr ⟨x, q ▸ e⟩)) (ns_loose hm3) sb, rfl, hK.2 Dl hcD⟩
  ·exact (comp_bad ok1 hI hDl hCn x).imp fun m y => ⟨y.1, fun h' sb cenv' hcl => passing stX_up ok1 (y.2 h' sb) fun s'' x'' => ((XG.mono x'').back st1).toS fi⟩
theorem sndS_unp {is : List Nat} {e : Ex} {ts : List Expr} {k : Nat} {q p : Pos} {e' : Expr} {xs : List Str} (hx : names? ts = some xs) (hc : chkTg vs is xs = true) (h2 : 2 <= ts.length) (h : SndE C d e e' vs ns) (hn : notComp e' = true) (htp : notTuple e' = true) :
  SndS C d (.unp is e) (.Assign [.Tuple ts k q] e' p) vs ns := by
 intro env A s ρ H K X ES ea ok fi W
 dsimp only [wpS] at W
 refine wpAny_Assign_stores (wpAny_mono (h env A s ρ H _ _ ES ea ok fi W) (fun cv s1 hzz => qp_e hzz fun v H1 st1 r1 hzw => ?_) fun zz zz x => x.toS fi) (show swapsWith e' (some (.Tuple ts k q)) p.line env = pure false from swaps_no hn) (stores_no htp)
 refine Vc.xa_1_4 hzw fun l hv hq hl W1 => ?_
 try clear hzw
 subst hv
 show wpAny C.M A (assignAll cv [assign (.Tuple ts k q) env]) _ _ s1
 show wpAny C.M A (assign (.Tuple ts k q) env cv) _ _ s1
 have hil : is.length = ts.length := (tg_len hc).trans (names_len hx).symm
 refine assign_tup ES h2 hx hc (ok.step st1) (fi.stepN st1) r1 (show parts is.length (.tup l) = some l by unfold parts; rw [if_neg (by (clear hl; omega))]; dsimp only; rw [if_pos hl]) fun s2 st2 fi2 => ?_
 exact ⟨.next, _, H1, (st1.weaken fi.dm).trans (st2.widen fun b hb => dxs_dm hb), fi2, rfl, W1⟩
theorem sndS_seti {o i e : Ex} {o' i' e' : Expr} {q p : Pos} (hn : notComp e' = true) (he : SndE C d e e' vs ns) (ho : SndE C d o o' vs ns) (hi : SndE C d i i' vs ns) : SndS C d (.seti o i e) (.Assign [.Subscript o' i' q] e' p) vs ns := by
 intro env A s ρ H K X ES ea ok fi W
 dsimp only [wpS] at W
 refine wpAny_Assign_Subscript (wpAny_mono (he env A s ρ H _ _ ES ea ok fi W) (fun cv s1 hq2 => Vc.xa_2_3 hq2 fun v H1 st1 r1 W1 => ?_) fun zz zz x => x.toS fi) (swaps_no hn)
 refine wpAny_mono (ho env A s1 ρ H1 _ _ ES ea (ok.step st1) (fi.stepN st1) W1) (fun co s2 hq3 => Vc.xa_2_3 hq3 fun ov H2 st2 r2 W2 => ?_) fun zz zz x => (x.back st1).toS fi
 have st12 := st1.trans st2
 refine wpAny_mono (hi env A s2 ρ H2 _ _ ES ea (ok.step st12) (fi.stepN st12) W2) (fun ci s3 hq4 => Vc.xa_2_3 hq4 fun iv H3 st3 r3 W3 => ?_) fun zz zz x => (x.back st12).toS fi
 have st123 := st12.trans st3
 refine wpAny_mono (W3 A s3 co ci cv (ok.step st123) (r2.keep st3.vk) r3 ((r1.keep st2.vk).keep st3.vk)) (fun zz s4 hq5 => Vc.xa_1_2 hq5 fun H4 st4 W4 => ?_) fun zz zz x => (x.back st123).toS fi
 have st := st123.trans st4
 exact ⟨.next, ρ, H4, st.weaken fi.dm, fi.stepN st, rfl, W4⟩
end
end Vc
end
section
namespace Vc
open PySem
section
variable {C : Cx} {d : Md} {env : Env} {vs : Vs} {ns : Ns} {ρ : Lo} {H H1 H' : MH} {s s1 s2 s' s'' : Shared} {A : Around} {K : KP} {X : XS} {D : Addr -> Prop}
theorem frl_of (ok : Ok C d H1 A s1) {fenv : Env} {outer : List Env} (hfr : A.frames = some (fenv :: outer)) {H' : MH} {s' : Shared} (st : Step C D H1 s1 H' s') : FrL C H' s'.heap (fenv :: outer) := by
 refine Vc.xa_1_2 ok.frs fun l e f => ?_
 rw [hfr] at e; cases e
 exact f.step st
theorem rec_dm {b : Addr} {o : Obj} {ws : Array Value} (fi : FI C env vs ρ H s.heap) (e : s.heap.get? b = some o) (hd : o.data = .fields ws) : ¬ Dm env b := fun hb => by
 rcases hb with rfl | ⟨x, h⟩
 ·refine Vc.xa_1_2 fi.ns fun m ho16_1 zz => ?_
  obtain ⟨o', es, ep, ho, hd', _⟩ := ho16_1
  rw [e] at ho
  cases ho
  rw [hd] at hd'
  cases hd'
 ·obtain ⟨_, _, oc, o', ho, hd'⟩ := fi.cex x b h
  rw [e] at ho
  cases ho
  rw [hd] at hd'
  cases hd'
structure FoI (C : Cx) (env : Env) (vs : Vs) (H1 : MH) (s1 : Shared) (Is : Addr -> Prop) (At : Heap -> Nat -> Prop) (i : Nat) (ρ : Lo) (H : MH) (s : Shared) : Prop where
 st : Step C (Dm env) H1 s1 H s
 pos : At s.heap i
 go : ∀ b, Is b -> H b = none
 fi : FI C env vs ρ H s.heap
section
variable {k : List Nat} {sv : Sv} {t' : Expr} {xs : List Str} {body : List St} {body' : List Stmt} {I : Addr} {Is : Addr -> Prop} {At : Heap -> Nat -> Prop} {all : List V} {i : Nat}
theorem FoI.nx (x : FoI C env vs H1 s1 Is At i ρ H s) (it : Itr C d sv t' I Is At) (hnew : ∀ b, Is b -> s1.heap.get? b = none) (y : Step C Is H s H s') : Step C (Dm env) H1 s1 H s' /\ FI C env vs ρ H s'.heap :=
 ⟨x.st.trans_new y hnew x.fi.dm, x.fi.step y (fun q => (it.ex x.pos _ q).elim fun o w => w.elim fun ws w => rec_dm x.fi w.1 w.2 (.inl rfl)) fun z c e q => (it.ex x.pos _ q).elim fun o w => w.elim fun ws w => rec_dm x.fi w.1 w.2 (.inr ⟨z, e⟩)⟩
theorem FoI.mv {ρ' : Lo} (x : FoI C env vs H1 s1 Is At i ρ H s) (it : Itr C d sv t' I Is At) (y : Step C (Dm env) H s H' s') (f : FI C env vs ρ' H' s'.heap) : FoI C env vs H1 s1 Is At i ρ' H' s' :=
 ⟨x.st.trans y, it.keep x.pos y x.go fun b hb => (it.ex x.pos b hb).elim fun o w => w.elim fun ws w => rec_dm x.fi w.1 w.2, fun b hb => (it.ex x.pos b hb).elim fun o w => w.elim fun ws w => y.gone w.1 (x.go b hb), f⟩
theorem for_turn {J : Nat -> Shared -> Prop} {R : Result -> Shared -> Prop} {nb : Value -> Shared -> Prop} {n : Nat}
  (it : Itr C d sv t' I Is At) (ES : EnvS env vs ns) (ea : EA A env) (ok : Ok C d H1 A s1) (ht : tgt? t' = some xs) (hc : chkTg vs k xs = true) (hb : SndSs C d body body' vs ns) (hnew : ∀ b, Is b -> s1.heap.get? b = none)
  (fo : FoI C env vs H1 s1 Is At i ρ H s) (hn : n = all.length - i) (W : wpF k sv all (fun ρ' H' K' => wpSs C d body ρ' H' K' X) (all.drop i) ρ H K)
  (hJ : ∀ ρ H s, i < all.length -> FoI C env vs H1 s1 Is At (i + 1) ρ H s -> wpF k sv all (fun ρ' H' K' => wpSs C d body ρ' H' K' X) (all.drop (i + 1)) ρ H K -> J (all.length - (i + 1)) s)
  (hR : ∀ f s, SP C env vs (Dm env) H1 s1 K f s -> R (.ok f) s)
  (err : ∀ {Hx : MH} {sx : Shared} {ρx : Lo}, Step C (Dm env) H1 s1 Hx sx -> FI C env vs ρx Hx sx.heap -> ∀ e s', XG false C (Dm env) Hx sx (XSt C env vs X) e s' -> nb e s') :
  wpAny C.M A (pyNext (.ref I)) (fun r s₁ => match r with
   | none => wpAny C.M A (execs [] env) (fun f s₃ => R (.ok f) s₃) nb s₁
   | some v => wpAny C.M A (letOwnedTupleGo t' (.ref I) v) (fun zz s₁' =>
     wpAny C.M A (assign t' env v) (fun zz s₂ => wpAny C.M A (execs body' env) (fun f s₃ => match f with
      | .next | .cont => ∃ m, m < n /\ J m s₃
      | .brk => R (.ok .next) s₃
      | .ret v => R (.ok (.ret v)) s₃) nb s₂) nb s₁') nb s₁) nb s := by
 have okc := ok.step fo.st
 have hz : ∀ b, Is b -> C.h0.get? b = none := fun b hb => fresh_top ok.top (hnew b hb)
 rcases Nat.lt_or_ge i all.length with hlt | hge
 ·rw [List.drop_eq_getElem_cons hlt] at W
  obtain ⟨hitems, xv, hparts, Wx⟩ := W
  refine wpAny_mono (it.item okc fo.pos fo.go hz hitems (x := all[i]) (List.getElem?_eq_getElem hlt) (P := fun cv sb => wpAny C.M A (assign t' env cv) (fun zz s₂ => wpAny C.M A (execs body' env) (fun f s₃ => match f with
      | .next | .cont => ∃ m, m < n /\ J m s₃
      | .brk => R (.ok .next) s₃
      | .ret v => R (.ok (.ret v)) s₃) nb s₂) nb sb) (E := nb) fun cv sb stb vrb atb => ?_) (fun r s3 hr => ?_) fun zz zz h => h
  ·have y := fo.nx it hnew stb
   have f1 : FoI C env vs H1 s1 Is At (i + 1) ρ H sb := ⟨y.1, atb, fo.go, y.2⟩
   refine assign_tgt ES ht hc (okc.step stb) y.2 vrb hparts fun sc stc fic' => ?_
   have f2 := f1.mv it (stc.widen fun b hb => dxs_dm hb) fic'
   refine wpAny_mono (hb env A sc _ H _ X ES ea (ok.step f2.st) fic' Wx) (fun fl sd hsd => ?_) (err f2.st fic')
   obtain ⟨f, ρd, Hd, std, fid, frd, Wd⟩ := hsd
   have f3 := f2.mv it std fid
   cases f with
   | next =>
    cases frd
    exact ⟨all.length - (i + 1), hn ▸ Nat.sub_lt_sub_left hlt (Nat.lt_succ_self i), hJ ρd Hd sd hlt f3 Wd⟩
   | ret v =>
    obtain ⟨cv', rfl, r⟩ := frd
    exact hR _ _ ⟨.ret v, ρd, Hd, f3.st, fid, ⟨cv', rfl, r⟩, Wd⟩
  ·obtain ⟨cv, rfl, hr⟩ := hr
   exact hr
 ·rw [List.drop_eq_nil_of_le hge] at W
  refine wpAny_mono (it.done okc fo.pos fo.go hz W.1 hge (P := fun sb => SP C env vs (Dm env) H1 s1 K .next sb) (E := nb) fun sb stb => ?_) (fun r s3 hr => ?_) fun zz zz h => h
  ·have y := fo.nx it hnew stb
   exact ⟨.next, ρ, H, y.1, y.2, rfl, W.2⟩
  ·obtain ⟨rfl, hr⟩ := hr
   exact wpAny_execs_nil (hR _ _ hr)
theorem for_core (it : Itr C d sv t' I Is At) (ES : EnvS env vs ns) (ea : EA A env) (ok : Ok C d H1 A s1) (fi : FI C env vs ρ H1 s1.heap)
  (ht : tgt? t' = some xs) (hc : chkTg vs k xs = true) (hb : SndSs C d body body' vs ns) (st2 : Step C No H1 s1 H1 s2) (hnew : ∀ b, Is b -> s1.heap.get? b = none) (hat : At s2.heap 0)
  (W : wpF k sv all (fun ρ' H' K' => wpSs C d body ρ' H' K' X) all ρ H1 K) :
  codeAny C.M A (.forLoop t' (.ref I) body' [] env) (fun r s' => match r with | .ok f => SP C env vs (Dm env) H1 s1 K f s' | .error e => cameBackBy C.M A env (XG false C (Dm env) H1 s1 (XSt C env vs X)) e s') s2 := by
 refine Vc.xa_2_2 (id ea) fun fenv outer hfr hff => ?_
 obtain ⟨J, hJ⟩ : ∃ J : Nat -> Shared -> Prop, J = fun n s => ∃ i ρc Hc, (n = all.length - i /\ i <= all.length) /\ FoI C env vs H1 s1 Is At i ρc Hc s /\ wpF k sv all (fun ρ' H' K' => wpSs C d body ρ' H' K' X) (all.drop i) ρc Hc K := ⟨_, rfl⟩
 suffices h : ∀ R : Result -> Shared -> Prop, (∀ f s, SP C env vs (Dm env) H1 s1 K f s -> R (.ok f) s) -> (∀ e s, cameBackBy C.M A env (XG false C (Dm env) H1 s1 (XSt C env vs X)) e s -> R (.error e) s) -> codeAny C.M A (.forLoop t' (.ref I) body' [] env) R s2 from h _ (fun zz zz h => h) fun zz zz h => h
 intro R hR hE
 refine codeAny_forLoop_any J (fun n s hI => ?_) all.length (hJ ▸ ⟨0, ρ, H1, ⟨rfl, Nat.zero_le _⟩, ⟨st2.weaken fi.dm, hat, fun b hb => ok.rel.fresh (hnew b hb), fi.stepN st2⟩, W⟩)
 rw [hJ] at hI
 refine Vc.xa_3_3 hI fun i ρc Hc hn fo Wc => ?_
 try clear hI
 refine for_turn (J := J) (R := R) it ES ea ok ht hc hb hnew fo hn.1 Wc (fun ρ H s a b c => hJ ▸ ⟨i + 1, ρ, H, ⟨rfl, a⟩, b, c⟩) hR fun {Hx sx ρx} stx fix e s' hx => ?_
 have cb : ∀ e s', XG true C (Dm env) H1 s1 (XSt C env vs X) e s' -> R (.error e) s' := fun e s' h => hE e s' (wpAny_mono (cameBack (env := env) stX_St ok h) (fun zz zz h => h.mono) fun zz zz h => h.mono)
 exact wpAny_mono (note stX_St ok hfr hff (fun H' s' st => frl_of ok hfr st) (hx.backD stx fix.dm)) (fun zz s'' h => cb e s'' h) fun e' s'' h => cb e' s'' h
end
end
end Vc
end
section
namespace Vc
open PySem
theorem callee_type {C : Cx} {T : String} : Callee C (.type T) := fun A s Q E zz h => by
 unfold keeperOf; exact wpAny_pure (h _)
theorem callee_builtin {C : Cx} {T : String} : Callee C (.builtin T) := fun A s Q E zz h => by
 unfold keeperOf; exact wpAny_pure (h _)
section
variable {C : Cx} {d : Md} {env : Env} {vs : Vs} {ns : Ns} {ρ : Lo} {H H1 H' : MH} {s s1 s2 s' s'' : Shared} {A : Around} {K : KP} {X : XS} {D : Addr -> Prop}
theorem sndS_for_pl {k : List Nat} {e : Ex} {t' e' : Expr} {xs : List Str} {body : List St} {body' : List Stmt} {p : Pos} (ht : tgt? t' = some xs) (hc : chkTg vs k xs = true) (hns : notSet e' = true) (he : SndE C d e e' vs ns) (hb : SndSs C d body body' vs ns) :
  SndS C d (.for k (.pl e) body) (.For t' e' body' [] p) vs ns := by
 intro env A s ρ H K X ES ea ok fi W
 dsimp only [wpS, wpSr] at W
 refine wpAny_For (wpAny_mono (he env A s ρ H _ _ ES ea ok fi W) (fun civ s1 hzz => qp_e hzz fun iv H1 st1 r1 hzw => ?_) fun zz zz x => x.toS fi) (fun x => folded hns)
 refine Vc.xa_1_3 hzw fun all hq hi W1 => ?_
 try clear hzw
 have ok1 := ok.step st1
 have fi1 := fi.stepN st1
 have stw := st1.weaken fi.dm
 refine iter_of ok1 hq r1 hi fun I s2 st2 hI hit2 => ?_
 refine codeAny_mono (for_core (itr_pl hq) ES ea ok1 fi1 ht hc hb st2 (fun b hb => by subst hb; exact hI) hit2 W1) fun r s' hr => ?_
 cases r with
 | ok f => exact hr.back stw
 | error e => exact wpAny_mono hr (fun zz zz h => h.backD stw fi1.dm) fun zz zz h => h.backD stw fi1.dm
theorem sndS_for_en {k : List Nat} {e : Ex} {ts : List Expr} {kk : Nat} {tp : Pos} {x' : Expr} {id : Str} {q q2 p : Pos} {xs : List Str} {body : List St} {body' : List Stmt} (G : C.Good) (ht : tgt? (.Tuple ts kk tp) = some xs) (hc : chkTg vs k xs = true)
  (hg : gOk ns "enumerate" id = true) (hx : chkE vs ns e x' = true) (he : SndE C d e x' vs ns) (hb : SndSs C d body body' vs ns) : SndS C d (.for k (.en e) body) (.For (.Tuple ts kk tp) (.Call (.Name id q) [x'] [] q2) body' [] p) vs ns := by
 intro env A s ρ H K X ES ea ok fi W
 dsimp only [wpS, wpSr] at W
 refine Vc.xa_0_2 W fun hG W => ?_
 have hcs : chkEs vs ns [e] [x'] = true := Bool.and_eq_true_iff.mpr ⟨hx, rfl⟩
 refine wpAny_For (wpAny_Call_Name_kw (load_gl G ES hg ok.top hG ?_)) (fun x => rfl)
 refine callWith_any (starEach_false hcs q2) callee_type ?_
 rw [starEach_cons (chk_notStar hx), backTo_cons]
 refine Calls.spliced_cons (wpAny_mono (he env A s ρ H _ _ ES ea ok fi W) (fun civ s1 hzz => qp_e hzz fun iv H1 st1 r1 hzw => Calls.spliced_nil ⟨st1.top, ?_⟩) fun zz zz x => x.toS fi)
 refine Vc.xa_1_3 hzw fun all hq hi W1 => ?_
 try clear hzw
 have ok1 := ok.step st1
 have fi1 := fi.stepN st1
 have stw := st1.weaken fi.dm
 have hiv : ∃ a, iv = .ref a := by
  cases iv with
  | ref a => exact ⟨a, rfl⟩
  | _ => simp [svItems] at hi
 refine Vc.xa_1_1 hiv fun a hr47_1 => ?_
 try clear hiv
 subst hr47_1
 dsimp only [VR] at r1
 subst r1
 have hi' := hi
 simp only [svItems] at hi
 refine Vc.xa_1_2 (Option.map_eq_some_iff.mp hi) fun l hl zz => ?_
 refine Vc.xa_1_2 (list_of ok1.rel hl) fun items hL rs => ?_
 show wpAny C.M A (call (.type "enumerate") [.ref a]) _ _ s1
 refine call_enumerate_list hL fun h' hen hit hsz kp => ?_
 have st2 : Step C No H1 s1 H1 { s1 with heap := h' } := Step.keeps ok1.rel ok1.top kp rfl rfl
 refine wpAny_pyIter_enum hen ?_
 have hn1 : s1.heap.get? (s1.heap.objs.size + 1) = none := by
  cases q : s1.heap.get? (s1.heap.objs.size + 1) with
  | none => rfl
  | some o => exact absurd (Heap.lt_size q) (Nat.not_lt.mpr (Nat.le_succ _))
 refine codeAny_mono (for_core (itr_en (a := a) (e := s1.heap.objs.size + 1) (it := s1.heap.objs.size) hq.1 (Nat.succ_ne_self _)) ES ea ok1 fi1 ht hc hb st2 (fun b hb => by
  rcases hb with rfl | rfl
  ·exact hn1
  ·exact fresh_size _) ⟨⟨_, hen⟩, hit⟩ W1) fun r s' hr => ?_
 cases r with
 | ok f => exact hr.back stw
 | error e => exact wpAny_mono hr (fun zz zz h => h.backD stw fi1.dm) fun zz zz h => h.backD stw fi1.dm
end
end Vc
end
section
namespace Vc
open PySem
section
variable {C : Cx} {h h' : Heap} {Z : Addr -> Prop}
end
structure Zs where
 z : Addr
 ti : Addr
 to : Addr
 i1 : Addr
 i2 : Addr
section
variable {C : Cx} {d : Md} {env : Env} {vs : Vs} {ns : Ns} {ρ : Lo} {H H1 H' : MH} {s s1 s2 s' s'' : Shared} {A : Around} {K : KP} {X : XS} {f la lb : Addr} {q : Zs} {k : Nat} {acc : List V}
theorem tgt_tup {us : List Expr} {k : Nat} {p : Pos} {xs : List Str} (h : names? us = some xs) (h2 : 2 <= us.length) : tgt? (.Tuple us k p) = some xs := by
 show (if 2 <= us.length then names? us else none) = some xs
 rw [if_pos h2]; exact h
end
end Vc
end
section
namespace Vc
open PySem
theorem lk_set_ne : ∀ {r : Lo} {i j : Nat}, i ≠ j -> lk (r.set i none) j = lk r j
 | [], _, _, _ => rfl
 | _ :: _, 0, 0, h => (h rfl).elim
 | _ :: _, 0, _ + 1, _ => rfl
 | _ :: _, _ + 1, 0, _ => rfl
 | _ :: r, i + 1, j + 1, h => lk_set_ne (r := r) (i := i) (j := j) fun e => h (by rw [e])
theorem lk_set_self : ∀ {r : Lo} {i : Nat} {v : V}, lk (r.set i none) i ≠ some v
 | [], _, _, h => by cases h
 | _ :: _, 0, _, h => by cases h
 | _ :: r, i + 1, v, h => lk_set_self (r := r) (i := i) (v := v) h
section
variable {C : Cx} {d : Md} {env : Env} {vs : Vs} {ns : Ns} {ρ : Lo} {H H1 H' : MH} {s s1 s2 s' s'' : Shared} {A : Around} {K : KP} {X : XS} {E : Value -> Shared -> Prop}
theorem name_goes {i : Nat} {n : Str} {pos : Pos} {Q : Unit -> Shared -> Prop} (ES : EnvS env vs ns) (ok : Ok C d H A s) (fi : FI C env vs ρ H s.heap) (hv : vs[i]? = some (n, Vk.loc))
  (hQ : ∀ s', Step C (Dm env) H s H s' -> FI C env vs (ρ.set i none) H s'.heap -> Q () s') : wpAny C.M A (do bindName env n .none; unbindBehindTheSuite env n pos) Q E s := by
 refine Vc.xa_1_2 fi.ns fun m hm rm => ?_
 refine Vc.xa_3_3 (id hm) fun o es ep ho hd zz => ?_
 refine wpAny_nameGoes_keeps (by unfold Env.kindOf; rw [ES.names]; exact ES.loc i n hv) hm (by rw [ES.kind]; rfl) fun h' u hn hs => ?_
 have hd' : ∃ o' es' ep', h'.get? env.locals = some o' /\ o'.data = .dict es' ep' := let ⟨o', es', ep', h1, h2, _⟩ := hn; ⟨o', es', ep', h1, h2⟩
 have st : Step C (· = env.locals) H s H { s with heap := h', toks := s.toks + 1 } := by
  refine Step.but ok.rel ok.top (fun b o e nb => (hs.2 b nb).trans e) (fun b q => by subst q; exact fi.locH) (fun b q => by subst q; exact fi.loc0) (fun b ob e q => ?_) (fun b ob es1 ep1 e q dd => ?_) rfl rfl
  ·subst q; rw [ho] at e; cases e; exact .inl ⟨es, ep, hd⟩
  ·subst q; exact hd'
 refine hQ _ (st.widen fun b hb => .inl hb) ⟨by rw [List.length_set, fi.len], fi.locH, fi.loc0, ⟨_, hn, fun j x w e l => ?_⟩, fun j x e => ?_, fun x c e => ?_⟩
 ·by_cases hji : j = i
  ·subst hji; exact (lk_set_self l).elim
  ·rw [lk_set_ne (Ne.symm hji)] at l
   refine Vc.xa_1_2 (rm j x w e l) fun cw e1 e2 => ?_
   refine ⟨cw, ?_, e2.keep st.vk⟩
   rw [if_neg]; exact e1
   rintro rfl
   exact hji (ES.uni j i _ _ _ e hv (by decide) (by decide))
 ·refine Vc.xa_2_5 (fi.cel j x e) fun c oc h1 h2 h3 ho42_5 h5 => ?_
  obtain ⟨o', ho', hd'⟩ := ho42_5
  refine ⟨c, oc, h1, h2, h3, ⟨o', (hs.2 c fun q => ?_).trans ho', hd'⟩, fun v l => ?_⟩
  ·subst q; rw [ho] at ho'; cases ho'; rw [hd] at hd'; cases hd'
  ·by_cases hji : j = i
   ·subst hji; exact (lk_set_self l).elim
   ·rw [lk_set_ne (Ne.symm hji)] at l
    refine Vc.xa_1_2 (h5 v l) fun cw e1 e2 => ?_
    exact ⟨cw, e1, e2.keep st.vk⟩
 ·obtain ⟨h1, h2, oc, o', ho', hd'⟩ := fi.cex x c e
  refine ⟨h1, h2, oc, o', (hs.2 c fun q => ?_).trans ho', hd'⟩
  subst q; rw [ho] at ho'; cases ho'; rw [hd] at hd'; cases hd'
theorem FlR.keep {f : Fl} {fl : Flow} {h h' : Heap} (k : VK h h') (x : FlR C h f fl) : FlR C h' f fl := by
 cases f with
 | next => exact x
 | ret v => obtain ⟨cv, e, r⟩ := x; exact ⟨cv, e, r.keep k⟩
theorem sndS_tre {body hb el : List St} {c : String} {as : Option Nat} {body' hb' el' : List Stmt} {t0 : Stmt} {nm : Option Str} {i0 : Str} {p q p2 : Pos} (G : C.Good) (hg : gOk ns c i0 = true) (ha : chkAs vs as nm = true)
  (sb : SndSs C d body body' vs ns) (sh : SndSs C d.in hb (t0 :: hb') vs ns) (se : SndSs C d el el' vs ns) : SndS C d (.tre body c as hb el) (.Try body' [.ExceptHandler (some (.Name i0 q)) nm (t0 :: hb') p] el' [] p2) vs ns := by
 intro env A s ρ H K X ES ea ok fi W
 dsimp only [wpS] at W
 refine Vc.xa_2_2 (id ea) fun fenv outer hfr hff => ?_
 refine wpAny_Try_except (wpAny_mono (sb env A s ρ H _ _ ES ea ok fi W) (fun f s1 hf => ?_) fun e s1 hx => ?_)
 ·refine Vc.xa_3_4 hf fun fl ρ1 H1 st1 fi1 hr hk => ?_
  try clear hf
  cases fl with
  | next => rw [show f = .next from hr]; exact wpAny_mono (se env A s1 ρ1 H1 K X ES ea (ok.step st1) fi1 hk) (fun zz zz h => h.back st1) fun zz zz h => h.backD st1 fi1.dm
  | ret v => obtain ⟨cv, rfl, r⟩ := hr; exact ⟨.ret v, ρ1, H1, st1, fi1, ⟨cv, rfl, r⟩, hk⟩
 ·refine noteG stX_St ok.top hfr hff (fun H' s' st => frl_of ok hfr st) hx fun s2 x2 => flight stX_St ok.top x2 fun s3 x3 => ?_
  obtain ⟨a, c', H3, rfl, st3, hD, fl, ρ3, fi3, b, ⟨⟨rh, hG⟩, hE⟩, hk⟩ := x3
  refine wpAny_handleBy_cons (codeAny_handlers_test (load_gl G ES hg st3.top hG ?_)) (by intro q; cases q)
  refine Vc.xa_3_4 fl.obj fun o ws r ho hc hgc zz => ?_
  refine hE _ _ a o r rh st3.top ho hc hgc.1 hG _ _ ?_
  cases b with
  | false =>
   have x3 : XG true C (Dm env) H s (XSt C env vs X) (.ref a) s3 := ⟨a, c', H3, rfl, st3, hD, fl, ρ3, fi3, hk⟩
   exact wpAny_handleBy_nil (passing stX_St ok x3 fun s'' x => x.mono)
  | true =>
   rw [if_pos rfl] at hk
   have x3 : XG true C (Dm env) H s (XSt C env vs fun c1 ρ' H' => c1 = c' /\ wpSs C d.in hb (asV as ρ' c') H' (fun f ρ2 H2 => K f (asO as ρ2) H2) (fun zz zz zz => False)) (.ref a) s3 := ⟨a, c', H3, rfl, st3, hD, fl, ρ3, fi3, rfl, hk⟩
   have eam : EA (A.mark (some (.ref a))) env := ea
   have mid : ∀ (s4 : Shared) (H4 : MH), Step C (Dm env) H s H4 s4 -> Fly C true s a c' s4.heap -> Ok C d.in H4 (A.mark (some (.ref a))) s4 := fun s4 H4 st4 fl4 => by
    refine Vc.xa_3_7 fl4.obj fun o ws r ho hc hgc hd zz h2 zz => ?_
    exact ⟨st4.rel, st4.top, ok.room, ⟨(fun q => (Bool.false_ne_true q).elim), Or.inr ⟨a, o, ws, r, rfl, ho, hc, hd, h2.ctx⟩⟩, (ok.step st4).frs⟩
   show codeAny C.M (A.mark (some (.ref a))) (.handlers (.ref a) [.ExceptHandler none nm (t0 :: hb') p] env) _ s3
   cases as with
   | none =>
    cases nm with
    | some _ => exact (Bool.false_ne_true ha).elim
    | none =>
     refine codeAny_handlers_suite (flight stX_St ok.top x3 fun s4 x4 => ?_)
     obtain ⟨a4, c4, H4, e4, st4, hD4, fl4, ρ4, fi4, rfl, hk4⟩ := x4
     cases e4
     refine wpAny_mono (sh env _ s4 _ H4 _ _ ES eam (mid s4 H4 st4 fl4) fi4 hk4) (fun f s5 h5 => h5.back st4) fun e s5 h5 => ?_
     obtain ⟨_, _, _, _, _, _, _, _, _, ff⟩ := h5
     exact ff.elim
   | some i =>
    cases nm with
    | none => exact (Bool.false_ne_true ha).elim
    | some n =>
     have hv : vs[i]? = some (n, Vk.loc) := eq_of_beq ha
     refine codeAny_handlers_suite_as (flight stX_St ok.top x3 fun s4 x4 => ?_)
     obtain ⟨a4, c4, H4, e4, st4, hD4, fl4, ρ4, fi4, rfl, hk4⟩ := x4
     cases e4
     refine Vc.xa_3_5 fl4.obj fun o4 ws4 r4 ho4 hc4 hgc4 hd4 zz => ?_
     have okm := mid s4 H4 st4 fl4
     refine store_one ES okm fi4 (v := .exc c4) (by unfold vOk; rw [hv]; simp) (by dsimp only [VR]; exact ⟨_, o4, ws4, r4, rfl, ho4, hc4, hgc4, hd4⟩) fun s5 st5 fi5 => ?_
     have st5' : Step C (Dm env) H4 s4 H4 s5 := st5.widen fun b hb => dx_dm hb
     have st45 := st4.trans st5'
     refine wpAny_mono (sh env _ s5 _ H4 _ _ ES eam (okm.step st5) fi5 hk4) (fun f s6 h6 => ?_) fun e s6 h6 => ?_
     ·refine Vc.xa_3_4 h6 fun fl6 ρ6 H6 st6 fi6 hr6 hk6 => ?_
      try clear h6
      have st46 := st45.trans st6
      refine name_goes ES (ok.step st46) fi6 hv fun s7 st7 fi7 => ⟨fl6, ρ6.set i none, H6, st46.trans st7, fi7, hr6.keep st7.vk, hk6⟩
     ·obtain ⟨_, _, _, _, _, _, _, _, _, ff⟩ := h6
      exact ff.elim
end
end Vc
end
section
namespace Vc
open PySem
section
variable {C : Cx} {d : Md} {env : Env} {vs : Vs} {ns : Ns} {ρ : Lo} {H H1 H' : MH} {s s1 s2 s' s'' : Shared} {A : Around} {K : KP} {X : XS} {E : Value -> Shared -> Prop}
theorem sndS_trr {body : List St} {c c2 m : String} {body' : List Stmt} {i0 i2 : Str} {p q p2 cp p1 q2 p3 : Pos} {k : Nat} {y : Str} (G : C.Good) (hg : gOk ns c i0 = true) (hg2 : gOk ns c2 i2 = true)
  (sb : SndSs C d body body' vs ns) : SndS C d (.trr body c c2 m) (.Try body' [.ExceptHandler (some (.Name i0 q)) none [.Raise (some (.Call (.Name i2 q2) [.Constant (.str y) k cp] [] p1)) none p3] p] [] [] p2) vs ns := by
 intro env A s ρ H K X ES ea ok fi W
 dsimp only [wpS] at W
 refine Vc.xa_2_2 (id ea) fun fenv outer hfr hff => ?_
 refine wpAny_Try_except (wpAny_mono (sb env A s ρ H _ _ ES ea ok fi W) (fun f s1 hf => ?_) fun e s1 hx => ?_)
 ·refine Vc.xa_3_4 hf fun fl ρ1 H1 st1 fi1 hr hk => ?_
  try clear hf
  cases fl with
  | next => rw [show f = .next from hr]; exact wpAny_execs_nil ⟨.next, ρ1, H1, st1, fi1, rfl, hk⟩
  | ret v => obtain ⟨cv, rfl, r⟩ := hr; exact ⟨.ret v, ρ1, H1, st1, fi1, ⟨cv, rfl, r⟩, hk⟩
 ·refine noteG stX_St ok.top hfr hff (fun H' s' st => frl_of ok hfr st) hx fun s2 x2 => flight stX_St ok.top x2 fun s3 x3 => ?_
  obtain ⟨a, c', H3, rfl, st3, hD, fl, ρ3, fi3, b, ⟨⟨rh, hG⟩, hE⟩, hk⟩ := x3
  refine wpAny_handleBy_cons (codeAny_handlers_test (load_gl G ES hg st3.top hG ?_)) (by intro q; cases q)
  refine Vc.xa_3_4 fl.obj fun o ws r ho hc hgc zz => ?_
  refine hE _ _ a o r rh st3.top ho hc hgc.1 hG _ _ ?_
  cases b with
  | false =>
   have x3 : XG true C (Dm env) H s (XSt C env vs X) (.ref a) s3 := ⟨a, c', H3, rfl, st3, hD, fl, ρ3, fi3, hk⟩
   exact wpAny_handleBy_nil (passing stX_St ok x3 fun s'' x => x.mono)
  | true =>
   rw [if_pos rfl] at hk
   have x3 : XG true C (Dm env) H s (XSt C env vs fun c1 ρ' H' => c1 = c' /\ (c' ≠ "BadText" /\ RaiH C d.in c2 H' (fun c1 H1 => X c1 ρ' H1))) (.ref a) s3 := ⟨a, c', H3, rfl, st3, hD, fl, ρ3, fi3, rfl, hk⟩
   show codeAny C.M (A.mark (some (.ref a))) (.handlers (.ref a) [.ExceptHandler none none [.Raise (some (.Call (.Name i2 q2) [.Constant (.str y) k cp] [] p1)) none p3] p] env) _ s3
   refine codeAny_handlers_suite (flight stX_St ok.top x3 fun s4 x4 => ?_)
   obtain ⟨a4, c4, H4, e4, st4, hD4, fl4, ρ4, fi4, rfl, hne, hR⟩ := x4
   cases e4
   refine Vc.xa_3_7 fl4.obj fun o4 ws4 r4 ho4 hc4 hgc4 hd4 hsz4 h24 zz => ?_
   have h2 : ws4[2]? = some .none := h24.elim id fun q => (hne q.1).elim
   have okm : Ok C d.in H4 (A.mark (some (.ref a))) s4 := ⟨st4.rel, st4.top, ok.room, ⟨(fun q => (Bool.false_ne_true q).elim), Or.inr ⟨a, o4, ws4, r4, rfl, ho4, hc4, hd4, .inl h2⟩⟩, (ok.step st4).frs⟩
   unfold gOk at hg2
   simp only [Bool.and_eq_true, beq_iff_eq, Bool.not_eq_true'] at hg2
   refine Vc.xa_0_2 hg2 fun ho40_0 hd2 => ?_
   try clear hg2
   obtain ⟨rfl, hk2⟩ := ho40_0
   have err : ∀ e s', XG false C No H4 s4 (up fun c1 H1 => X c1 ρ4 H1) e s' -> notedBy C.M (A.mark (some (.ref a))) env (fun x s2 => cameBackBy C.M A env (XG false C (Dm env) H s (XSt C env vs X)) x s2) e s' := fun e s' x => by
    have x1 : XG false C (Dm env) H s (XSt C env vs X) e s' := (x.toS fi4).backD st4 fi4.dm
    have cb : ∀ e s', XG true C (Dm env) H s (XSt C env vs X) e s' -> cameBackBy C.M A env (XG false C (Dm env) H s (XSt C env vs X)) e s' := fun e s' h =>
     wpAny_mono (cameBack (env := env) stX_St ok h) (fun zz zz h => h.mono) fun zz zz h => h.mono
    have hfr' : (A.mark (some (.ref a))).frames = some (fenv :: outer) := hfr
    exact noteG (A := A.mark (some (.ref a))) stX_St ok.top hfr' hff (fun H' s' st => frl_of ok hfr st) x1 fun s'' h => cb e s'' h
   refine wpAny_execs_cons (wpAny_mono (hR (A.mark (some (.ref a))) s4 y a o4 ws4 r4 okm ⟨rfl, ho4, hc4, hd4, h2⟩ env p3 p1 q2 cp k (by unfold Env.kindOf; rw [ES.names]; exact hk2) ES.kind ES.glb ES.blt) (fun zz zz f => f.elim) fun e s' x => err e s' x)
end
end Vc
end
section
namespace Vc
open PySem
section
variable {C : Cx} {d : Md} {env : Env} {vs : Vs} {ns : Ns} {ρ : Lo} {H H1 H' : MH} {s s1 s2 s' s'' : Shared} {A : Around} {K : KP} {X : XS} {D : Addr -> Prop}
theorem sndS_seta {o e : Ex} {a : String} {o' e' : Expr} {q p : Pos} (hn : notComp e' = true) (he : SndE C d e e' vs ns) (ho : SndE C d o o' vs ns) : SndS C d (.seta o a e) (.Assign [.Attribute o' (Str.ofString a) q] e' p) vs ns := by
 intro env A s ρ H K X ES ea ok fi W
 dsimp only [wpS] at W
 refine wpAny_Assign_stores (wpAny_mono (he env A s ρ H _ _ ES ea ok fi W) (fun cv s1 hq1 => Vc.xa_2_3 hq1 fun v H1 st1 r1 W1 => ?_) fun zz zz x => x.toS fi) (show swapsWith e' (some (.Attribute o' (Str.ofString a) q)) p.line env = pure false from swaps_no hn) rfl
 show wpAny C.M A (do
  let ov <- holding [cv] (eval o' env)
  standAt q.atName
  holding [cv, ov] (setAttr ov (Str.ofString a) cv)
  release [cv, ov] []) _ _ s1
 refine wpAny_bind (wpAny_holding (wpAny_mono (ho env A s1 ρ H1 _ _ ES ea (ok.step st1) (fi.stepN st1) W1) (fun co s2 hq2 => Vc.xa_2_3 hq2 fun ov H2 st2 r2 W2 => ?_) fun zz zz x => (x.back st1).toS fi))
 have st12 := st1.trans st2
 refine wpAny_bind (wpAny_standAt (wpAny_bind (wpAny_holding (wpAny_mono (W2 A s2 co cv (ok.step st12) r2 (r1.keep st2.vk)) (fun zz s4 hq3 => Vc.xa_1_2 hq3 fun H4 st4 W4 => ?_) fun zz zz x => (x.back st12).toS fi))))
 have st := st12.trans st4
 exact wpAny_release ⟨.next, ρ, H4, st.weaken fi.dm, fi.stepN st, rfl, W4⟩
theorem sndS_rais {c m : String} {id : Str} {q cp p1 p2 : Pos} {k : Nat} {y : Str} (hg : gOk ns c id = true) : SndS C d (.rais c m) (.Raise (some (.Call (.Name id q) [.Constant (.str y) k cp] [] p1)) none p2) vs ns := by
 intro env A s ρ H K X ES ea ok fi W
 dsimp only [wpS] at W
 unfold gOk at hg
 simp only [Bool.and_eq_true, beq_iff_eq, Bool.not_eq_true'] at hg
 refine Vc.xa_0_2 hg fun ho32_0 hd => ?_
 try clear hg
 obtain ⟨rfl, hk⟩ := ho32_0
 exact wpAny_mono (W A s y ok env p2 p1 q cp k (by unfold Env.kindOf; rw [ES.names]; exact hk) ES.kind ES.glb ES.blt) (fun zz zz f => f.elim) fun zz zz x => x.toS fi
theorem sS_asg (G : C.Good) {i : Nat} {e : Ex} {id : Str} {q p : Pos} {e' : Expr} (h1 : vOk vs i id = true) (hn : (!ncE e || notComp e') = true) (h2 : chkE vs ns e e' = true) : SndS C d (.asg i e) (.Assign [.Name id q] e' p) vs ns := by
 by_cases hx : e.ctorIdx = 21
 ·refine Ex.comp.elim (motive_1 := fun e => chkE vs ns e e' = true -> SndS C d (.asg i e) (.Assign [.Name id q] e' p) vs ns) e hx (fun k elt it ifs h2 => ?_) h2
  refine iv_comp (P := fun e' => SndS C d (.asg i (.comp k elt it ifs)) (.Assign [.Name id q] e' p) vs ns) h2 fun elt' t' it' ifs' sc p' tg h0 hk t h8 h9 h10 h11 => ?_
  subst hk
  exact sndS_asgC h1 h0 t.loc t.nd t.kind t.nc t.nl t.fr h8 (sE G it it' vs ns h9) (sE G elt elt' _ _ h10) (sAllT G ifs ifs' _ _ h11).ts
 ·have hb : ncE e = true := by unfold ncE; rw [beq_eq_false_iff_ne.mpr hx]; rfl
  rw [hb] at hn
  exact sndS_asg h1 (sE G e e' vs ns h2) hn
theorem sS_for (G : C.Good) {k : List Nat} {src : Src} {body : List St} {t e' : Expr} {body' : List Stmt} {p : Pos} {xs : List Str} (hx : tgt? t = some xs) (h : (chkTg vs k xs && chkTup src t && chkSrc vs ns src e' && chkSs vs ns body body') = true) (sb : SndSs C d body body' vs ns) :
  SndS C d (.for k src body) (.For t e' body' [] p) vs ns := by
 have h3 := and_r (and_l h)
 have h1 := and_l (and_l (and_l h))
 cases src with
 | pl e => exact sndS_for_pl hx h1 (and_l h3) (sE G e _ vs ns (and_r h3)) sb
 | en e =>
  refine pTup_e (P := fun t => tgt? t = some xs -> SndS C d (.for k (.en e) body) (.For t e' body' [] p) vs ns) (and_r (and_l (and_l h))) (fun us k' p' zz hx => ?_) hx
  exact pCal_e (P := fun e' => SndS C d (.for k (.en e) body) (.For (.Tuple us k' p') e' body' [] p) vs ns) h3 fun g es ks p1 h => pNm_e (P := fun g => SndS C d (.for k (.en e) body) (.For (.Tuple us k' p') (.Call g es ks p1) body' [] p) vs ns) h fun id q h =>
   p1_e (P := fun es => SndS C d (.for k (.en e) body) (.For (.Tuple us k' p') (.Call (.Name id q) es ks p1) body' [] p) vs ns) h fun e1 h => em_e (P := fun ks => SndS C d (.for k (.en e) body) (.For (.Tuple us k' p') (.Call (.Name id q) [e1] ks p1) body' [] p) vs ns) (and_l h)
    (sndS_for_en G hx h1 (and_l (and_r h)) (and_r (and_r h)) (sE G e _ vs ns (and_r (and_r h))) sb)
 | zp a b => exact (Bool.false_ne_true h3).elim
theorem as_e {P : Stmt -> Prop} {t' : Stmt} {f : Expr -> Expr -> Bool} (h : pSAs t' (fun ts e' zz => p1 ts fun t => f t e') = true) (k : ∀ t e' p, f t e' = true -> P (.Assign [t] e' p)) : P t' :=
 pSAs_e h fun ts e' p h => p1_e (P := fun ts => P (.Assign ts e' p)) h fun t h => k t e' p h
theorem iv_rais {P : Stmt -> Prop} {c : String} {t' : Stmt} (hc : chkR ns c t' = true) (k : ∀ id q y j cp p1 p2, gOk ns c id = true -> P (.Raise (some (.Call (.Name id q) [.Constant (.str y) j cp] [] p1)) none p2)) : P t' :=
 pSRa_e hc fun x y p2 h => pO_e (P := fun x => P (.Raise x y p2)) (and_r h) fun x hx => (show y = none from Option.isNone_iff_eq_none.mp (and_l h)) ▸
  pCal_e (P := fun x => P (.Raise (some x) none p2)) hx fun g as ks p1 h => em_e (P := fun ks => P (.Raise (some (.Call g as ks p1)) none p2)) (and_l h) (pNm_e (P := fun g => P (.Raise (some (.Call g as [] p1)) none p2)) (and_r h) fun id q h =>
   p1_e (P := fun as => P (.Raise (some (.Call (.Name id q) as [] p1)) none p2)) h fun a h => pCst_e (P := fun a => P (.Raise (some (.Call (.Name id q) [a] [] p1)) none p2)) h fun v j cp h =>
    pStr_e (P := fun v => P (.Raise (some (.Call (.Name id q) [.Constant v j cp] [] p1)) none p2)) h fun y h => k id q y j cp p1 p2 h)
theorem iv_tre {P : Stmt -> Prop} {b hb el : List St} {c : String} {a : Option Nat} {t' : Stmt} (hc : chkS vs ns (.tre b c a hb el) t' = true) (k : ∀ b' i0 q nm t0 hb' p el' p2,
  (gOk ns c i0 && chkSs vs ns b b' && chkAs vs a nm && chkSs vs ns hb (t0 :: hb') && chkSs vs ns el el') = true -> P (.Try b' [.ExceptHandler (some (.Name i0 q)) nm (t0 :: hb') p] el' [] p2)) : P t' :=
 pSTr_e hc fun b' hs el' z p2 h => em_e (P := fun z => P (.Try b' hs el' z p2)) (and_l h) (p1_e (P := fun hs => P (.Try b' hs el' [] p2)) (and_r h) fun h0 h => pHd_e (P := fun h0 => P (.Try b' [h0] el' [] p2)) h fun x nm hb' p h =>
  pO_e (P := fun x => P (.Try b' [.ExceptHandler x nm hb' p] el' [] p2)) h fun x h => pNm_e (P := fun x => P (.Try b' [.ExceptHandler (some x) nm hb' p] el' [] p2)) h fun i0 q h =>
   pC_e (P := fun hb' => P (.Try b' [.ExceptHandler (some (.Name i0 q)) nm hb' p] el' [] p2)) h fun t0 hb' h => k b' i0 q nm t0 hb' p el' p2 h)
theorem iv_trr {P : Stmt -> Prop} {b : List St} {c c2 m : String} {t' : Stmt} (hc : chkS vs ns (.trr b c c2 m) t' = true) (k : ∀ b' i0 q i2 q2 y j cp p1 p3 p p2, gOk ns c i0 = true -> gOk ns c2 i2 = true -> chkSs vs ns b b' = true ->
  P (.Try b' [.ExceptHandler (some (.Name i0 q)) none [.Raise (some (.Call (.Name i2 q2) [.Constant (.str y) j cp] [] p1)) none p3] p] [] [] p2)) : P t' :=
 pSTr_e hc fun b' hs el' z p2 h => em_e (P := fun z => P (.Try b' hs el' z p2)) (and_l (and_l h)) (em_e (P := fun el' => P (.Try b' hs el' [] p2)) (and_r (and_l h)) (p1_e (P := fun hs => P (.Try b' hs [] [] p2)) (and_r h) fun h0 h => pHd_e (P := fun h0 => P (.Try b' [h0] [] [] p2)) h fun x nm hb' p h =>
  (show nm = none from Option.isNone_iff_eq_none.mp (and_l h)) ▸ pO_e (P := fun x => P (.Try b' [.ExceptHandler x none hb' p] [] [] p2)) (and_r h) fun x h => pNm_e (P := fun x => P (.Try b' [.ExceptHandler (some x) none hb' p] [] [] p2)) h fun i0 q h =>
   p1_e (P := fun hb' => P (.Try b' [.ExceptHandler (some (.Name i0 q)) none hb' p] [] [] p2)) h fun t0 h => iv_rais (P := fun t0 => P (.Try b' [.ExceptHandler (some (.Name i0 q)) none [t0] p] [] [] p2)) (and_r (and_l h)) fun i2 q2 y j cp p1 p3 h2 => k b' i0 q i2 q2 y j cp p1 p3 p p2 (and_l (and_l h)) h2 (and_r h)))
end
section
variable {C : Cx}
mutual
theorem sS (G : C.Good) {d : Md} : ∀ (t : St) (t' : Stmt) (vs : Vs) (ns : Ns), chkS vs ns t t' = true -> SndS C d t t' vs ns
 | .asg i e, t', vs, ns, hc => as_e (P := fun t' => SndS C d (.asg i e) t' vs ns) hc fun t e' p h => pNm_e (P := fun t => SndS C d (.asg i e) (.Assign [t] e' p) vs ns) h fun id q h => sS_asg G (and_l h) (and_l (and_r h)) (and_r (and_r h))
 | .unp is e, t', vs, ns, hc => as_e (P := fun t' => SndS C d (.unp is e) t' vs ns) hc fun t e' p h => pTup_e (P := fun t => SndS C d (.unp is e) (.Assign [t] e' p) vs ns) h fun us k q h =>
   pO_e (P := fun o => names? us = o -> SndS C d (.unp is e) (.Assign [.Tuple us k q] e' p) vs ns) h (fun xs h hx => sndS_unp hx (and_l (and_l (and_l (and_l h)))) (of_decide_eq_true (and_r (and_l (and_l (and_l h))))) (sE G e _ vs ns (and_r h)) (and_r (and_l h)) (and_r (and_l (and_l h)))) rfl
 | .seti o i e, t', vs, ns, hc => as_e (P := fun t' => SndS C d (.seti o i e) t' vs ns) hc fun t e' p h => pSub_e (P := fun t => SndS C d (.seti o i e) (.Assign [t] e' p) vs ns) h fun o' i' q h =>
   sndS_seti (and_r (and_l (and_l (and_l h)))) (sE G e _ vs ns (and_r (and_l (and_l h)))) (sE G o _ vs ns (and_r (and_l h))) (sE G i _ vs ns (and_r h))
 | .seta o a e, t', vs, ns, hc => as_e (P := fun t' => SndS C d (.seta o a e) t' vs ns) hc fun t e' p h => pAtt_e (P := fun t => SndS C d (.seta o a e) (.Assign [t] e' p) vs ns) h fun o' a' q h =>
   eq_of_beq (and_l (and_l (and_l h))) ▸ sndS_seta (and_r (and_l (and_l h))) (sE G e _ vs ns (and_r (and_l h))) (sE G o _ vs ns (and_r h))
 | .exp e, t', vs, ns, hc => pSEx_e (P := fun t' => SndS C d (.exp e) t' vs ns) hc fun e' p h => sndS_exp (and_l h) (sE G e _ vs ns (and_r h))
 | .ret e, t', vs, ns, hc => pSRt_e (P := fun t' => SndS C d (.ret e) t' vs ns) hc fun o p h => pO_e (P := fun o => SndS C d (.ret e) (.Return o p) vs ns) h fun e' h => sndS_ret (sE G e _ vs ns h)
 | .ife c a b, t', vs, ns, hc => pSIf_e (P := fun t' => SndS C d (.ife c a b) t' vs ns) hc fun c' a' b' p h => sndS_ife (sT G c _ vs ns (and_l (and_l h))) (sSs G a _ vs ns (and_r (and_l h))) (sSs G b _ vs ns (and_r h))
 | .for k src body, t', vs, ns, hc => pSFo_e (P := fun t' => SndS C d (.for k src body) t' vs ns) hc fun t e' body' l p h => em_e (P := fun l => SndS C d (.for k src body) (.For t e' body' l p) vs ns) (and_l h)
   (pO_e (P := fun o => tgt? t = o -> SndS C d (.for k src body) (.For t e' body' [] p) vs ns) (and_r h) (fun xs h hx => sS_for G hx h (sSs G body _ vs ns (and_r h))) rfl)
 | .whl c body, t', vs, ns, hc => by intro env A s ρ H K X ES ea ok fi W; exact (show False from W).elim
 | .rais c m, t', vs, ns, hc => iv_rais (P := fun t' => SndS C d (.rais c m) t' vs ns) hc fun id q y j cp p1 p2 h => sndS_rais h
 | .tre b c a hb el, t', vs, ns, hc => iv_tre (P := fun t' => SndS C d (.tre b c a hb el) t' vs ns) hc fun b' i0 q nm t0 hb' p el' p2 h =>
   sndS_tre G (and_l (and_l (and_l (and_l h)))) (and_r (and_l (and_l h))) (sSs G b _ vs ns (and_r (and_l (and_l (and_l h))))) (sSs G hb _ vs ns (and_r (and_l h))) (sSs G el _ vs ns (and_r h))
 | .pas, t', vs, ns, hc => pSPa_e (P := fun t' => SndS C d .pas t' vs ns) hc fun p h => sndS_pas
 | .fz i j a b body, t', vs, ns, hc => by intro env A s ρ H K X ES ea ok fi W; exact (show False from W).elim
 | .trr b c c2 m, t', vs, ns, hc => iv_trr (P := fun t' => SndS C d (.trr b c c2 m) t' vs ns) hc fun b' i0 q i2 q2 y j cp p1 p3 p p2 h h2 h3 => sndS_trr G h h2 (sSs G b _ vs ns h3)
theorem sSs (G : C.Good) {d : Md} : ∀ (t : List St) (t' : List Stmt) (vs : Vs) (ns : Ns), chkSs vs ns t t' = true -> SndSs C d t t' vs ns
 | [], t', vs, ns, hc => em_e (P := fun t' => SndSs C d [] t' vs ns) hc sndSs_nil
 | t :: ts, t', vs, ns, hc => pC_e (P := fun t' => SndSs C d (t :: ts) t' vs ns) hc fun t1 ts1 h => sndSs_cons (sS G t t1 vs ns (and_l h)) (sSs G ts ts1 vs ns (and_r h))
end
end
end Vc
end
section
namespace Vc
open PySem
theorem lookup_zip {names : List Str} : ∀ {vals : List Value} {i : Nat} {x : Str}, vals.length = names.length -> names.Nodup -> names[i]? = some x -> (names.zip vals).lookup x = vals[i]? := by
 induction names with
 | nil => intro vals i x _ _ h; simp at h
 | cons n ns ih =>
  intro vals i x hl nd h
  cases vals with
  | nil => simp at hl
  | cons v vs =>
   rw [List.zip_cons_cons, List.lookup_cons]
   cases i with
   | zero => simp at h; subst h; simp
   | succ i =>
    simp at h
    have hne : (x == n) = false := by
     simp only [beq_eq_false_iff_ne, ne_eq]
     rintro rfl
     exact (List.nodup_cons.mp nd).1 (List.mem_of_getElem? h)
    rw [hne]
    simpa using ih (by simpa using hl) (List.nodup_cons.mp nd).2 h
theorem lookup_zip_some {names : List Str} {vals : List Value} (hl : vals.length = names.length) (nd : names.Nodup) {x : Str} (hx : x ∈ names) : ∃ v, (names.zip vals).lookup x = some v := by
 refine Vc.xa_1_1 (List.mem_iff_getElem?.mp hx) fun i hi => ?_
 rw [lookup_zip hl nd hi]
 have : i < vals.length := by rw [hl]; exact (List.getElem?_eq_some_iff.mp hi).1
 exact ⟨vals[i], by simp [this]⟩
theorem filterMap_zip {names : List Str} {vals : List Value} (hl : vals.length = names.length) (nd : names.Nodup) : names.filterMap (fun n => ((names.zip vals).lookup n).map (n, ·)) = names.zip vals := by
 have key : ∀ (l : List Str) (k : Nat), (∀ j, l[j]? = names[k + j]?) -> l.filterMap (fun n => ((names.zip vals).lookup n).map (n, ·)) = (names.zip vals).drop k := by
  intro l
  induction l with
  | nil =>
   intro k h
   have : names.length <= k := by
    rcases Nat.lt_or_ge k names.length with h1 | h1
    ·have := h 0; simp [h1] at this
    ·exact h1
   rw [List.drop_eq_nil_of_le (by simp; (clear hl; omega))]; rfl
  | cons x l ih =>
   intro k h
   have hx : names[k]? = some x := by have := h 0; simpa using this.symm
   have hk : k < names.length := (List.getElem?_eq_some_iff.mp hx).1
   have hkv : k < vals.length := by omega
   rw [List.filterMap_cons, lookup_zip hl nd hx]
   simp only [List.getElem?_eq_getElem hkv, Option.map_some]
   rw [ih (k + 1) (fun j => by have := h (j + 1); simp at this; rw [this]; congr 1; (clear hl hk hkv; omega))]
   have hkz : k < (names.zip vals).length := by rw [List.length_zip]; (clear hl; omega)
   rw [List.drop_eq_getElem_cons hkz, List.getElem_zip]
   have := List.getElem?_eq_some_iff.mp hx
   rw [this.2]
 simpa using key names 0 (by simp)
theorem ite_n {α : Type} {c : Prop} [Decidable c] {a b x : α} (hc : ¬ c) (h : b = x) : (if c then a else b) = x := by rw [if_neg hc]; exact h
theorem bind_plain {fd : FuncData} {names : List Str} {vals : List Value} (h1 : fd.params.posonlyargs = []) (h2 : fd.params.args.map (·.arg) = names) (h3 : fd.params.vararg = none) (h4 : fd.params.kwonlyargs = []) (h5 : fd.params.kwarg = none)
  (h6 : fd.defaults = .none) (hl : vals.length = names.length) (nd : names.Nodup) : bindArgs fd ⟨vals, []⟩ = pure (names.zip vals) := by
 have hmiss : (names.filter fun n => ((names.zip vals).lookup n).isNone) = [] := by
  rw [List.filter_eq_nil_iff]
  intro x hx
  refine Vc.xa_1_1 (lookup_zip_some hl nd hx) fun v e => ?_
  simp [e]
 have hni : ¬ vals.length > names.length := by omega
 obtain ⟨nm, qn, ⟨po, ar, va, ko, kd, kw, df⟩, bd, sc, gl, cl, dfl⟩ := fd
 dsimp only at h1 h2 h3 h4 h5 h6
 subst h1 h2 h3 h4 h5 h6
 refine ite_n (c := (decide (vals.length > (ar.map (·.arg)).length) && true) = true) (by rw [decide_eq_false hni]; decide) ?_
 refine ite_n (c := (!(List.filter (fun n => (List.lookup n ((ar.map (·.arg)).zip vals)).isNone) (List.take ((ar.map (·.arg)).length - (List.drop (0 - (ar.map (·.arg)).length) ([] : List Value)).length) (ar.map (·.arg)))).isEmpty) = true) (by rw [List.drop_nil, List.length_nil, Nat.sub_zero, List.take_length, hmiss]; decide) ?_
 refine (congrArg (fun l => l >>= _) (?_ : _ = (pure ((ar.map (·.arg)).zip vals) : Sem (List (Str × Value))))).trans ?_
 ·show forIn (List.zip _ (List.drop _ ([] : List Value))) _ _ = _
  rw [List.drop_nil, List.zip_nil_right, List.forIn_nil]
  rfl
 ·refine (pure_bind _ _).trans ?_
  refine (pure_bind (m := Sem) _ _).trans ?_
  show (pure (List.filterMap (fun n => Option.map (fun x => (n, x)) (List.lookup n ((ar.map Arg.arg).zip vals))) (ar.map Arg.arg ++ [])) : Sem (List (Str × Value))) = _
  rw [List.append_nil, filterMap_zip hl nd]
end Vc
end
section
namespace Vc
open PySem
noncomputable def okFn (fd : FuncData) (vs : Vs) (np : Nat) (body : List St) : Bool :=
 (match fd.body with | .stmts b => chkSs vs fd.scope.names body b | _ => false) &&
 fd.params.posonlyargs.isEmpty && fd.params.vararg.isNone && fd.params.kwonlyargs.isEmpty && fd.params.kwarg.isNone && (fd.params.args.map (·.arg) == (vs.take np).map (·.1)) && decide (np <= vs.length) &&
 fd.scope.kind == .function && !fd.scope.isGenerator && !fd.scope.isCoroutine &&
 vs.all (fun x => match x.2 with | .loc => fd.scope.names.lookup x.1 == some .local | .cel => fd.scope.names.lookup x.1 == some .cell | .hid => false) &&
 decide ((vs.map (·.1)).Nodup) && fd.closure.isEmpty && fd.globals == mainGlobals && fd.builtins == builtinsNs && fd.defaults == .none
theorem cells_has {x : Str} : ∀ (names : Ns) (n : Nat) (acc : List (Str × Addr)), names.lookup x = some .cell ∨ (acc.lookup x).isSome = true -> ((cellsFrom n names acc).lookup x).isSome = true
 | [], _, _, h => h.elim (fun e => by cases e) id
 | (y, k) :: r, n, acc, h => by
  unfold cellsFrom
  by_cases hk : (k == NameKind.cell) = true
  ·rw [if_pos hk]
   refine cells_has r (n + 1) ((y, n) :: acc) ?_
   by_cases hy : (x == y) = true
   ·exact .inr (by rw [List.lookup_cons, hy]; rfl)
   ·have hy' : (x == y) = false := by simpa using hy
    refine h.imp (fun e => ?_) fun e => ?_
    ·rw [List.lookup_cons, hy'] at e; exact e
    ·rw [List.lookup_cons, hy']; exact e
  ·rw [if_neg hk]
   refine cells_has r n acc (h.imp (fun e => ?_) id)
   rw [List.lookup_cons] at e
   cases hy : x == y with
   | true => rw [hy] at e; cases e; exact absurd rfl hk
   | false => rw [hy] at e; exact e
section
variable {C : Cx} {H : MH} {s : Shared} {A : Around} {Q : V -> MH -> Prop} {X : XP}
theorem bindL_get {kind : Str -> Option NameKind} : ∀ {names : List Str} {vals : List Value} {m : Str -> Option Value} {i : Nat} {x : Str} {v : Value}, vals.length = names.length -> names.Nodup -> names[i]? = some x -> vals[i]? = some v -> kind x = some .local ->
  bindL kind (names.zip vals) m x = some v := by
 intro names
 induction names with
 | nil => intro vals m i x v _ _ h; simp at h
 | cons n ns ih =>
  intro vals m i x v hl nd hx hv hk
  cases vals with
  | nil => simp at hl
  | cons w ws =>
   rw [List.zip_cons_cons, bindL]
   cases i with
   | succ i => exact ih (by simpa using hl) (List.nodup_cons.mp nd).2 (by simpa using hx) (by simpa using hv) hk
   | zero =>
    simp at hx hv
    subst hx hv
    rw [if_pos hk]
    have : ∀ {names : List Str} {vals : List Value} {m : Str -> Option Value}, n ∉ names -> bindL kind (names.zip vals) m n = m n := by
     intro names
     induction names with
     | nil => intro vals m _; rfl
     | cons a as ih2 =>
      intro vals m hn
      cases vals with
      | nil => rfl
      | cons b bs =>
       rw [List.zip_cons_cons, bindL, ih2 (fun h => hn (.tail _ h))]
       split
       ·dsimp only; rw [if_neg]; rintro rfl; exact hn (.head _)
       ·rfl
    rw [this (List.nodup_cons.mp nd).1]; exact if_pos rfl
theorem bindC_get {kind : Str -> Option NameKind} : ∀ {names : List Str} {vals : List Value} {m : Str -> Option Value} {i : Nat} {x : Str} {v : Value}, vals.length = names.length -> names.Nodup -> names[i]? = some x -> vals[i]? = some v -> kind x ≠ some .local ->
  bindC kind (names.zip vals) m x = some v := by
 intro names
 induction names with
 | nil => intro vals m i x v _ _ h; simp at h
 | cons n ns ih =>
  intro vals m i x v hl nd hx hv hk
  cases vals with
  | nil => simp at hl
  | cons w ws =>
   rw [List.zip_cons_cons, bindC]
   cases i with
   | succ i => exact ih (by simpa using hl) (List.nodup_cons.mp nd).2 (by simpa using hx) (by simpa using hv) hk
   | zero =>
    simp at hx hv
    subst hx hv
    rw [if_neg hk]
    have : ∀ {names : List Str} {vals : List Value} {m : Str -> Option Value}, n ∉ names -> bindC kind (names.zip vals) m n = m n := by
     intro names
     induction names with
     | nil => intro vals m _; rfl
     | cons a as ih2 =>
      intro vals m hn
      cases vals with
      | nil => rfl
      | cons b bs =>
       rw [List.zip_cons_cons, bindC, ih2 (fun h => hn (.tail _ h))]
       split
       ·rfl
       ·dsimp only; rw [if_neg]; rintro rfl; exact hn (.head _)
    rw [this (List.nodup_cons.mp nd).1]; exact if_pos rfl
theorem callee_fn {fa : Addr} {o : Obj} {fd : FuncData} (ho : C.h0.get? fa = some o) (hd : o.data = .func fd) : Callee C (.ref fa) := fun A s Q E ht h => by
 unfold keeperOf
 refine wpAny_bind (wpAny_load (ht _ _ ho) ?_)
 rw [hd]
 exact wpAny_pure (h _)
theorem lk_map {xs : List V} {k i : Nat} {v : V} (h : lk (xs.map some ++ List.replicate k none) i = some v) : xs[i]? = some v := by
 by_cases hi : i < xs.length
 ·rw [lk_append_lt (by simpa using hi)] at h
  clear hi
  induction xs generalizing i with
  | nil => simp [lk] at h
  | cons x xs ih => cases i with
   | zero => simpa [lk] using h
   | succ i => simp [lk] at h; simpa using ih h
 ·rw [show i = (xs.map some).length + (i - xs.length) by simp; omega, lk_append, lk_none] at h; cases h
theorem xl_16 {p0 p1 p2 p3 p4 p5 p6 p7 p8 p9 p10 p11 p12 p13 p14 p15 G : Prop} (h : ((((((((((((((p0 /\ p1) /\ p2) /\ p3) /\ p4) /\ p5) /\ p6) /\ p7) /\ p8) /\ p9) /\ p10) /\ p11) /\ p12) /\ p13) /\ p14) /\ p15) (f : p0 -> p1 -> p2 -> p3 -> p4 -> p5 -> p6 -> p7 -> p8 -> p9 -> p10 -> p11 -> p12 -> p13 -> p14 -> p15 -> G) : G := by obtain ⟨⟨⟨⟨⟨⟨⟨⟨⟨⟨⟨⟨⟨⟨⟨h0, h1⟩, h2⟩, h3⟩, h4⟩, h5⟩, h6⟩, h7⟩, h8⟩, h9⟩, h10⟩, h11⟩, h12⟩, h13⟩, h14⟩, h15⟩ := h; exact f h0 h1 h2 h3 h4 h5 h6 h7 h8 h9 h10 h11 h12 h13 h14 h15
set_option maxHeartbeats 1000000 in
theorem fn_code (G : C.Good) {fa : Addr} {o : Obj} {fd : FuncData} {vs : Vs} {np n : Nat} {q : Bool} {body : List St} {args : List V} (ho : C.h0.get? fa = some o) (hd : o.data = .func fd) (hcd : C.h0.CodeRec fd.code fd.qualname)
  (hok : okFn fd vs np body = true) (hl : args.length = np)
  (W : wpSs C ⟨n, q⟩ body (args.map some ++ List.replicate (vs.length - np) none) H (fun f zz H' => match f with | .ret v => Q v H' | .next => Q .none H') (fun c zz H' => X c H')) (A : Around) (s : Shared) (cargs : List Value) (ok : Ok C ⟨n + 1, q⟩ H A s) (rs : VRs C s.heap args cargs) :
  codeAny C.M A (.call (.ref fa) ⟨cargs, []⟩) (fun r s' => match r with | .ok (.ret v) => QP C H s Q v s' | .ok _ => False | .error e => XQ false C No H s X e s') s := by
 unfold okFn at hok
 simp only [Bool.and_eq_true, List.isEmpty_iff, Option.isNone_iff_eq_none, beq_iff_eq, decide_eq_true_eq, Bool.not_eq_true', List.all_eq_true] at hok
 refine xl_16 hok fun hb p1 p2 p3 p4 p5 p6 p7 p8 p9 p10 p11 p12 p13 p14 p15 => ?_
 clear hok
 cases hbd : fd.body with
 | expr e => rw [hbd] at hb; cases hb
 | stmts body' =>
  rw [hbd] at hb
  have hlc := rs.length
  have hnames : ((vs.take np).map (·.1)).length = np := by simp; (clear hl p13 p14 hlc; omega)
  have ndn : ((vs.take np).map (·.1)).Nodup := by rw [List.map_take]; exact p11.sublist (List.take_sublist ..)
  have hbind : bindArgs fd ⟨cargs, []⟩ = pure (((vs.take np).map (·.1)).zip cargs) := bind_plain p1 p5 p2 p3 p4 p15 (by (clear p6 p13 p14; omega)) ndn
  have hmem : ∀ (i : Nat) (x : Str) (k : Vk), vs[i]? = some (x, k) -> (k = .loc /\ fd.scope.names.lookup x = some .local) ∨ (k = .cel /\ fd.scope.names.lookup x = some .cell) := fun i x k e => by
   have := p10 (x, k) (List.mem_of_getElem? e)
   cases k with
   | loc => exact .inl ⟨rfl, by simpa using this⟩
   | cel => exact .inr ⟨rfl, by simpa using this⟩
   | hid => cases this
  refine (codeAny_call_cells (by have := ok.room.1; show A.depth < recursionLimit; (clear hl p6 p13 p14 hlc hnames; omega)) (ok.top _ _ ho) hd (G.nolimit.keeps ok.top) (hcd.keeps ok.top) hbd hbind p12 (fun x hx => ?_) (fun s₁ ic => ?_) p9 p8 p7)
  ·obtain ⟨nm, vl⟩ := x
   have hm := List.of_mem_zip hx
   refine Vc.xa_1_2 (List.mem_map.mp hm.1) fun ho144_0 hy hr144_2 => ?_
   obtain ⟨y, k⟩ := ho144_0
   subst hr144_2
   refine Vc.xa_1_1 (List.mem_iff_getElem?.mp (List.mem_of_mem_take hy)) fun i hi => ?_
   rcases hmem i y k hi with ⟨_, e⟩ | ⟨_, e⟩
   ·exact .inl e
   ·exact .inr ⟨e, cells_has _ _ _ (.inl e)⟩
  ·generalize henv : callEnvC fd s.heap.objs.size fa = env at *
   have hloc : env.locals = s.heap.objs.size := by rw [<- henv]; rfl
   have hcel : env.cells = cellsFrom (s.heap.objs.size + 1) fd.scope.names [] := by rw [<- henv]; rfl
   have hkind : env.kindOf = fun x => fd.scope.names.lookup x := by rw [<- henv]; rfl
   refine Vc.xa_2_2 ic.done fun h1 tk hs1 hk1 => ?_
   have st1 : Step C No H s H s₁ := Step.keeps ok.rel ok.top (fun b o e => by rw [hs1]; exact hk1 b o e) (by rw [hs1]) (by rw [hs1])
   have newL : s.heap.get? env.locals = none := by rw [hloc]; exact fresh_size _
   have newC : ∀ x c, env.cells.lookup x = some c -> s.heap.get? c = none := fun x c e => by
    have hlt := ic.above x c (mem_of_lookup e)
    rw [hloc] at hlt
    cases w : s.heap.get? c with
    | none => rfl
    | some ob => exact absurd (Nat.lt_trans hlt (Heap.lt_size w)) (Nat.lt_irrefl _)
   have newD : ∀ b, Dm env b -> s.heap.get? b = none := fun b hb => by
    rcases hb with rfl | ⟨x, e⟩
    ·exact newL
    ·exact newC x b e
   have ES : EnvS env vs fd.scope.names := by
    refine ⟨by rw [<- henv]; exact p7, by rw [<- henv]; rfl, by rw [<- henv]; exact p13, by rw [<- henv]; exact p14, fun i x e => ?_, fun i x e => ?_, fun i j x k k' e e' zz zz => ?_, fun x y c e e' => ?_⟩
    ·rcases hmem i x _ e with ⟨_, w⟩ | ⟨w, _⟩
     ·exact w
     ·cases w
    ·rcases hmem i x _ e with ⟨w, _⟩ | ⟨_, w⟩
     ·cases w
     ·exact w
    ·have e1 : (vs.map (·.1))[i]? = some x := by rw [List.getElem?_map, e]; rfl
     have e2 : (vs.map (·.1))[j]? = some x := by rw [List.getElem?_map, e']; rfl
     exact (List.getElem?_inj (List.getElem?_eq_some_iff.mp e1).1 p11).mp (e1.trans e2.symm)
    ·exact name_of_addr ic.apart (mem_of_lookup e) (mem_of_lookup e')
   have hidx : ∀ (i : Nat) (x : Str) (k : Vk) (v : V), vs[i]? = some (x, k) -> lk (args.map some ++ List.replicate (vs.length - np) none) i = some v -> ∃ cv, ((vs.take np).map (·.1))[i]? = some x /\ cargs[i]? = some cv /\ VR C s.heap v cv := fun i x k v e l => by
    have ha := lk_map l
    have hi : i < np := by rw [<- hl]; exact (List.getElem?_eq_some_iff.mp ha).1
    refine Vc.xa_1_2 (rs.get ha) fun cv e1 e2 => ?_
    refine ⟨cv, ?_, e1, e2⟩
    rw [List.getElem?_map, List.getElem?_take_of_lt hi, e]; rfl
   have fi : FI C env vs (args.map some ++ List.replicate (vs.length - np) none) H s₁.heap := by
    refine ⟨by simp; (clear p13 p14 hlc hnames hloc; omega), ok.rel.fresh newL, fresh_top ok.top newL, ⟨_, ic.toInCall.ns, fun i x v e l => ?_⟩, fun i x e => ?_, fun x c e => ?_⟩
    ·refine Vc.xa_1_3 (hidx i x _ v e l) fun cv a1 a2 a3 => ?_
     exact ⟨cv, bindL_get (by (clear p6 p13 p14 hloc; omega)) ndn a1 a2 (by rw [hkind]; exact ES.loc i x e), a3.keep st1.vk⟩
    ·have hx := ES.cel i x e
     refine Vc.xa_1_1 (Option.isSome_iff_exists.mp (cells_has (x := x) fd.scope.names (s.heap.objs.size + 1) [] (.inl hx))) fun c hc => ?_
     rw [<- hcel] at hc
     refine ⟨c, _, hc, ok.rel.fresh (newC x c hc), fresh_top ok.top (newC x c hc), ic.cell x c hc, fun v l => ?_⟩
     refine Vc.xa_1_3 (hidx i x _ v e l) fun cv a1 a2 a3 => ?_
     exact ⟨cv, bindC_get (by (clear p6 p13 p14 hloc; omega)) ndn a1 a2 (by rw [hkind]; show fd.scope.names.lookup x ≠ some .local; rw [hx]; decide), a3.keep st1.vk⟩
    ·exact ⟨ok.rel.fresh (newC x c e), fresh_top ok.top (newC x c e), _, ic.cell x c e⟩
   have hfrm : env.frame = some env.locals := by rw [<- henv]; rfl
   refine Vc.xa_1_2 ok.frs fun l hfr hfl => ?_
   have ok1 : Ok C ⟨n, q⟩ H (A.deeper env) s₁ := by
    refine ⟨st1.rel, st1.top, ⟨?_, ?_⟩, ⟨ok.hnd.1, (ok.step st1).hnd.2⟩, env :: l, by show A.frames.map _ = _; rw [hfr]; rfl, fun e he => ?_⟩
    ·have := ok.room.1; show A.depth + 1 + 2 * n + 2 < recursionLimit; dsimp only at this; (clear hl p6 p13 p14 hlc hnames hloc; omega)
    ·have := ok.room.2; show A.units + 3 + 8 * n + 40 < cLine; dsimp only at this; (clear hl p6 p13 p14 hlc hnames hloc; omega)
    ·cases he with
     | head =>
      refine Vc.xa_1_2 fi.ns fun m ho203_1 zz => ?_
      obtain ⟨o', es, ep, ho', hd', _⟩ := ho203_1
      exact ⟨by rw [ES.kind]; decide, env.locals, o', es, ep, hfrm, ho', hd', fi.locH, fi.loc0⟩
     | tail _ he => exact hfl.step st1 e he
   have ea : EA (A.deeper env) env := ⟨env, l, by show A.frames.map _ = _; rw [hfr]; rfl, rfl⟩
   have run := sSs G body body' vs fd.scope.names hb env (A.deeper env) s₁ _ H _ _ ES ea ok1 fi W
   refine wpAny_mono run (fun fl s' hsp => ?_) fun e s' hx => ?_
   ·refine Vc.xa_3_4 hsp fun f ρ' H' st' fi' fr K' => ?_
    try clear hsp
    have st := st1.trans_new st' newD (fun zz f => f.elim)
    cases f with
    | next => cases fr; exact ⟨.none, H', st, rfl, K'⟩
    | ret v => obtain ⟨cv, rfl, r⟩ := fr; exact ⟨v, H', st, r, K'⟩
   ·refine leave (fenv := env) (outer := l) stX_St ok1 (by show A.frames.map _ = _; rw [hfr]; rfl) rfl (fun H' s' st' => ?_) hx fun s'' hx' => ?_
    ·exact frl_of (fenv := env) (outer := l) ok1 (by show A.frames.map _ = _; rw [hfr]; rfl) st'
    ·obtain ⟨a, c, H', rfl, st', hD', fl, ρ', fi', hX⟩ := hx'
     have st := st1.trans_new st' newD (fun zz f => f.elim)
     exact XG.mono ⟨a, c, H', rfl, st, fun zz f => f.elim, fl.back st1, hX⟩
theorem fn_call (G : C.Good) {fa : Addr} {o : Obj} {fd : FuncData} {vs : Vs} {np n : Nat} {q : Bool} {body : List St} {args : List V} (ho : C.h0.get? fa = some o) (hd : o.data = .func fd) (hcd : C.h0.CodeRec fd.code fd.qualname)
  (hok : okFn fd vs np body = true) (hl : args.length = np)
  (W : wpSs C ⟨n, q⟩ body (args.map some ++ List.replicate (vs.length - np) none) H (fun f zz H' => match f with | .ret v => Q v H' | .next => Q .none H') (fun c zz H' => X c H')) : CallV C ⟨n + 1, q⟩ (.ref fa) args H Q X :=
 fun A s cargs ok rs => wpAny_call (fn_code G ho hd hcd hok hl W A s cargs ok rs)
end
end Vc
end
section
namespace Vc
open PySem PyProof.Rows
mutual
inductive VD (H : MH) : V -> PyData -> Prop
 | none : VD H .none .none
 | bool (b : Bool) : VD H (.bool b) (.bool b)
 | int (i : Int) : VD H (.int i) (.int i)
 | str (s : Str) : VD H (.str s) (.str s)
 | tup {l : List V} {ds : List PyData} : VDs H l ds -> VD H (.tup l) (.tuple ds)
 | lst {a : Addr} {l : List V} {ds : List PyData} : H a = some (.lst l) -> VDs H l ds -> VD H (.ref a) (.list ds)
 | fro {a : Addr} {l : List V} {ds : List PyData} : H a = some (.fro l) -> VDs H l ds -> VD H (.ref a) (.list ds)
inductive VDs (H : MH) : List V -> List PyData -> Prop
 | nil : VDs H [] []
 | cons {x : V} {d : PyData} {xs : List V} {ds : List PyData} : VD H x d -> VDs H xs ds -> VDs H (x :: xs) (d :: ds)
end
theorem VD.reads {C : Cx} {H : MH} {h : Heap} (r : HR C H h) {v : V} {d : PyData} {cv : Value} (z : VD H v d) (x : VR C h v cv) : ∃ as, Reads h cv d as := by
 refine VD.rec (motive_1 := fun v d zz => ∀ cv, VR C h v cv -> ∃ as, Reads h cv d as) (motive_2 := fun l ds zz => ∀ cvs, VRs C h l cvs -> ∃ as, ReadsAll h cvs ds as) ?_ ?_ ?_ ?_ ?_ ?_ ?_ ?_ ?_ z cv x
 ·intro cv x; cases (show cv = .none from x); exact ⟨_, .none⟩
 ·intro b cv x; cases (show cv = .bool b from x); exact ⟨_, .bool _⟩
 ·intro i cv x; obtain ⟨t, rfl⟩ := (show ∃ t, cv = .int i t from x); exact ⟨_, .int _ _⟩
 ·intro i cv x; obtain ⟨t, rfl⟩ := (show ∃ t, cv = .str i t from x); exact ⟨_, .str _ _⟩
 ·intro l ds y ih cv x
  refine Vc.xa_2_3 ((show ∃ a items, (cv = .ref a /\ NoDict h a) /\ h.IsTuple a items /\ VRs C h l items.toList from x)) fun a items ho28_2 ho28_3 rs => ?_
  obtain ⟨rfl, nd⟩ := ho28_2
  obtain ⟨o, ho, hc, n, hd⟩ := ho28_3
  exact (ih _ rs).elim fun as q => ⟨_, .tuple ho hc hd q⟩
 ·intro a l ds e y ih cv x; cases (show cv = .ref a from x)
  obtain ⟨_, items, ⟨n, ho⟩, rs⟩ := r _ _ e
  exact (ih _ rs).elim fun as q => ⟨_, .list ho rfl rfl q⟩
 ·intro a l ds e y ih cv x; cases (show cv = .ref a from x)
  refine Vc.xa_1_2 (r _ _ e) fun items ho34_1 rs => ?_
  obtain ⟨o, ho, hc, n, hd⟩ := ho34_1
  exact (ih _ rs).elim fun as q => ⟨_, .list ho hc hd q⟩
 ·intro cvs x; cases x.inv_nil; exact ⟨_, .nil⟩
 ·intro x d xs ds y ys ih1 ih2 cvs x
  refine Vc.xa_2_3 x.inv_cons fun v vs hr38_2 h1 h2 => ?_
  subst hr38_2
  exact (ih1 _ h1).elim fun as q => (ih2 _ h2).elim fun bs q' => ⟨_, .cons q q'⟩
section
variable {C : Cx} {d : Md} {H : MH} {A : Around} {s : Shared} {Q : V -> MH -> Prop} {X : XP}
theorem Ok.units (ok : Ok C d H A s) : A.units + 40 < cLine := by have := ok.room.2; omega
theorem qp {r : V} {cv : Value} {s' : Shared} (st : Step C No H s H s') (vr : VR C s'.heap r cv) (q : Q r H) : QP C H s Q cv s' := ⟨r, H, st, vr, q⟩
theorem qp' {r : V} {cv : Value} {H' : MH} {s' : Shared} (st : Step C No H s H' s') (vr : VR C s'.heap r cv) (q : Q r H') : QP C H s Q cv s' := ⟨r, H', st, vr, q⟩
theorem VR.int_ {h : Heap} {i : Int} {t : Tok} : VR C h (.int i) (.int i t) := by dsimp only [VR]; exact ⟨t, rfl⟩
theorem VR.bool_ {h : Heap} {b : Bool} : VR C h (.bool b) (.bool b) := by dsimp only [VR]
theorem VR.none_ {h : Heap} : VR C h .none .none := by dsimp only [VR]
theorem VR.str_ {h : Heap} {x : Str} {t : Tok} : VR C h (.str x) (.str x t) := by dsimp only [VR]; exact ⟨t, rfl⟩
theorem VR.ref_ {h : Heap} {a : Addr} : VR C h (.ref a) (.ref a) := by dsimp only [VR]
theorem bin_add {a b : Int} (q : Q (.int (a + b)) H) : BinW C d .Add (.int a) (.int b) H Q X := fun A s ca cb ok ra rb => by
 dsimp only [VR] at ra rb; obtain ⟨t, rfl⟩ := ra; obtain ⟨u, rfl⟩ := rb
 exact add_int (qp (ok.toks _) .int_ q)
theorem bin_sub {a b : Int} (q : Q (.int (a - b)) H) : BinW C d .Sub (.int a) (.int b) H Q X := fun A s ca cb ok ra rb => by
 dsimp only [VR] at ra rb; obtain ⟨t, rfl⟩ := ra; obtain ⟨u, rfl⟩ := rb
 exact sub_int (qp (ok.toks _) .int_ q)
theorem bin_mul {a b : Int} (q : Q (.int (a * b)) H) (hm : IntMulOk a b) : BinW C d .Mult (.int a) (.int b) H Q X := fun A s ca cb ok ra rb => by
 dsimp only [VR] at ra rb; obtain ⟨t, rfl⟩ := ra; obtain ⟨u, rfl⟩ := rb
 exact mul_int (qp (ok.toks _) .int_ q) hm
theorem bin_mod {a b : Int} (hb : b ≠ 0) (q : Q (.int (a.fmod b)) H) : BinW C d .Mod (.int a) (.int b) H Q X := fun A s ca cb ok ra rb => by
 dsimp only [VR] at ra rb; obtain ⟨t, rfl⟩ := ra; obtain ⟨u, rfl⟩ := rb
 exact mod_int hb (qp (ok.toks _) .int_ q)
theorem bin_fdiv {a b : Int} (hb : b ≠ 0) (hp : Builtin.divisionGoesByPylong a b = false) (q : Q (.int (a.fdiv b)) H) : BinW C d .FloorDiv (.int a) (.int b) H Q X := fun A s ca cb ok ra rb => by
 dsimp only [VR] at ra rb; obtain ⟨t, rfl⟩ := ra; obtain ⟨u, rfl⟩ := rb
 exact floordiv_int hb (qp (ok.toks _) .int_ q) (.inl hp)
theorem cmp_eq {a b : V} {da db : PyData} (va : VD H a da) (vb : VD H b db) (ha : da.canLay0 = true) (hb : db.canLay0 = true) (hd : min da.depth db.depth <= 8) (q : Q (.bool (PyData.eqv da db)) H) : CmpW C d .Eq a b H Q X := fun A s ca cb ok ra rb => by
 refine Vc.xa_1_1 (va.reads ok.rel ra) fun as r1 => ?_
 refine Vc.xa_1_1 (vb.reads ok.rel rb) fun bs r2 => ?_
 exact SeqAt.compareEq_reads r1 r2 ha hb (by have := ok.units; omega) (qp ok.refl .bool_ q)
theorem cmp_ne {a b : V} {da db : PyData} (va : VD H a da) (vb : VD H b db) (ha : da.canLay0 = true) (hb : db.canLay0 = true) (hd : min da.depth db.depth <= 8) (q : Q (.bool (!PyData.eqv da db)) H) : CmpW C d .NotEq a b H Q X := fun A s ca cb ok ra rb => by
 refine Vc.xa_1_1 (va.reads ok.rel ra) fun as r1 => ?_
 refine Vc.xa_1_1 (vb.reads ok.rel rb) fun bs r2 => ?_
 exact SeqAt.compareNe_reads r1 r2 ha hb (by have := ok.units; omega) (qp ok.refl .bool_ q)
theorem cmp_nin {a b : V} {da db : PyData} {xs : List PyData} (va : VD H a da) (vb : VD H b db) (hx : db = .list xs ∨ db = .tuple xs) (ha : da.canLay0 = true) (hb : PyData.canLayAll0 xs = true) (hd : min (PyData.depthAll xs) da.depth <= 8) (q : Q (.bool (!xs.any fun y => PyData.eqv y da)) H) : CmpW C d .NotIn a b H Q X := fun A s ca cb ok ra rb => by
 refine Vc.xa_1_1 (va.reads ok.rel ra) fun as r1 => ?_
 refine Vc.xa_1_1 (vb.reads ok.rel rb) fun bs r2 => ?_
 rcases hx with rfl | rfl
 ·exact SeqAt.notIn_list_reads r2 r1 hb ha (by have := ok.units; omega) (qp ok.refl .bool_ q)
 ·exact SeqAt.notIn_tuple_reads r2 r1 hb ha (by have := ok.units; omega) (qp ok.refl .bool_ q)
theorem cmp_lt {a b : Int} (q : Q (.bool (decide (a < b))) H) : CmpW C d .Lt (.int a) (.int b) H Q X := fun A s ca cb ok ra rb => by
 dsimp only [VR] at ra rb; obtain ⟨t, rfl⟩ := ra; obtain ⟨u, rfl⟩ := rb
 exact lt_int (qp ok.refl .bool_ q)
theorem cmp_le {a b : Int} (q : Q (.bool (decide (a <= b))) H) : CmpW C d .LtE (.int a) (.int b) H Q X := fun A s ca cb ok ra rb => by
 dsimp only [VR] at ra rb; obtain ⟨t, rfl⟩ := ra; obtain ⟨u, rfl⟩ := rb
 exact le_int (qp ok.refl .bool_ q)
theorem cmp_gt {a b : Int} (q : Q (.bool (decide (a > b))) H) : CmpW C d .Gt (.int a) (.int b) H Q X := fun A s ca cb ok ra rb => by
 dsimp only [VR] at ra rb; obtain ⟨t, rfl⟩ := ra; obtain ⟨u, rfl⟩ := rb
 exact gt_int (qp ok.refl .bool_ q)
theorem cmp_ge {a b : Int} (q : Q (.bool (decide (a ≥ b))) H) : CmpW C d .GtE (.int a) (.int b) H Q X := fun A s ca cb ok ra rb => by
 dsimp only [VR] at ra rb; obtain ⟨t, rfl⟩ := ra; obtain ⟨u, rfl⟩ := rb
 exact ge_int (qp ok.refl .bool_ q)
theorem cmp_eq_int {a b : Int} (q : Q (.bool (a == b)) H) : CmpW C d .Eq (.int a) (.int b) H Q X := cmp_eq (.int a) (.int b) rfl rfl (by simp [PyData.depth]) (by simpa [PyData.eqv] using q)
theorem cmp_ne_int {a b : Int} (q : Q (.bool (!(a == b))) H) : CmpW C d .NotEq (.int a) (.int b) H Q X := cmp_ne (.int a) (.int b) rfl rfl (by simp [PyData.depth]) (by simpa [PyData.eqv] using q)
theorem tru_bool {b : Bool} {Q : Bool -> MH -> Prop} (q : Q b H) : TruW C d (.bool b) H Q X := fun A s ca ok ra => by
 dsimp only [VR] at ra; subst ra; exact wpAny_truthy_bool ⟨H, ok.refl, q⟩
theorem una_not {a : V} (q : TruW C d a H (fun b H' => Q (.bool (!b)) H') X) : UnaW C d .Not a H Q X := fun A s ca ok ra =>
 not_value (wpAny_mono (q A s ca ok ra) (fun b s' hq1 => Vc.xa_1_2 hq1 fun H' st q => ⟨_, H', st, .bool_, q⟩) fun zz zz x => x)
theorem una_neg {a : Int} (q : Q (.int (-a)) H) : UnaW C d .USub (.int a) H Q X := fun A s ca ok ra => by
 dsimp only [VR] at ra; obtain ⟨t, rfl⟩ := ra; exact neg_int (qp (ok.toks _) .int_ q)
theorem list_at {a : Addr} {l : List V} (r : HR C H s.heap) (h : itemsOf H (.ref a) = some l) : ∃ items, s.heap.IsList a items /\ VRs C s.heap l items.toList := list_of r h
theorem gip {T id : String} {co : Value} {A : Around} (hT : s.TypeIs co T) (hl : typeLookup (.type T) "__getitem__" = pure (some (.builtin id))) : wpAny C.M A (getitemInPython co) (fun b s' => b = false /\ s' = s) (fun zz zz => False) s := by
 rw [getitemInPython_of_ne hT.not_modules]
 exact wpAny_bind (wpAny_specialOf hT hl (wpAny_pure ⟨rfl, rfl⟩))
theorem sub_list {a : Addr} {l : List V} {i : Int} {x : V} (h : itemsOf H (.ref a) = some l) (hl : l.length <= sizeLine) {j : Nat} (hj : seqIndex? i l.length = some j) (hx : l[j]? = some x) (q : Q x H) : SubW C d (.ref a) (.int i) H Q X := fun A s co ci ok ro ri => by
 dsimp only [VR] at ro; dsimp only [VR] at ri; subst ro; obtain ⟨t, rfl⟩ := ri
 refine Vc.xa_1_2 (list_at ok.rel h) fun items hL rs => ?_
 refine Vc.xa_1_2 (rs.get hx) fun cx hcx rx => ?_
 have hn := rs.length
 simp only [Array.length_toList] at hn
 have hz : sizeLine < 2 ^ 62 := by decide
 refine ⟨gip hL.typeIs slot_list_getitem.lookup, ?_⟩
 rw [Array.getElem?_toList] at hcx
 simp only [seqIndex?] at hj
 have hjl : j < l.length := (List.getElem?_eq_some_iff.mp hx).1
 by_cases hi : i < 0
 ·rw [if_pos hi] at hj
  split at hj
  ·rename_i hb
   cases hj
   refine wpAny_getItem_list_neg hL hi (by simp at hb; (clear hl hz hi hjl; omega)) (by simp at hb; (clear hn hi hjl; omega)) ?_ (qp ok.refl rx q)
   rw [<- hn]; exact hcx
  ·cases hj
 ·rw [if_neg hi] at hj
  split at hj
  ·cases hj
   exact wpAny_getItem_list hL (by (clear hl hn hz hjl; omega)) (by (clear hn hi; omega)) hcx (qp ok.refl rx q)
  ·cases hj
end
end Vc
end
section
namespace Vc
open PySem PyProof.Rows
noncomputable def vsl (l : List V) (lo hi : Option Int) : List V := (l.drop (lo.elim 0 (clipAt l.length))).take (hi.elim l.length (clipAt l.length) - lo.elim 0 (clipAt l.length))
inductive Prt : V -> Option Int -> Prop
 | none : Prt .none none
 | int (i : Int) : Prt (.int i) (some i)
section
variable {C : Cx} {d : Md} {H : MH} {A : Around} {s : Shared} {Q : V -> MH -> Prop} {X : XP}
theorem Prt.is {h : Heap} {v : V} {k : Option Int} {cv : Value} (p : Prt v k) (r : VR C h v cv) : IsPart cv k := by
 cases p with
 | none => dsimp only [VR] at r; subst r; exact .none
 | int i => dsimp only [VR] at r; obtain ⟨t, rfl⟩ := r; exact .int i t
theorem sub_tup {l : List V} {i : Int} {x : V} {j : Nat} (hj : seqIndex? i l.length = some j) (hl : l.length <= sizeLine) (hx : l[j]? = some x) (q : Q x H) : SubW C d (.tup l) (.int i) H Q X := fun A s co ci ok ro ri => by
 dsimp only [VR] at ro; dsimp only [VR] at ri; obtain ⟨a, items, ⟨rfl, nd⟩, ht, rs⟩ := ro; obtain ⟨t, rfl⟩ := ri
 refine Vc.xa_1_2 (rs.get hx) fun cx hcx rx => ?_
 have hn := rs.length
 simp only [Array.length_toList] at hn
 have hz : sizeLine < 2 ^ 62 := by decide
 rw [Array.getElem?_toList] at hcx
 obtain ⟨o, ho, hc, n, hd⟩ := id ht
 refine ⟨gip (T := "tuple") ⟨o, ho, hc⟩ slot_tuple_getitem.lookup, ?_⟩
 have hb : -(2 ^ 63) <= i /\ i < 2 ^ 63 := by
  simp only [seqIndex?] at hj
  by_cases hi : i < 0
  ·rw [if_pos hi] at hj
   split at hj
   ·rename_i hb; simp at hb; (clear hn hi; omega)
   ·cases hj
  ·rw [if_neg hi] at hj
   split at hj
   ·rename_i hb; simp at hb; (clear hn hi; omega)
   ·cases hj
 exact PyProof.Rows.getItem_tuple ⟨o, ho, hc, n, hd⟩ hb.1 hb.2 (by rw [<- hn]; exact hj) hcx (qp ok.refl rx q)
theorem alloc_list {vs : List V} {items : Array Value} {s' : Shared} (ok : Ok C d H A s) (r : VRs C s.heap vs items.toList) (hs : s'.heap = s.heap.push { cls := .type "list", data := .seq items }) (g : s'.gens = s.gens) (os : s'.os = s.os) :
  Step C No H s (upd H s.heap.objs.size (.lst vs)) s' /\ H s.heap.objs.size = none := by
 refine ⟨Step.alloc ok.rel ok.top (o := .lst vs) ⟨?_, items, ⟨0, Heap.get?_push_size _ rfl⟩, r.keep (.of_keeps fun b o e => Heap.get?_push_of_some _ e)⟩ hs g os, ok.rel.fresh (fresh_size _)⟩
 cases e : C.h0.get? s.heap.objs.size with
 | none => rfl
 | some o => have := ok.top _ _ e; rw [fresh_size] at this; cases this
theorem sli_list {a : Addr} {l : List V} {vl vu : V} {lo hi : Option Int} (h : itemsOf H (.ref a) = some l) (hl : l.length <= sizeLine) (pl : Prt vl lo) (pu : Prt vu hi)
  (q : ∀ b, H b = none -> Q (.ref b) (upd H b (.lst (vsl l lo hi)))) : SliW C d (.ref a) vl vu .none H Q X := fun A s co cl cu ct p ok ro rl ru rt hp => by
 dsimp only [VR] at ro; dsimp only [VR] at rt; subst ro rt
 refine Vc.xa_1_2 (list_at ok.rel h) fun items hL rs => ?_
 have hn := rs.length
 simp only [Array.length_toList] at hn
 refine ⟨gip hL.typeIs slot_list_getitem.lookup, wpAny_getItem_list_slice hL ⟨_, hp, rfl, rfl⟩ (pl.is rl) (pu.is ru) .none (by simp) ?_ (by omega)⟩
 have key : VRs C s.heap (vsl l lo hi) (slicePick items lo hi none).toList := by
  rw [slicePick_plain, vsl, hn]
  exact (rs.drop _).take _
 refine Vc.xa_0_2 (alloc_list (s' := { s with heap := s.heap.push { cls := .type "list", data := .seq (slicePick items lo hi none) } }) ok key rfl rfl rfl) fun st hf => ?_
 exact qp' st .ref_ (q _ hf)
theorem bin_cat {a b : Addr} {l m : List V} (ha : itemsOf H (.ref a) = some l) (hb : itemsOf H (.ref b) = some m) (hsz : l.length + m.length <= sizeLine) (q : ∀ c, H c = none -> Q (.ref c) (upd H c (.lst (l ++ m)))) : BinW C d .Add (.ref a) (.ref b) H Q X := fun A s ca cb ok ra rb => by
 dsimp only [VR] at ra rb; subst ra rb
 refine Vc.xa_1_2 (list_at ok.rel ha) fun items hL rs => ?_
 refine Vc.xa_1_2 (list_at ok.rel hb) fun items2 hL2 rs2 => ?_
 have hn := rs.length
 have hn2 := rs2.length
 simp only [Array.length_toList] at hn hn2
 obtain ⟨⟨cls, dd, data, sl⟩, ho, hc, n, hd⟩ := id hL
 obtain ⟨⟨cls2, dd2, data2, sl2⟩, ho2, hc2, n2, hd2⟩ := id hL2
 simp only at hc hd hc2 hd2
 subst hc hd hc2 hd2
 refine concat_meets ⟨_, ho, rfl⟩ ⟨_, ho2, rfl⟩ noFill_list_add seq_list_add PySem.F.slot_list_add PySem.F.entry_list_add (PySem.F.args_list_add_2 _ _) (list_addW a b items items2 n n2 dd dd2 sl sl2 (by omega)) ⟨ho, ho2, ?_⟩
 have key : VRs C s.heap (l ++ m) (items ++ items2).toList := by rw [Array.toList_append]; exact rs.append rs2
 refine Vc.xa_0_2 (alloc_list (s' := { s with heap := s.heap.push { cls := .type "list", data := .seq (items ++ items2) } }) ok key rfl rfl rfl) fun st hf => ?_
 exact qp' st .ref_ (q _ hf)
theorem args1 {h : Heap} {x : V} {cs : List Value} (r : VRs C h [x] cs) : ∃ c, cs = [c] /\ VR C h x c := by
 refine Vc.xa_2_3 r.inv_cons fun c cs' hr81_2 h1 h2 => ?_
 subst hr81_2
 have := h2.inv_nil; subst this
 exact ⟨c, rfl, h1⟩
theorem args2 {h : Heap} {x y : V} {cs : List Value} (r : VRs C h [x, y] cs) : ∃ c e, cs = [c, e] /\ VR C h x c /\ VR C h y e := by
 refine Vc.xa_2_3 r.inv_cons fun c cs' hr85_2 h1 h2 => ?_
 subst hr85_2
 refine Vc.xa_1_2 (args1 h2) fun e hr86_1 h3 => ?_
 subst hr86_1
 exact ⟨c, e, rfl, h1, h3⟩
theorem args3 {h : Heap} {x y z : V} {cs : List Value} (r : VRs C h [x, y, z] cs) : ∃ c e f, cs = [c, e, f] /\ VR C h x c /\ VR C h y e /\ VR C h z f := by
 refine Vc.xa_2_3 r.inv_cons fun c cs' hr89_2 h1 h2 => ?_
 subst hr89_2
 refine Vc.xa_2_3 (args2 h2) fun e f hr90_2 h3 h4 => ?_
 subst hr90_2
 exact ⟨c, e, f, rfl, h1, h3, h4⟩
theorem call_w {f : String} {fv : Value} {args : List V} (hG : C.G f fv) (h : CallV C d fv args H Q X) : CallW C d f args H Q X := fun fv' g => by rw [<- hG.uniq g]; exact h
theorem cv_len_list {a : Addr} {l : List V} (h : itemsOf H (.ref a) = some l) (hl : l.length <= sizeLine) (q : Q (.int l.length) H) : CallV C d (.builtin "len") [.ref a] H Q X := fun A s cs ok rs => by
 refine Vc.xa_1_2 (args1 rs) fun c hr96_1 r => ?_
 subst hr96_1
 dsimp only [VR] at r; subst r
 refine Vc.xa_1_2 (list_at ok.rel h) fun items hL rs => ?_
 have hn := rs.length
 simp only [Array.length_toList] at hn
 have hz : sizeLine < 2 ^ 62 := by decide
 exact Calls.call_len_list hL (by omega) (qp (ok.toks _) (by rw [hn]; exact .int_) q)
theorem cv_len_tup {l : List V} (hl : l.length <= sizeLine) (q : Q (.int l.length) H) : CallV C d (.builtin "len") [.tup l] H Q X := fun A s cs ok rs => by
 refine Vc.xa_1_2 (args1 rs) fun c hr104_1 r => ?_
 subst hr104_1
 dsimp only [VR] at r; obtain ⟨a, items, ⟨rfl, nd⟩, ⟨o, ho, hc, n, hd⟩, rs⟩ := r
 have hn := rs.length
 simp only [Array.length_toList] at hn
 have hz : sizeLine < 2 ^ 62 := by decide
 exact PyProof.Rows.len_tuple ⟨o, ho, hc, n, hd⟩ (by omega) (qp (ok.toks _) (by rw [hn]; exact .int_) q)
theorem push_keeps {s' : Shared} {ob : Obj} {tk : Nat} (ok : Ok C d H A s) (hs : s' = { s with heap := s.heap.push ob, toks := tk }) : Step C No H s H s' := by
 subst hs; exact Step.keeps ok.rel ok.top (fun b o e => Heap.get?_push_of_some _ e) rfl rfl
theorem cv_range1 {n : Int} (q : Q (.rng 0 n 1) H) : CallV C d (.type "range") [.int n] H Q X := fun A s cs ok rs => by
 refine Vc.xa_1_2 (args1 rs) fun c hr115_1 r => ?_
 subst hr115_1
 dsimp only [VR] at r; obtain ⟨t, rfl⟩ := r
 exact call_range_1 (qp (push_keeps ok rfl) (by dsimp only [VR]; exact ⟨_, _, _, _, rfl, IsRange.new ..⟩) q)
theorem cv_range2 {a b : Int} (q : Q (.rng a b 1) H) : CallV C d (.type "range") [.int a, .int b] H Q X := fun A s cs ok rs => by
 refine Vc.xa_2_3 (args2 rs) fun c e hr119_2 r r' => ?_
 subst hr119_2
 dsimp only [VR] at r r'; obtain ⟨t, rfl⟩ := r; obtain ⟨u, rfl⟩ := r'
 exact call_range_2 (qp (push_keeps ok rfl) (by dsimp only [VR]; exact ⟨_, _, _, _, rfl, IsRange.new ..⟩) q)
theorem fresh0 (ok : Ok C d H A s) : C.h0.get? s.heap.objs.size = none := by
 cases e : C.h0.get? s.heap.objs.size with
 | none => rfl
 | some o => have := ok.top _ _ e; rw [fresh_size] at this; cases this
theorem Step.grow {o : O} {s' : Shared} (ok : Ok C d H A s) (k : ∀ b o, s.heap.get? b = some o -> s'.heap.get? b = some o) (ho : OR C s'.heap s.heap.objs.size o) (g : s'.gens = s.gens) (os : s'.os = s.os) : Step C No H s (upd H s.heap.objs.size o) s' := by
 refine ⟨fun b o' e => ?_, fun b o e zz zz => ⟨o.slots, k b o e, fun zz => rfl⟩, fun b o e => k b o (ok.top b o e), fun b e => ?_, fun b e => ?_, fun b d n => d.elim, .of_keeps k, g, os⟩
 ·by_cases q : b = s.heap.objs.size
  ·subst q; rw [upd_self] at e; cases e; exact ho
  ·rw [upd_ne q] at e; exact (ok.rel b o' e).keep (.of_keeps k) fun ob => k b ob
 ·by_cases q : b = s.heap.objs.size
  ·subst q; rw [upd_self]; rfl
  ·rw [upd_ne q]; exact e
 ·by_cases q : b = s.heap.objs.size
  ·subst q; exact .inr (fresh_size _)
  ·rw [upd_ne q] at e; exact .inl e
theorem cv_list {v : V} {l : List V} (hv : (∃ a, v = .ref a) ∨ (∃ m, v = .tup m)) (h : itemsOf H v = some l) (hl : l.length <= sizeLine) (q : ∀ b, H b = none -> Q (.ref b) (upd H b (.lst l))) : CallV C d (.type "list") [v] H Q X := fun A s cs ok rs => by
 obtain ⟨c, rfl, r⟩ := args1 rs
 have key : ∃ a T o items n, c = .ref a /\ (T = "list" ∨ T = "tuple") /\ s.heap.get? a = some o /\ o.cls = .type T /\ o.data = .seq items n /\ VRs C s.heap l items.toList := by
  rcases hv with ⟨a, rfl⟩ | ⟨m, rfl⟩
  ·dsimp only [VR] at r; subst r
   obtain ⟨items, ⟨o, ho, hc, n, hd⟩, rs⟩ := list_at ok.rel h
   exact ⟨a, _, o, items, n, rfl, .inl rfl, ho, hc, hd, rs⟩
  ·dsimp only [VR] at r; obtain ⟨a, items, ⟨rfl, nd⟩, ⟨o, ho, hc, n, hd⟩, rs⟩ := r
   simp only [itemsOf, Option.some.injEq] at h; subst h
   exact ⟨a, _, o, items, n, rfl, .inr rfl, ho, hc, hd, rs⟩
 obtain ⟨a, T, o, items, n, rfl, hT, ho, hc, hd, rs⟩ := key
 have hn := rs.length
 simp only [Array.length_toList] at hn
 refine call_list_seq a hT ho hc hd (fun h' c' k e => ?_) (by (clear hv hT; omega))
 refine qp' (Step.grow (o := .lst l) (s' := { s with heap := h' }) ok k ⟨fresh0 ok, items, ⟨c', e⟩, rs.keep (.of_keeps k)⟩ rfl rfl) .ref_ (q _ (ok.rel.fresh (fresh_size _)))
theorem cv_tuple {a : Addr} {l : List V} (h : itemsOf H (.ref a) = some l) (hl : l.length <= sizeLine) (q : Q (.tup l) H) : CallV C d (.type "tuple") [.ref a] H Q X := fun A s cs ok rs => by
 refine Vc.xa_1_2 (args1 rs) fun c hr161_1 r => ?_
 subst hr161_1
 dsimp only [VR] at r; subst r
 refine Vc.xa_1_2 (list_at ok.rel h) fun items hL rs => ?_
 have hn := rs.length
 simp only [Array.length_toList] at hn
 refine call_tuple_list hL (fun h' k => ?_) (by omega)
 have k' : ∀ b o, s.heap.get? b = some o -> (h'.push { cls := .type "tuple", data := .seq items }).get? b = some o := fun b o e => Heap.get?_push_of_some _ (k b o e)
 exact qp (Step.keeps ok.rel ok.top k' rfl rfl) (by dsimp only [VR]; exact ⟨_, items, ⟨rfl, .of (Heap.get?_push_size _ rfl) rfl⟩, ⟨_, Heap.get?_push_size _ rfl, rfl, _, rfl⟩, rs.keep (.of_keeps k')⟩) q
theorem cv_append {a : Addr} {l : List V} {x : V} (h : H a = some (.lst l)) (hl : l.length <= sizeLine) (q : Q .none (upd H a (.lst (l ++ [x])))) : CallV C d (.builtin "list.append") [.ref a, x] H Q X := fun A s cs ok rs => by
 refine Vc.xa_2_3 (args2 rs) fun c e hr180_2 r r' => ?_
 subst hr180_2
 dsimp only [VR] at r; subst r
 obtain ⟨h0, items, hL, rs⟩ := ok.rel _ _ h
 have hn := rs.length
 simp only [Array.length_toList] at hn
 refine wpAny_list_append_plain hL (fun h' hl' hs => ?_) (by omega)
 refine qp' (Step.mut (o := .lst (l ++ [x])) (s' := { s with heap := h' }) ok.rel ok.top (by rw [h]; rfl) h0 hs (fun ob hob => ?_) (fun ob es ep hob hd => ?_) (fun vk => ⟨h0, _, hl', ?_⟩) rfl rfl) .none_ q
 ·obtain ⟨n, e'⟩ := hL; rw [e'] at hob; cases hob; exact .inr (.inr ⟨"list", rfl, by decide, by decide⟩)
 ·refine Vc.xa_1_1 hL fun n e' => ?_
  try clear hL
  rw [e'] at hob
  cases hob
  cases hd
 ·rw [Array.toList_push]; exact (rs.keep vk).append (VRs.cons (r'.keep vk) .nil)
noncomputable def pick5 (T : String) (b1 b2 b3 b4 b5 : Bool) : Option Bool :=
 if T = "int" then some b1 else if T = "bool" then some b2 else if T = "str" then some b3 else if T = "list" then some b4 else if T = "tuple" then some b5 else none
noncomputable def isi (v : V) (T : String) : Option Bool := match v with
 | .int _ => pick5 T true false false false false
 | .bool _ => pick5 T true true false false false
 | .str _ => pick5 T false false true false false
 | .none => pick5 T false false false false false
 | .tup _ => pick5 T false false false false true
 | _ => none
theorem pick5_of {T : String} {b1 b2 b3 b4 b5 k : Bool} {P : String -> Bool -> Prop} (hk : pick5 T b1 b2 b3 b4 b5 = some k) (h1 : P "int" b1) (h2 : P "bool" b2) (h3 : P "str" b3) (h4 : P "list" b4) (h5 : P "tuple" b5) : P T k := by
 unfold pick5 at hk
 by_cases e : T = "int"
 ·rw [if_pos e] at hk; cases hk; rw [e]; exact h1
 rw [if_neg e] at hk
 by_cases e : T = "bool"
 ·rw [if_pos e] at hk; cases hk; rw [e]; exact h2
 rw [if_neg e] at hk
 by_cases e : T = "str"
 ·rw [if_pos e] at hk; cases hk; rw [e]; exact h3
 rw [if_neg e] at hk
 by_cases e : T = "list"
 ·rw [if_pos e] at hk; cases hk; rw [e]; exact h4
 rw [if_neg e] at hk
 by_cases e : T = "tuple"
 ·rw [if_pos e] at hk; cases hk; rw [e]; exact h5
 rw [if_neg e] at hk; cases hk
theorem cv_isi {v : V} {T : String} {k : Bool} (hG : C.G T (.type T)) (hk : isi v T = some k) (q : Q (.bool k) H) : CallV C d (.builtin "isinstance") [v, .glb T] H Q X := fun A s cs ok rs => by
 refine Vc.xa_2_3 (args2 rs) fun c e hr223_2 r r' => ?_
 subst hr223_2
 dsimp only [VR] at r'; cases hG.uniq r'
 have q' : ∀ n, QP C H s Q (.bool k) { s with toks := n } := fun n => qp (ok.toks n) .bool_ q
 have q0 : QP C H s Q (.bool k) s := qp ok.refl .bool_ q
 clear q hG
 revert q' q0
 cases v with
 | int i =>
  dsimp only [VR] at r; obtain ⟨t, rfl⟩ := r
  exact pick5_of (P := fun T k => (∀ n, QP C H s Q (.bool k) { s with toks := n }) -> QP C H s Q (.bool k) s -> wpAny C.M A (call (.builtin "isinstance") [.int i t, .type T]) (QP C H s Q) (XQ false C No H s X) s) hk
   (fun q' q0 => IsiPair.int_int q0) (fun q' q0 => IsiPair.int_bool (q' _)) (fun q' q0 => IsiPair.int_str (q' _)) (fun q' q0 => IsiPair.int_list (q' _)) (fun q' q0 => IsiPair.int_tuple (q' _))
 | bool b =>
  dsimp only [VR] at r; subst r
  exact pick5_of (P := fun T k => (∀ n, QP C H s Q (.bool k) { s with toks := n }) -> QP C H s Q (.bool k) s -> wpAny C.M A (call (.builtin "isinstance") [.bool b, .type T]) (QP C H s Q) (XQ false C No H s X) s) hk
   (fun q' q0 => IsiPair.bool_int q0) (fun q' q0 => IsiPair.bool_bool q0) (fun q' q0 => IsiPair.bool_str (q' _)) (fun q' q0 => IsiPair.bool_list (q' _)) (fun q' q0 => IsiPair.bool_tuple (q' _))
 | str x =>
  dsimp only [VR] at r; obtain ⟨t, rfl⟩ := r
  exact pick5_of (P := fun T k => (∀ n, QP C H s Q (.bool k) { s with toks := n }) -> QP C H s Q (.bool k) s -> wpAny C.M A (call (.builtin "isinstance") [.str x t, .type T]) (QP C H s Q) (XQ false C No H s X) s) hk
   (fun q' q0 => IsiPair.str_int (q' _)) (fun q' q0 => IsiPair.str_bool (q' _)) (fun q' q0 => IsiPair.str_str q0) (fun q' q0 => IsiPair.str_list (q' _)) (fun q' q0 => IsiPair.str_tuple (q' _))
 | none =>
  dsimp only [VR] at r; subst r
  exact pick5_of (P := fun T k => (∀ n, QP C H s Q (.bool k) { s with toks := n }) -> QP C H s Q (.bool k) s -> wpAny C.M A (call (.builtin "isinstance") [.none, .type T]) (QP C H s Q) (XQ false C No H s X) s) hk
   (fun q' q0 => IsiPair.NoneType_int (q' _)) (fun q' q0 => IsiPair.NoneType_bool (q' _)) (fun q' q0 => IsiPair.NoneType_str (q' _)) (fun q' q0 => IsiPair.NoneType_list (q' _)) (fun q' q0 => IsiPair.NoneType_tuple (q' _))
 | tup l =>
  dsimp only [VR] at r; obtain ⟨a, items, ⟨rfl, nd⟩, ⟨o, ho, hc, n, hd⟩, rs⟩ := r
  exact pick5_of (P := fun T k => (∀ n, QP C H s Q (.bool k) { s with toks := n }) -> QP C H s Q (.bool k) s -> wpAny C.M A (call (.builtin "isinstance") [.ref a, .type T]) (QP C H s Q) (XQ false C No H s X) s) hk
   (fun q' q0 => IsiPair.tuple_int ho hc (q' _)) (fun q' q0 => IsiPair.tuple_bool ho hc (q' _)) (fun q' q0 => IsiPair.tuple_str ho hc (q' _)) (fun q' q0 => IsiPair.tuple_list ho hc (q' _)) (fun q' q0 => IsiPair.tuple_tuple ho hc q0)
 | _ => cases hk
theorem cv_isi_list {a : Addr} {l : List V} {T : String} {k : Bool} (hG : C.G T (.type T)) (h : itemsOf H (.ref a) = some l) (hk : (T = "list" /\ k = true) ∨ (T = "int" /\ k = false) ∨ (T = "tuple" /\ k = false) ∨ (T = "bool" /\ k = false) ∨ (T = "str" /\ k = false)) (q : Q (.bool k) H) : CallV C d (.builtin "isinstance") [.ref a, .glb T] H Q X := fun A s cs ok rs => by
 refine Vc.xa_2_3 (args2 rs) fun c e hr253_2 r r' => ?_
 subst hr253_2
 dsimp only [VR] at r'; cases hG.uniq r'
 dsimp only [VR] at r; subst r
 refine Vc.xa_1_2 (list_at ok.rel h) fun items ho256_1 rs => ?_
 obtain ⟨o, ho, hc, n, hd⟩ := ho256_1
 rcases hk with ⟨rfl, rfl⟩ | ⟨rfl, rfl⟩ | ⟨rfl, rfl⟩ | ⟨rfl, rfl⟩ | ⟨rfl, rfl⟩
 ·exact IsiPair.list_list ho hc (qp ok.refl .bool_ q)
 ·exact IsiPair.list_int ho hc (qp (ok.toks _) .bool_ q)
 ·exact IsiPair.list_tuple ho hc (qp (ok.toks _) .bool_ q)
 ·exact IsiPair.list_bool ho hc (qp (ok.toks _) .bool_ q)
 ·exact IsiPair.list_str ho hc (qp (ok.toks _) .bool_ q)
noncomputable def dget {κ : Type} [DecidableEq κ] (l : List (κ × V)) (k : κ) : Option V := (l.find? (fun p => decide (p.1 = k))).map (·.2)
theorem valueAt_get {κ : Type} [DecidableEq κ] {h : Heap} {k : κ} {x : V} : ∀ {l : List (κ × V)} {kvs : List (κ × Value)}, kvs.map (·.1) = l.map (·.1) -> VRs C h (l.map (·.2)) (kvs.map (·.2)) -> dget l k = some x -> ∃ v, valueAt kvs k = some v /\ VR C h x v
 | [], _, _, _, e => by simp [dget] at e
 | (a, b) :: l, kvs, m, r, e => by
  cases kvs with
  | nil => simp at m
  | cons p kvs =>
   obtain ⟨a', b'⟩ := p
   simp only [List.map_cons, List.cons.injEq] at m r
   obtain ⟨rfl, m⟩ := m
   unfold dget at e
   unfold valueAt
   by_cases hk : a' = k
   ·simp only [List.find?_cons, hk, decide_true, Option.map_some, Option.some.injEq] at e ⊢
    subst e; exact ⟨b', rfl, r.head⟩
   ·simp only [List.find?_cons, hk, decide_false] at e ⊢
    exact valueAt_get m r.tail e
theorem sub_dcs {a : Addr} {l : List (Str × V)} {k : Str} {x : V} (h : H a = some (.dcs l)) (hx : dget l k = some x) (q : Q x H) : SubW C d (.ref a) (.str k) H Q X := fun A s co ci ok ro ri => by
 dsimp only [VR] at ro; dsimp only [VR] at ri; subst ro; obtain ⟨t, rfl⟩ := ri
 obtain ⟨h0, hs, kvs, hD, hm, rs⟩ := ok.rel _ _ h
 refine Vc.xa_1_2 (valueAt_get hm rs hx) fun v hv r => ?_
 exact ⟨gip hD.typeIs slot_dict_getitem.lookup, wpAny_getItem_of (knd := PySem.strKind C.prog C.w) (k := k) (by simp [PySem.strKind, Value.isStrOf]) hD.mapOf hv (qp (ok.toks _) r q)⟩
end
end Vc
end
section
namespace Vc
open PySem
section
variable (C : Cx) (d : Md)
noncomputable abbrev kB2 (op : Operator) (a : V) (Q : V -> MH -> Prop) (X : XP) : V -> MH -> Prop := fun b H2 => BinW C d op a b H2 Q X
noncomputable abbrev kB1 (op : Operator) (r : Ex) (ρ : Lo) (Q : V -> MH -> Prop) (X : XP) : V -> MH -> Prop := fun a H1 => wpE C d r ρ H1 (kB2 C d op a Q X) X
noncomputable abbrev kU1 (op : UnaryOp) (Q : V -> MH -> Prop) (X : XP) : V -> MH -> Prop := fun a H1 => UnaW C d op a H1 Q X
noncomputable abbrev kC2 (op : CmpOp) (a : V) (Q : V -> MH -> Prop) (X : XP) : V -> MH -> Prop := fun b H2 => CmpW C d op a b H2 Q X
noncomputable abbrev kC1 (op : CmpOp) (r : Ex) (ρ : Lo) (Q : V -> MH -> Prop) (X : XP) : V -> MH -> Prop := fun a H1 => wpE C d r ρ H1 (kC2 C d op a Q X) X
noncomputable abbrev kTr (P : Bool -> MH -> Prop) (X : XP) : V -> MH -> Prop := fun v H1 => TruW C d v H1 P X
noncomputable abbrev kL1 (Q : V -> MH -> Prop) : List V -> MH -> Prop := fun vs H1 => vs.length <= sizeLine /\ ∀ a, H1 a = none -> Q (.ref a) (upd H1 a (.lst vs))
noncomputable abbrev kT1 (Q : V -> MH -> Prop) : List V -> MH -> Prop := fun vs H1 => vs.length <= sizeLine /\ Q (.tup vs) H1
noncomputable abbrev kD1 (ks : List String) (Q : V -> MH -> Prop) : List V -> MH -> Prop := fun vs H1 => DctW ks vs H1 Q
noncomputable abbrev kS2 (a : V) (Q : V -> MH -> Prop) (X : XP) : V -> MH -> Prop := fun b H2 => SubW C d a b H2 Q X
noncomputable abbrev kS1 (i : Ex) (ρ : Lo) (Q : V -> MH -> Prop) (X : XP) : V -> MH -> Prop := fun a H1 => wpE C d i ρ H1 (kS2 C d a Q X) X
noncomputable abbrev kI4 (a b c : V) (Q : V -> MH -> Prop) (X : XP) : V -> MH -> Prop := fun e H4 => SliW C d a b c e H4 Q X
noncomputable abbrev kI3 (a b : V) (t : Ex) (ρ : Lo) (Q : V -> MH -> Prop) (X : XP) : V -> MH -> Prop := fun c H3 => wpE C d t ρ H3 (kI4 C d a b c Q X) X
noncomputable abbrev kI2 (a : V) (u t : Ex) (ρ : Lo) (Q : V -> MH -> Prop) (X : XP) : V -> MH -> Prop := fun b H2 => wpE C d u ρ H2 (kI3 C d a b t ρ Q X) X
noncomputable abbrev kI1 (l u t : Ex) (ρ : Lo) (Q : V -> MH -> Prop) (X : XP) : V -> MH -> Prop := fun a H1 => wpE C d l ρ H1 (kI2 C d a u t ρ Q X) X
noncomputable abbrev kV1 (fv : Value) (Q : V -> MH -> Prop) (X : XP) : List V -> MH -> Prop := fun vs H1 => CallV C d fv vs H1 Q X
noncomputable abbrev kW1 (f : String) (Q : V -> MH -> Prop) (X : XP) : List V -> MH -> Prop := fun vs H1 => CallW C d f vs H1 Q X
noncomputable abbrev kM2 (fv : Value) (ov : V) (Q : V -> MH -> Prop) (X : XP) : List V -> MH -> Prop := fun vs H2 => CallV C d fv (ov :: vs) H2 Q X
noncomputable abbrev kM1 (m : String) (es : List Ex) (ρ : Lo) (Q : V -> MH -> Prop) (X : XP) : V -> MH -> Prop := fun ov H1 => ∃ fv, MGet C d ov m fv H1 /\ Callee C fv /\ wpEs C d es ρ H1 (kM2 C d fv ov Q X) X
noncomputable abbrev kQ3 (Q' : Option V -> MH -> Prop) : V -> MH -> Prop := fun v H4 => Q' (some v) H4
noncomputable abbrev kQ2 (elt : Ex) (ifs : List Ex) (ρ : Lo) (X : XP) : List V -> MH -> (Option V -> MH -> Prop) -> Prop := fun vs H2 Q' => wpTs C d ifs (ρ ++ vs.map some) H2 (fun t H3 => if t = true then wpE C d elt (ρ ++ vs.map some) H3 (kQ3 Q') X else Q' none H3) X
noncomputable abbrev kQ1 (k : Nat) (elt : Ex) (ifs : List Ex) (ρ : Lo) (Q : V -> MH -> Prop) (X : XP) : V -> MH -> Prop := fun iv H1 => ∃ all, Itq d iv /\ itemsOf H1 iv = some all /\ all.length <= sizeLine /\ wpC k iv all (kQ2 C d elt ifs ρ X) all [] H1 (kL1 Q)
noncomputable abbrev kE2 (v : V) (Q : List V -> MH -> Prop) : List V -> MH -> Prop := fun vs H2 => Q (v :: vs) H2
noncomputable abbrev kE1 (es : List Ex) (ρ : Lo) (Q : List V -> MH -> Prop) (X : XP) : V -> MH -> Prop := fun v H1 => wpEs C d es ρ H1 (kE2 v Q) X
noncomputable abbrev kX (X : XS) (ρ : Lo) : XP := fun c H1 => X c ρ H1
noncomputable abbrev kAs (ts : List St) (ρ : Lo) (i : Nat) (K : KP) (X : XS) : V -> MH -> Prop := fun v H1 => wpSs C d ts (ls ρ i v) H1 K X
noncomputable abbrev kUn (ts : List St) (ρ : Lo) (is : List Nat) (K : KP) (X : XS) : V -> MH -> Prop := fun v H1 => ∃ l, v = .tup l /\ Itq d v /\ l.length = is.length /\ wpSs C d ts (lss ρ is l) H1 K X
noncomputable abbrev kEx (ts : List St) (ρ : Lo) (K : KP) (X : XS) : V -> MH -> Prop := fun zz H1 => wpSs C d ts ρ H1 K X
noncomputable abbrev kRe (ρ : Lo) (K : KP) : V -> MH -> Prop := fun v H1 => K (.ret v) ρ H1
noncomputable abbrev kSq (ts : List St) (K : KP) (X : XS) : KP := fun f ρ' H' => match f with | .next => wpSs C d ts ρ' H' K X | .ret v => K (.ret v) ρ' H'
noncomputable abbrev kSt (body : List St) (X : XS) : Lo -> MH -> KP -> Prop := fun ρ' H' K' => wpSs C d body ρ' H' K' X
noncomputable abbrev kLo (R : Lo -> MH -> Prop) (K : KP) : KP := fun f ρ' H' => match f with | .next => R ρ' H' | .ret v => K (.ret v) ρ' H'
noncomputable abbrev kAc (R : List V -> MH -> Prop) (acc : List V) : Option V -> MH -> Prop := fun r H' => R (match r with | some v => acc ++ [v] | none => acc) H'
noncomputable abbrev kFo (k : List Nat) (body ts : List St) (ρ : Lo) (K : KP) (X : XS) : V -> MH -> Prop := fun v H1 => ∃ all, Itq d v /\ itemsOf H1 v = some all /\ wpF k (.pl v) all (kSt C d body X) all ρ H1 (kSq C d ts K X)
noncomputable abbrev kRt (Q : V -> MH -> Prop) : KP := fun f zz H' => match f with | .ret v => Q v H' | .next => Q .none H'
noncomputable abbrev kXt (X : XP) : XS := fun c zz H' => X c H'
end
section
variable {C : Cx} {d : Md} {ρ : Lo} {H : MH} {Q : V -> MH -> Prop} {X : XP}
theorem E_nm {i : Nat} {v : V} (h : lk ρ i = some v) (q : Q v H) : wpE C d (.nm i) ρ H Q X := ⟨v, h, q⟩
theorem E_gl {x : String} {cv : Value} (hG : C.G x cv) (q : Q (.glb x) H) : wpE C d (.gl x) ρ H Q X := ⟨.glb x, cv, hG, by dsimp only [VR]; exact hG, q⟩
theorem E_ci {i : Int} (q : Q (.int i) H) : wpE C d (.ci i) ρ H Q X := q
theorem E_cs {x : String} (q : Q (.str (Str.ofString x)) H) : wpE C d (.cs x) ρ H Q X := q
theorem E_cb {b : Bool} (q : Q (.bool b) H) : wpE C d (.cb b) ρ H Q X := q
theorem E_cn (q : Q .none H) : wpE C d .cn ρ H Q X := q
theorem E_bin {op : Operator} {l r : Ex} (q : wpE C d l ρ H (kB1 C d op r ρ Q X) X) : wpE C d (.bin op l r) ρ H Q X := q
theorem E_una {op : UnaryOp} {e : Ex} (q : wpE C d e ρ H (kU1 C d op Q X) X) : wpE C d (.una op e) ρ H Q X := q
theorem E_cmp {op : CmpOp} {l r : Ex} (q : wpE C d l ρ H (kC1 C d op r ρ Q X) X) : wpE C d (.cmp op l r) ρ H Q X := q
theorem E_cmp2 {op op' : CmpOp} {l m r : Ex} (q : wpE C d l ρ H (fun a H1 => wpE C d m ρ H1 (fun b H2 => CmpW C d op a b H2 (fun c H3 => TruW C d c H3 (fun t H4 =>
   if t = true then wpE C d r ρ H4 (fun b' H5 => CmpW C d op' b b' H5 Q X) X else Q c H4) X) X) X) X) : wpE C d (.cmp2 op op' l m r) ρ H Q X := q
theorem E_bop {op : BoolOp} {es : List Ex} (q : wpB C d op es ρ H Q X) : wpE C d (.bop op es) ρ H Q X := q
theorem E_lst {es : List Ex} (q : wpEs C d es ρ H (kL1 Q) X) : wpE C d (.lst es) ρ H Q X := q
theorem E_tup {es : List Ex} (q : wpEs C d es ρ H (kT1 Q) X) : wpE C d (.tup es) ρ H Q X := q
theorem E_dct {ks : List String} {es : List Ex} (q : wpEs C d es ρ H (kD1 ks Q) X) : wpE C d (.dct ks es) ρ H Q X := q
theorem E_sub {o i : Ex} (q : wpE C d o ρ H (kS1 C d i ρ Q X) X) : wpE C d (.sub o i) ρ H Q X := q
theorem E_sli {o l u t : Ex} (q : wpE C d o ρ H (kI1 C d l u t ρ Q X) X) : wpE C d (.sli o l u t) ρ H Q X := q
theorem E_call {f : String} {fv : Value} {es : List Ex} (hG : C.G f fv) (hc : Callee C fv) (q : wpEs C d es ρ H (kV1 C d fv Q X) X) : wpE C d (.call f es) ρ H Q X := by
 have e : ∀ vs H1, CallV C d fv vs H1 Q X ↔ CallW C d f vs H1 Q X := fun vs H1 => ⟨fun h => call_w hG h, fun h => h fv hG⟩
 have q' : wpEs C d es ρ H (fun vs H1 => CallW C d f vs H1 Q X) X := by
  rw [<- show kV1 C d fv Q X = fun vs H1 => CallW C d f vs H1 Q X from funext fun vs => funext fun H1 => propext (e vs H1)]; exact q
 exact ⟨⟨fv, hG, hc⟩, q'⟩
theorem E_meth {o : Ex} {m : String} {es : List Ex} (q : wpE C d o ρ H (kM1 C d m es ρ Q X) X) : wpE C d (.meth o m es) ρ H Q X := q
theorem E_comp {k : Nat} {elt it : Ex} {ifs : List Ex} (q : wpE C d it ρ H (kQ1 C d k elt ifs ρ Q X) X) : wpE C d (.comp k elt it ifs) ρ H Q X := q
theorem Es_nil {Q : List V -> MH -> Prop} (q : Q [] H) : wpEs C d [] ρ H Q X := q
theorem Es_cons {Q : List V -> MH -> Prop} {e : Ex} {es : List Ex} (q : wpE C d e ρ H (kE1 C d es ρ Q X) X) : wpEs C d (e :: es) ρ H Q X := q
theorem B_one {op : BoolOp} {e : Ex} (q : wpE C d e ρ H Q X) : wpB C d op [e] ρ H Q X := q
theorem B_cons {op : BoolOp} {e e' : Ex} {es : List Ex} (q : wpE C d e ρ H (fun v H1 => TruW C d v H1 (fun t H2 => if (op = .And /\ t = false) ∨ (op = .Or /\ t = true) then Q v H2 else wpB C d op (e' :: es) ρ H2 Q X) X) X) : wpB C d op (e :: e' :: es) ρ H Q X := by
 exact q
variable {P : Bool -> MH -> Prop}
theorem T_not {e : Ex} (q : wpT C d e ρ H (fun t H1 => P (!t) H1) X) : wpT C d (.una .Not e) ρ H P X := q
theorem T_bop {op : BoolOp} {es : List Ex} (q : wpA C d op es ρ H P X) : wpT C d (.bop op es) ρ H P X := q
theorem T_cmp2 {op op' : CmpOp} {l m r : Ex} (q : wpE C d l ρ H (fun a H1 => wpE C d m ρ H1 (fun b H2 => CmpW C d op a b H2 (fun c H3 => TruW C d c H3 (fun t H4 =>
   if t = true then wpE C d r ρ H4 (fun b' H5 => CmpW C d op' b b' H5 (fun c' H6 => TruW C d c' H6 P X) X) X else P false H4) X) X) X) X) : wpT C d (.cmp2 op op' l m r) ρ H P X := q
theorem T_nm {i : Nat} (q : wpE C d (.nm i) ρ H (kTr C d P X) X) : wpT C d (.nm i) ρ H P X := q
theorem T_cmp {op : CmpOp} {l r : Ex} (q : wpE C d (.cmp op l r) ρ H (kTr C d P X) X) : wpT C d (.cmp op l r) ρ H P X := q
theorem T_call {f : String} {es : List Ex} (q : wpE C d (.call f es) ρ H (kTr C d P X) X) : wpT C d (.call f es) ρ H P X := q
theorem A_nil_and (q : P true H) : wpA C d .And [] ρ H P X := q
theorem A_nil_or (q : P false H) : wpA C d .Or [] ρ H P X := q
theorem A_and {e : Ex} {es : List Ex} (q : wpT C d e ρ H (fun t H1 => if t = true then wpA C d .And es ρ H1 P X else P false H1) X) : wpA C d .And (e :: es) ρ H P X := by
 have e : ∀ (t : Bool) (H1 : MH), (if t = true then wpA C d .And es ρ H1 P X else P false H1) ↔ (if (BoolOp.And = .And /\ t = false) ∨ (BoolOp.And = .Or /\ t = true) then P t H1 else wpA C d .And es ρ H1 P X) := fun t H1 => by cases t <;> simp
 rw [funext fun t => funext fun H1 => propext (e t H1)] at q
 exact q
theorem A_or {e : Ex} {es : List Ex} (q : wpT C d e ρ H (fun t H1 => if t = true then P true H1 else wpA C d .Or es ρ H1 P X) X) : wpA C d .Or (e :: es) ρ H P X := by
 have e : ∀ (t : Bool) (H1 : MH), (if t = true then P true H1 else wpA C d .Or es ρ H1 P X) ↔ (if (BoolOp.Or = .And /\ t = false) ∨ (BoolOp.Or = .Or /\ t = true) then P t H1 else wpA C d .Or es ρ H1 P X) := fun t H1 => by cases t <;> simp
 rw [funext fun t => funext fun H1 => propext (e t H1)] at q
 exact q
theorem Ts_nil (q : P true H) : wpTs C d [] ρ H P X := q
theorem Ts_cons {e : Ex} {es : List Ex} (q : wpT C d e ρ H (fun t H1 => if t = true then wpTs C d es ρ H1 P X else P false H1) X) : wpTs C d (e :: es) ρ H P X := q
end
section
variable {C : Cx} {d : Md} {ρ : Lo} {H : MH} {K : KP} {X : XS} {ts : List St}
theorem SS_nil (q : K .next ρ H) : wpSs C d [] ρ H K X := by dsimp only [wpSs]; exact q
theorem SS_append {as bs : List St} : ∀ {ρ : Lo} {H : MH} {K : KP}, wpSs C d (as ++ bs) ρ H K X ↔ wpSs C d as ρ H (fun f ρ' H' => match f with | .next => wpSs C d bs ρ' H' K X | .ret v => K (.ret v) ρ' H') X := by
 induction as with
 | nil => intro ρ H K; rw [List.nil_append]; exact ⟨fun h => by dsimp only [wpSs]; exact h, fun h => by dsimp only [wpSs] at h; exact h⟩
 | cons a as ih =>
  intro ρ H K
  (rw [List.cons_append]; dsimp only [wpSs, wpSs])
  refine Iff.of_eq (congrArg (fun K => wpS C d a ρ H K X) ?_)
  funext f ρ' H'
  cases f with
  | next => exact propext ih
  | ret v => rfl
theorem SS_asg {i : Nat} {e : Ex} (q : wpE C d e ρ H (kAs C d ts ρ i K X) (kX X ρ)) : wpSs C d (.asg i e :: ts) ρ H K X := by dsimp only [wpSs, wpS]; exact q
theorem SS_unp {is : List Nat} {e : Ex} (q : wpE C d e ρ H (kUn C d ts ρ is K X) (kX X ρ)) : wpSs C d (.unp is e :: ts) ρ H K X := by dsimp only [wpSs, wpS]; exact q
theorem SS_exp {e : Ex} (q : wpE C d e ρ H (kEx C d ts ρ K X) (kX X ρ)) : wpSs C d (.exp e :: ts) ρ H K X := by dsimp only [wpSs, wpS]; exact q
theorem SS_ret {e : Ex} (q : wpE C d e ρ H (kRe ρ K) (kX X ρ)) : wpSs C d (.ret e :: ts) ρ H K X := by dsimp only [wpSs, wpS]; exact q
theorem SS_ife {c : Ex} {a b : List St} (q : wpT C d c ρ H (fun t H1 => if t = true then wpSs C d (a ++ ts) ρ H1 K X else wpSs C d (b ++ ts) ρ H1 K X) (kX X ρ)) : wpSs C d (.ife c a b :: ts) ρ H K X := by
 simp only [SS_append] at q
 dsimp only [wpSs, wpS]; exact q
theorem for_inv {k : List Nat} {sv : Sv} {all : List V} {stp : Lo -> MH -> KP -> Prop} {K : KP} (P : Nat -> Lo -> MH -> Prop) (P0 : P 0 ρ H)
  (rnd : ∀ i x ρ H (R : Lo -> MH -> Prop), P i ρ H -> all[i]? = some x -> (∀ ρ' H', P (i + 1) ρ' H' -> R ρ' H') -> svItems H sv = some all /\ ∃ vs, parts k.length x = some vs /\ stp (lss ρ k vs) H (kLo R K))
  (fin : ∀ ρ H, P all.length ρ H -> svItems H sv = some all /\ K .next ρ H) : wpF k sv all stp all ρ H K := by
 have key : ∀ n i ρ H, i + n = all.length -> P i ρ H -> wpF k sv all stp (all.drop i) ρ H K := by
  intro n
  induction n with
  | zero =>
   intro i ρ H e p
   (rw [List.drop_eq_nil_of_le (by omega)]; dsimp only [wpF])
   have : i = all.length := by omega
   subst this
   exact fin ρ H p
  | succ n ih =>
   intro i ρ H e p
   have hi : i < all.length := by omega
   (rw [List.drop_eq_getElem_cons hi]; dsimp only [wpF])
   exact rnd i all[i] ρ H (fun ρ' H' => wpF k sv all stp (all.drop (i + 1)) ρ' H' K) p (List.getElem?_eq_getElem hi) fun ρ' H' p' => ih (i + 1) ρ' H' (by (clear hi; omega)) p'
 simpa using key all.length 0 ρ H (by omega) P0
theorem comp_inv {k : Nat} {iv : V} {all : List V} {stp : List V -> MH -> (Option V -> MH -> Prop) -> Prop} {K : List V -> MH -> Prop} (P : Nat -> List V -> MH -> Prop) (P0 : P 0 [] H)
  (rnd : ∀ i x acc H (R : List V -> MH -> Prop), P i acc H -> all[i]? = some x -> (∀ acc' H', P (i + 1) acc' H' -> R acc' H') -> itemsOf H iv = some all /\ ∃ vs, parts k x = some vs /\ stp vs H (kAc R acc))
  (fin : ∀ acc H, P all.length acc H -> itemsOf H iv = some all /\ K acc H) : wpC k iv all stp all [] H K := by
 have key : ∀ n i acc H, i + n = all.length -> P i acc H -> wpC k iv all stp (all.drop i) acc H K := by
  intro n
  induction n with
  | zero =>
   intro i acc H e p
   (rw [List.drop_eq_nil_of_le (by omega)]; dsimp only [wpC])
   have : i = all.length := by omega
   subst this
   exact fin acc H p
  | succ n ih =>
   intro i acc H e p
   have hi : i < all.length := by omega
   (rw [List.drop_eq_getElem_cons hi]; dsimp only [wpC])
   exact rnd i all[i] acc H (fun acc' H' => wpC k iv all stp (all.drop (i + 1)) acc' H' K) p (List.getElem?_eq_getElem hi) fun acc' H' p' => ih (i + 1) acc' H' (by (clear hi; omega)) p'
 simpa using key all.length 0 [] H (by omega) P0
theorem SS_for {k : List Nat} {e : Ex} {body : List St} (q : wpE C d e ρ H (kFo C d k body ts ρ K X) (kX X ρ)) : wpSs C d (.for k (.pl e) body :: ts) ρ H K X := by dsimp only [wpSs, wpS, wpSr]; exact q
theorem SS_fore {k : List Nat} {e : Ex} {body : List St} (hG : C.G "enumerate" (.type "enumerate")) (q : wpE C d e ρ H (fun v H1 => ∃ all, (d.q = true /\ Itq d v) /\ svItems H1 (.en v) = some all /\ wpF k (.en v) all (fun ρ' H' K' => wpSs C d body ρ' H' K' X) all ρ H1
   (fun f ρ' H' => match f with | .next => wpSs C d ts ρ' H' K X | .ret v => K (.ret v) ρ' H')) (kX X ρ)) : wpSs C d (.for k (.en e) body :: ts) ρ H K X := by dsimp only [wpSs, wpS, wpSr]; exact ⟨hG, q⟩
end
noncomputable def Def (C : Cx) (f : String) (vs : Vs) (np : Nat) (body : List St) : Prop :=
 ∃ fa o fd, C.mg (Str.ofString f) = some (.ref fa) /\ C.h0.get? fa = some o /\ o.data = .func fd /\ C.h0.CodeRec fd.code fd.qualname /\ okFn fd vs np body = true
section
variable {C : Cx} {n : Nat} {q : Bool} {ρ : Lo} {H : MH} {Q : V -> MH -> Prop} {X : XP}
theorem Def.fn {f : String} {vs : Vs} {np : Nat} {body : List St} (D : Def C f vs np body) : Fn C f := by
 refine Vc.xa_3_5 D fun fa o fd hg ho hd hc hk => ?_
 try clear D
 exact ⟨.ref fa, .inl hg, callee_fn ho hd⟩
theorem Def.call {f : String} {vs : Vs} {np : Nat} {body : List St} {args : List V} (G : C.Good) (D : Def C f vs np body) (hl : args.length = np)
  (h : wpSs C ⟨n, q⟩ body (args.map some ++ List.replicate (vs.length - np) none) H (kRt Q) (kXt X)) : CallW C ⟨n + 1, q⟩ f args H Q X := by
 refine Vc.xa_3_5 D fun fa o fd hg ho hd hc hk => ?_
 try clear D
 exact call_w (.inl hg) (fn_call G ho hd hc hk hl h)
theorem E_fn {d : Md} {f : String} {es : List Ex} (hF : Fn C f) (h : wpEs C d es ρ H (kW1 C d f Q X) X) : wpE C d (.call f es) ρ H Q X := ⟨hF, h⟩
end
noncomputable def Ext (H H' : MH) : Prop := ∀ a o, H a = some o -> H' a = some o
theorem Ext.refl (H : MH) : Ext H H := fun zz zz e => e
theorem Ext.trans {H H' H'' : MH} (x : Ext H H') (y : Ext H' H'') : Ext H H'' := fun a o e => y a o (x a o e)
theorem Ext.new {H : MH} {a : Addr} {o : O} (h : H a = none) : Ext H (upd H a o) := fun b o' e => by
 rw [upd_ne]
 ·exact e
 ·rintro rfl; rw [h] at e; cases e
theorem Ext.more {H H' : MH} {a : Addr} {o : O} (x : Ext H H') (h : H' a = none) : Ext H (upd H' a o) := x.trans (.new h)
theorem Ext.items {H H' : MH} (x : Ext H H') {v : V} {l : List V} (h : itemsOf H v = some l) : itemsOf H' v = some l := by
 cases v with
 | ref a =>
  simp only [itemsOf] at h ⊢
  cases e : H a with
  | none => rw [e] at h; cases h
  | some o => rw [e] at h; rw [x a o e]; exact h
 | _ => exact h
theorem items_new {H : MH} {a : Addr} {l : List V} : itemsOf (upd H a (.lst l)) (.ref a) = some l := by simp only [itemsOf, upd_self]
theorem items_lst {H : MH} {a : Addr} {l : List V} (h : H a = some (.lst l)) : itemsOf H (.ref a) = some l := by simp only [itemsOf, h]
theorem items_fro {H : MH} {a : Addr} {l : List V} (h : H a = some (.fro l)) : itemsOf H (.ref a) = some l := by simp only [itemsOf, h]
theorem rngItems_one {a b : Int} : rngItems a b 1 = (List.range (b - a).toNat).map fun (k : Nat) => V.int (a + (k : Int)) := by
 unfold rngItems
 rw [rangeSize_one]
 by_cases h : a < b
 ·rw [if_pos h]; simp
 ·rw [if_neg h]; simp; omega
theorem rng_len {a b : Int} : (rngItems a b 1).length = (b - a).toNat := by rw [rngItems_one]; simp
theorem rng_get {a b : Int} {i : Nat} {x : V} (h : (rngItems a b 1)[i]? = some x) : x = .int (a + i) /\ (i : Int) < b - a := by
 rw [rngItems_one, List.getElem?_map] at h
 cases e : (List.range (b - a).toNat)[i]? with
 | none => rw [e] at h; cases h
 | some j =>
  rw [e] at h
  have := List.getElem?_eq_some_iff.mp e
  refine Vc.xa_1_1 this fun hi ej => ?_
  try clear this
  simp at hi ej h
  subst ej
  exact ⟨h.symm, by omega⟩
end Vc
end
section
namespace Vc
open PySem PyProof.Rows
section
variable {C : Cx} {d : Md} {H : MH}
theorem mget_list {a : Addr} {l : List V} {m id : String} (h : H a = some (.lst l)) (slot : Slot "list" (Str.ofString m) id) (ty : typeOf (.builtin id) = pure (.type "method_descriptor")) : MGet C d (.ref a) m (.builtin id) H := fun A s co pl Q E ok r q => by
 dsimp only [VR] at r; subst r
 obtain ⟨_, items, ⟨n, ho⟩, rs⟩ := ok.rel _ _ h
 exact getMethod_builtin (T := "list") ⟨_, ho, rfl⟩ PySem.F.plainAttrs_list slot ty (fun a e => by cases e; exact ⟨_, ho, rfl⟩) q
theorem mget_append {a : Addr} {l : List V} (h : H a = some (.lst l)) : MGet C d (.ref a) "append" (.builtin "list.append") H := mget_list h PySem.F.slot_list_append PySem.F.type_list_append
end
noncomputable def stdNames : List (String × Value) := [("len", .builtin "len"), ("range", .type "range"), ("list", .type "list"), ("tuple", .type "tuple"), ("int", .type "int"), ("bool", .type "bool"), ("str", .type "str"), ("dict", .type "dict"), ("isinstance", .builtin "isinstance"), ("enumerate", .type "enumerate"), ("min", .builtin "min"), ("max", .builtin "max"), ("all", .builtin "all"), ("any", .builtin "any"), ("sorted", .builtin "sorted"), ("set", .type "set"), ("zip", .type "zip"), ("sum", .builtin "sum")]
structure Std (C : Cx) : Prop where
 n_len : C.G "len" (.builtin "len")
 n_range : C.G "range" (.type "range")
 n_list : C.G "list" (.type "list")
 n_tuple : C.G "tuple" (.type "tuple")
 n_int : C.G "int" (.type "int")
 n_bool : C.G "bool" (.type "bool")
 n_str : C.G "str" (.type "str")
 n_dict : C.G "dict" (.type "dict")
 n_isinstance : C.G "isinstance" (.builtin "isinstance")
 n_enumerate : C.G "enumerate" (.type "enumerate")
 n_min : C.G "min" (.builtin "min")
 n_max : C.G "max" (.builtin "max")
 n_all : C.G "all" (.builtin "all")
 n_any : C.G "any" (.builtin "any")
 n_sorted : C.G "sorted" (.builtin "sorted")
 n_set : C.G "set" (.type "set")
 n_zip : C.G "zip" (.type "zip")
 n_sum : C.G "sum" (.builtin "sum")
end Vc
end
section
namespace Vc
open PySem PyProof.Rows
theorem bin_modp {C : Cx} {d : Md} {H : MH} {Q : V -> MH -> Prop} {X : XP} {a b : Int} (hb : 0 < b) (q : Q (.int (a % b)) H) : BinW C d .Mod (.int a) (.int b) H Q X :=
 bin_mod (by omega) (by rw [Int.fmod_eq_emod_of_nonneg _ (by omega)]; exact q)
theorem bin_divp {C : Cx} {d : Md} {H : MH} {Q : V -> MH -> Prop} {X : XP} {a b : Int} (hb : 0 < b) (hs : b < 1073741824) (q : Q (.int (a / b)) H) : BinW C d .FloorDiv (.int a) (.int b) H Q X :=
 bin_fdiv (by (clear hs; omega)) (PyProof.noPylong_small (by omega)) (by rw [Int.fdiv_eq_ediv_of_nonneg _ (by (clear hs; omega))]; exact q)
theorem B_and {C : Cx} {d : Md} {ρ : Lo} {H : MH} {Q : V -> MH -> Prop} {X : XP} {e e' : Ex} {es : List Ex} (q : wpE C d e ρ H (fun v H1 => TruW C d v H1 (fun t H2 => if t = true then wpB C d .And (e' :: es) ρ H2 Q X else Q v H2) X) X) : wpB C d .And (e :: e' :: es) ρ H Q X := by
 have e : ∀ (v : V) (t : Bool) (H1 : MH), (if t = true then wpB C d .And (e' :: es) ρ H1 Q X else Q v H1) ↔ (if (BoolOp.And = .And /\ t = false) ∨ (BoolOp.And = .Or /\ t = true) then Q v H1 else wpB C d .And (e' :: es) ρ H1 Q X) := fun v t H1 => by cases t <;> simp
 exact B_cons (by simpa only [e] using q)
theorem if_t {A B : Prop} (h : A) : if true = true then A else B := h
theorem if_f {A B : Prop} (h : B) : if false = true then A else B := h
theorem if_nt {A B : Prop} (h : B) : if (!true) = true then A else B := h
theorem if_nf {A B : Prop} (h : A) : if (!false) = true then A else B := h
theorem SS_join {C : Cx} {d : Md} {ρ : Lo} {H : MH} {K : KP} {X : XS} {ts : List St} {c : Ex} {a b : List St} (J : Lo -> MH -> Prop) (h2 : ∀ ρ' H', J ρ' H' -> wpSs C d ts ρ' H' K X)
  (h1 : ∀ R : Lo -> MH -> Prop, (∀ ρ' H', J ρ' H' -> R ρ' H') -> wpT C d c ρ H (fun t H1 => if t = true then wpSs C d a ρ H1 (kLo R K) X
   else wpSs C d b ρ H1 (kLo R K) X) (kX X ρ)) : wpSs C d (.ife c a b :: ts) ρ H K X := by
 dsimp only [wpSs, wpS]; exact h1 (fun ρ' H' => wpSs C d ts ρ' H' K X) h2
theorem SS_app0 {C : Cx} {d : Md} {ρ : Lo} {H : MH} {K : KP} {X : XS} {ts : List St} (h : wpSs C d ts ρ H K X) : wpSs C d ([] ++ ts) ρ H K X := h
theorem SS_app1 {C : Cx} {d : Md} {ρ : Lo} {H : MH} {K : KP} {X : XS} {t : St} {as ts : List St} (h : wpSs C d (t :: (as ++ ts)) ρ H K X) : wpSs C d ((t :: as) ++ ts) ρ H K X := h
section
variable {C : Cx} {d : Md} {H : MH} {Q : V -> MH -> Prop} {X : XP}
theorem sub_t0 {l : List V} {x : V} (hl : Nat.ble l.length 900 = true) (q : Q x H) : SubW C d (.tup (x :: l)) (.int 0) H Q X :=
 sub_tup (j := 0) (by simp [seqIndex?]) (Nat.le_trans (m := 901) (by have := Nat.le_of_ble_eq_true hl; simp; omega) (by decide)) rfl q
theorem sub_t1 {l : List V} {x y : V} (hl : Nat.ble l.length 900 = true) (q : Q y H) : SubW C d (.tup (x :: y :: l)) (.int 1) H Q X :=
 sub_tup (j := 1) (by simp [seqIndex?]; omega) (Nat.le_trans (m := 902) (by have := Nat.le_of_ble_eq_true hl; simp; omega) (by decide)) rfl q
theorem sub_t2 {l : List V} {x y z : V} (hl : Nat.ble l.length 900 = true) (q : Q z H) : SubW C d (.tup (x :: y :: z :: l)) (.int 2) H Q X :=
 sub_tup (j := 2) (by simp [seqIndex?]; omega) (Nat.le_trans (m := 903) (by have := Nat.le_of_ble_eq_true hl; simp; omega) (by decide)) rfl q
theorem sub_listn {a : Addr} {l : List V} {i : Nat} {x : V} (h : itemsOf H (.ref a) = some l) (hl : l.length <= sizeLine) (hx : l[i]? = some x) (q : Q x H) : SubW C d (.ref a) (.int i) H Q X := by
 refine sub_list h hl (j := i) ?_ hx q
 have := (List.getElem?_eq_some_iff.mp hx).1
 simp only [seqIndex?]
 rw [if_neg (show ¬ (i : Int) < 0 by (clear hl this; omega)), if_pos (by simp; (clear hl; omega))]
 simp
end
section
variable {C : Cx} {d : Md} {ρ : Lo} {H : MH} {Q : V -> MH -> Prop} {X : XP} {i j : Nat} {v u : V} {k : Int}
theorem c_sub_nc (h : lk ρ i = some v) (q : SubW C d v (.int k) H Q X) : wpE C d (.sub (.nm i) (.ci k)) ρ H Q X := E_sub (E_nm h (E_ci q))
theorem c_sub_nn (h : lk ρ i = some v) (h' : lk ρ j = some u) (q : SubW C d v u H Q X) : wpE C d (.sub (.nm i) (.nm j)) ρ H Q X := E_sub (E_nm h (E_nm h' q))
theorem c_bin_nc {op : Operator} (h : lk ρ i = some v) (q : BinW C d op v (.int k) H Q X) : wpE C d (.bin op (.nm i) (.ci k)) ρ H Q X := E_bin (E_nm h (E_ci q))
theorem c_bin_nn {op : Operator} (h : lk ρ i = some v) (h' : lk ρ j = some u) (q : BinW C d op v u H Q X) : wpE C d (.bin op (.nm i) (.nm j)) ρ H Q X := E_bin (E_nm h (E_nm h' q))
theorem c_cmp_nc {op : CmpOp} (h : lk ρ i = some v) (q : CmpW C d op v (.int k) H Q X) : wpE C d (.cmp op (.nm i) (.ci k)) ρ H Q X := E_cmp (E_nm h (E_ci q))
theorem c_cmp_nn {op : CmpOp} (h : lk ρ i = some v) (h' : lk ρ j = some u) (q : CmpW C d op v u H Q X) : wpE C d (.cmp op (.nm i) (.nm j)) ρ H Q X := E_cmp (E_nm h (E_nm h' q))
theorem c_es3 {Q : List V -> MH -> Prop} {i j l : Nat} {x y z : V} (h1 : lk ρ i = some x) (h2 : lk ρ j = some y) (h3 : lk ρ l = some z) (q : Q [x, y, z] H) : wpEs C d [.nm i, .nm j, .nm l] ρ H Q X := Es_cons (E_nm h1 (Es_cons (E_nm h2 (Es_cons (E_nm h3 (Es_nil q))))))
theorem c_es2 {Q : List V -> MH -> Prop} {i j : Nat} {x y : V} (h1 : lk ρ i = some x) (h2 : lk ρ j = some y) (q : Q [x, y] H) : wpEs C d [.nm i, .nm j] ρ H Q X := Es_cons (E_nm h1 (Es_cons (E_nm h2 (Es_nil q))))
theorem c_es1 {Q : List V -> MH -> Prop} (h1 : lk ρ i = some v) (q : Q [v] H) : wpEs C d [.nm i] ρ H Q X := Es_cons (E_nm h1 (Es_nil q))
theorem c_ess {Q : List V -> MH -> Prop} {es : List Ex} (h1 : lk ρ i = some v) (q : wpEs C d es ρ H (kE2 v Q) X) : wpEs C d (.nm i :: es) ρ H Q X := Es_cons (E_nm h1 q)
theorem c_esc1 {Q : List V -> MH -> Prop} (q : Q [.int k] H) : wpEs C d [.ci k] ρ H Q X := Es_cons (E_ci (Es_nil q))
theorem c_esc {Q : List V -> MH -> Prop} {es : List Ex} (q : wpEs C d es ρ H (kE2 (.int k) Q) X) : wpEs C d (.ci k :: es) ρ H Q X := Es_cons (E_ci q)
theorem c_tcmp {op : CmpOp} {l r : Ex} {P : Bool -> MH -> Prop} (q : wpE C d l ρ H (kC1 C d op r ρ (kTr C d P X) X) X) : wpT C d (.cmp op l r) ρ H P X := T_cmp (E_cmp q)
theorem c_tcmp_nn {op : CmpOp} {P : Bool -> MH -> Prop} (h : lk ρ i = some v) (h' : lk ρ j = some u) (q : CmpW C d op v u H (kTr C d P X) X) : wpT C d (.cmp op (.nm i) (.nm j)) ρ H P X := T_cmp (c_cmp_nn h h' q)
theorem c_tcmp_nc {op : CmpOp} {P : Bool -> MH -> Prop} (h : lk ρ i = some v) (q : CmpW C d op v (.int k) H (kTr C d P X) X) : wpT C d (.cmp op (.nm i) (.ci k)) ρ H P X := T_cmp (c_cmp_nc h q)
end
section
variable {C : Cx} {d : Md} {ρ : Lo} {H : MH} {K : KP} {X : XS} {ts : List St} {i : Nat} {v : V}
theorem c_ret_n (h : lk ρ i = some v) (q : K (.ret v) ρ H) : wpSs C d (.ret (.nm i) :: ts) ρ H K X := SS_ret (E_nm h q)
theorem c_ret_b {b : Bool} (q : K (.ret (.bool b)) ρ H) : wpSs C d (.ret (.cb b) :: ts) ρ H K X := SS_ret (E_cb q)
end
noncomputable def H0 (a : Addr) (ns : List Int) : MH := fun b => if b = a then some (.fro (ns.map .int)) else none
end Vc
end
section
namespace Vc
open PySem PySem.W PyProof.Rows
theorem std_boot : stdNames.all (fun p => bootBuiltins (Str.ofString p.1) == some p.2 && !(Str.ofString p.1 == ("__name__" : Str)) && !startupNames.contains (Str.ofString p.1)) = true := by decide +kernel
noncomputable def freeT (p : Program) : Bool := stdNames.all fun q => !(((recsOf p).map (·.name)).contains (Str.ofString q.1)) && !(((litsOf p).map (·.1)).contains (Str.ofString q.1)) && !(((clssOf p []).map (·.name)).contains (Str.ofString q.1))
theorem not_mem_of {x : Str} {l : List Str} (h : (!l.contains x) = true) : x ∉ l := fun m => by
 rw [List.contains_iff_mem.mpr m] at h; cases h
theorem std_of1 {p : Program} {mean : ExcName -> Option Value} {C : Cx} (T : Top p [] mean C.mg C.mb C.h0) (e : freeT p = true) : ∀ q ∈ stdNames, C.G q.1 q.2 := fun q hq => by
 have h1 := Bool.and_eq_true_iff.mp (List.all_eq_true.mp e q hq)
 have h2 := Bool.and_eq_true_iff.mp h1.1
 have h3 := Bool.and_eq_true_iff.mp (List.all_eq_true.mp std_boot q hq)
 have h4 := Bool.and_eq_true_iff.mp h3.1
 refine .inr ⟨T.free _ (not_mem_of h3.2) (List.not_mem_nil) (not_mem_of h2.1) (not_mem_of h2.2) (not_mem_of h1.2), ?_⟩
 rw [T.builtins _ fun e => ?_]
 ·exact eq_of_beq h4.1
 ·rw [e] at h4; exact Bool.false_ne_true h4.2
theorem std_all {C : Cx} (key : ∀ q ∈ stdNames, C.G q.1 q.2) (n : Nat) (h : n < stdNames.length) : C.G stdNames[n].1 stdNames[n].2 := key _ (List.getElem_mem h)
theorem std_of {p : Program} {mean : ExcName -> Option Value} {C : Cx} (T : Top p [] mean C.mg C.mb C.h0) (e : freeT p = true) : Std C := by
 have key := std_all (std_of1 T e)
 exact ⟨key 0 (by decide), key 1 (by decide), key 2 (by decide), key 3 (by decide), key 4 (by decide), key 5 (by decide), key 6 (by decide), key 7 (by decide), key 8 (by decide), key 9 (by decide), key 10 (by decide), key 11 (by decide), key 12 (by decide), key 13 (by decide), key 14 (by decide), key 15 (by decide), key 16 (by decide), key 17 (by decide)⟩
theorem good_of {p : Program} {loose : List Str} {mean : ExcName -> Option Value} {C : Cx} (T : Top p loose mean C.mg C.mb C.h0) : C.Good := ⟨T.g, T.b, T.nolimit⟩
noncomputable def defT (p : Program) (f : String) (vs : Vs) (np : Nat) (body : List St) : Bool :=
 match (recsOf p).find? fun d => d.name == Str.ofString f with
 | some d => okFn (Calls.docDef d.name d.params d.body d.scope .none .none .none) vs np body
 | none => false
theorem def_of {p : Program} {mean : ExcName -> Option Value} {C : Cx} (T : Top p [] mean C.mg C.mb C.h0) {f : String} {vs : Vs} {np : Nat} {body : List St} (h : defT p f vs np body = true) : Def C f vs np body := by
 unfold defT at h
 cases e : (recsOf p).find? fun d => d.name == Str.ofString f with
 | none => rw [e] at h; exact (Bool.false_ne_true h).elim
 | some d =>
  rw [e] at h
  refine Vc.xa_5_4 (T.fn d (List.mem_of_find?_eq_some e)) fun a o pm code doc h1 h2 h3 h4 => ?_
  have hn : d.name = Str.ofString f := eq_of_beq (List.find?_some (p := fun d : DefRec => d.name == Str.ofString f) e)
  exact ⟨a, o, _, hn ▸ h1, h2, h3, h4, h⟩
theorem good_true {c : ClaimW} {cl : Str -> Option Addr} {mean : ExcName -> Option Value} {args : List WData} {s₁ s' : Shared} (k : ∀ b o, s₁.heap.get? b = some o -> s'.heap.get? b = some o) (hg : s'.gens = #[]) (hos : s'.os = s₁.os)
  (hn : ∀ cls, c.raises args cls = false) (hp : c.post args (.bool true) args = true) : GoodWG c cl mean args s₁ (.ok (.ret (.bool true))) s' :=
 GoodW.toG ⟨.inl ⟨.bool true, .bool true, [], rfl, hn, .bool true, hp, unshared_nil⟩, k, hos, hg⟩
theorem ints_vrs {C : Cx} {h : Heap} {vs : List Value} {ns : List Int} (x : IntsAre vs ns) : VRs C h (ns.map .int) vs := by
 induction x with
 | nil => exact .nil
 | cons n t r ih => exact VRs.cons .int_ ih
theorem start {p : Program} {w : World} {s₁ : Shared} {mg mb : Str -> Option Value} {fa a : Addr} {vs : List Value} {ns : List Int} (hL : s₁.heap.IsList a vs.toArray) (hI : IntsAre vs ns) (hg : s₁.gens = #[])
  (hmg : mg "law" = some (.ref fa)) (h : CallW ⟨p, w, s₁.heap, mg, mb⟩ ⟨60, true⟩ "law" [.ref a] (H0 a ns) (fun v zz => v = .bool true) (fun zz zz => False)) :
  wpAny (Cx.M ⟨p, w, s₁.heap, mg, mb⟩) callerA (call (.ref fa) [.ref a]) (fun v s' => v = .bool true /\ (∀ b o, s₁.heap.get? b = some o -> s'.heap.get? b = some o) /\ s'.gens = #[] /\ s'.os = s₁.os) (fun zz zz => False) s₁ := by
 have ok : Ok ⟨p, w, s₁.heap, mg, mb⟩ ⟨60, true⟩ (H0 a ns) callerA s₁ := by
  refine ⟨fun b o e => ?_, fun b o e => e, ⟨by decide +kernel, by decide +kernel⟩, ⟨fun zz => rfl, .inl rfl⟩, [], rfl, fun e he => by cases he⟩
  unfold H0 at e
  split at e
  ·rename_i hb; subst hb; cases e
   exact ⟨vs.toArray, hL, by simpa using ints_vrs hI⟩
  ·cases e
 refine wpAny_mono (h (.ref fa) (.inl hmg) callerA s₁ [.ref a] ok (VRs.cons .ref_ .nil)) (fun v s' x => ?_) fun e s' x => ?_
 ·refine Vc.xa_2_3 x fun r H' st vr hr68_4 => ?_
  try clear x
  subst hr68_4
  dsimp only [VR] at vr
  exact ⟨vr, fun b o e => st.top b o e, st.gens.trans hg, st.os⟩
 ·refine Vc.xa_3_5 x fun zz zz zz zz zz zz zz f => ?_
  try clear x
  exact f
end Vc
end
section
namespace Vc
open PySem PySem.W PyProof.Rows
theorem gi_const {p : Program} {mean : ExcName -> Option Value} {C : Cx} (T : Top p [] mean C.mg C.mb C.h0) {x : String} {i : Int} (h : valOf p (Str.ofString x) = some (.int i)) : ∃ t, C.G x (.int i t) := by
 refine Vc.xa_1_2 (T.const _ _ h) fun v h1 h2 => ?_
 have := h2 C.h0
 cases this with
 | int _ t => exact ⟨t, .inl h1⟩
noncomputable def bltOk (p : Program) (x : String) (v : Value) : Bool := bootBuiltins (Str.ofString x) == some v && !(Str.ofString x == ("__name__" : Str)) && !startupNames.contains (Str.ofString x) && !(((recsOf p).map (·.name)).contains (Str.ofString x)) && !(((litsOf p).map (·.1)).contains (Str.ofString x)) && !(((clssOf p []).map (·.name)).contains (Str.ofString x))
theorem g_blt {p : Program} {mean : ExcName -> Option Value} {C : Cx} (T : Top p [] mean C.mg C.mb C.h0) {x : String} {v : Value} (h : bltOk p x v = true) : C.G x v := by
 unfold bltOk at h
 refine Vc.xa_0_2 (Bool.and_eq_true_iff.mp h) fun h h6 => ?_
 refine Vc.xa_0_2 (Bool.and_eq_true_iff.mp h) fun h h5 => ?_
 refine Vc.xa_0_2 (Bool.and_eq_true_iff.mp h) fun h h4 => ?_
 refine Vc.xa_0_2 (Bool.and_eq_true_iff.mp h) fun h h3 => ?_
 refine Vc.xa_0_2 (Bool.and_eq_true_iff.mp h) fun h1 h2 => ?_
 refine .inr ⟨T.free _ (not_mem_of h3) (List.not_mem_nil) (not_mem_of h4) (not_mem_of h5) (not_mem_of h6), ?_⟩
 rw [T.builtins _ fun e => ?_]
 ·exact eq_of_beq h1
 ·rw [e] at h2; exact Bool.false_ne_true h2
end Vc
end
section
set_option maxRecDepth 100000
set_option maxHeartbeats 400000
namespace Vc
open PySem PySem.W PyProof.Rows
section
variable {prog : Program} {w : World} {A : Around} {E : Value -> Shared -> Prop} {K : Frag} {x D : Addr} {ox : Obj}
variable {h : Heap} {g : Array GenState} {d : Drawn} {t : Nat} {os : OsState}
theorem bga_kind : builtinKind "BaseException.__getattribute__" = some .slot := by decide +kernel
theorem bga_split : splitId "BaseException.__getattribute__" = some ("BaseException", "__getattribute__") := by decide +kernel
theorem bga_plain : plainId "BaseException.__getattribute__" = true := by decide +kernel
theorem exc_find {tk : Tok} {Q : Fin -> Shared -> Prop} (X : K.In h) (I : InstAt h x ox D none) (hf : findObj K D none "__class__" = some (.bind (.builtin "getset_descriptor.__get__") (.builtin "object.__class__"))) (hm : mroIn K D (.type "object") = some true)
  (hq : Q (.done (.ret (.ref D))) ⟨h, g, d, t, os⟩) : wpAny (model prog w) A (Builtin.«object.__getattribute__» ⟨[.ref x, .str "__class__" tk], []⟩) Q E ⟨h, g, d, t, os⟩ := by
 have LT := I.type (M := model prog w)
 have LF := looks_find (M := model prog w) X I hf
 refine wpAny_bind (wpAny_pure ?_)
 refine wpAny_bind (wpAny_pure ?_)
 refine wpAny_bind (LT.at ?_)
 refine wpAny_bind (LF.at ?_)
 refine wpAny_bind (wpAny_holding (wpAny_call (class_get (s := ⟨h, g, d, t, os⟩) X I hm ?_)))
 exact wpAny_pure hq
theorem exc_ga {tk : Tok} {R : Result -> Shared -> Prop} (X : K.In h) (I : InstAt h x ox D none) (hf : findObj K D none "__class__" = some (.bind (.builtin "getset_descriptor.__get__") (.builtin "object.__class__"))) (hm : mroIn K D (.type "object") = some true) (hmB : mroIn K D (.type "BaseException") = some true)
  (hq : R (.ok (.ret (.ref D))) ⟨h, g, d, t, os⟩) :
  codeAny (model prog w) A (.call (.builtin "BaseException.__getattribute__") ⟨[.ref x, .str "__class__" tk], []⟩) R ⟨h, g, d, t, os⟩ := by
 have LB : Looks (model prog w) h (isInstance (.ref x) (.type "BaseException")) true := (I.type (M := model prog w)).andThen (looks_mroIn X hmB)
 refine codeAny_call_builtin bga_plain F.entry_bexc_ga ?_
 exact check_slot (M := model prog w) (s := ⟨h, g, d, t, os⟩) (i := "BaseException.__getattribute__") (owner := "BaseException") (n := "__getattribute__") (self := .ref x) (rest := [.str "__class__" tk]) (kw := []) bga_kind bga_split LB (F.args_bexc_ga _ _) (exc_find X I hf hm hq)
theorem bga_bind (self : Value) : bindSpecial (.builtin "BaseException.__getattribute__") self = pure (.builtin "BaseException.__getattribute__", [self]) :=
 (Slot.of (T := "BaseException") (name := "__getattribute__") (owner := "BaseException") (n := "__getattribute__") (by rw [typeLookup_type, builtinLookup_eq_fast]; kernel_rfl) (by decide +kernel) (by decide +kernel) (by decide +kernel)
  (.inl (by decide +kernel)) (by rw [isSubtype_type]; kernel_rfl)).bind self
theorem exc_class {Q : Option Value -> Shared -> Prop} (X : K.In h) (I : InstAt h x ox D none) (hf : findObj K D none "__class__" = some (.bind (.builtin "getset_descriptor.__get__") (.builtin "object.__class__"))) (hm : mroIn K D (.type "object") = some true) (hmB : mroIn K D (.type "BaseException") = some true)
  (hga : findIn K (.ref D) "__getattribute__" = some (some (.builtin "BaseException.__getattribute__"))) (hgt : findIn K (.ref D) "__getattr__" = some none)
  (hq : Q (some (.ref D)) ⟨h, g, d, t + 1, os⟩) : wpAny (model prog w) A (getAttr? (.ref x) "__class__") Q E ⟨h, g, d, t, os⟩ := by
 have LT := I.type (M := model prog w)
 have L1 := looks_findIn (M := model prog w) X hga
 have L2 := looks_findIn (M := model prog w) X hgt
 unfold getAttr? getAttrBy? getAttrBy
 refine wpAny_bind (wpAny_mkText (wpAny_bind (wpAny_attempt (wpAny_holding (wpAny_bind (LT.at (wpAny_bind (L1.at ?_))))))))
 show wpAny _ _ (getAttrByItsOwn _ _ _ _ _ _) _ _ _
 unfold getAttrByItsOwn
 refine wpAny_bind (m := hookBefore (.ref D)) (L2.at ?_)
 refine wpAny_bind (wpAny_attempt (wpAny_holding ?_))
 unfold callGetattribute
 rw [if_neg (by simp)]
 unfold boundAndCalled
 rw [bga_bind]
 refine wpAny_bind (wpAny_pure ?_)
 first
  | exact wpAny_call (exc_ga X I hf hm hmB (wpAny_pure (wpAny_pure hq)))
  | exact wpAny_holding (wpAny_call (exc_ga X I hf hm hmB (wpAny_pure (wpAny_pure hq))))
noncomputable def excIn (K : Frag) (D : Addr) : Bool :=
 (findObj K D none "__class__" matches some (.bind (.builtin "getset_descriptor.__get__") (.builtin "object.__class__"))) && mroIn K D (.type "object") == some true && mroIn K D (.type "BaseException") == some true &&
 findIn K (.ref D) "__getattribute__" == some (some (.builtin "BaseException.__getattribute__")) && findIn K (.ref D) "__getattr__" == some none && (clsIn K D).isSome
theorem excIn_of (e : excIn K D = true) : findObj K D none "__class__" = some (.bind (.builtin "getset_descriptor.__get__") (.builtin "object.__class__")) /\ mroIn K D (.type "object") = some true /\ mroIn K D (.type "BaseException") = some true /\
  findIn K (.ref D) "__getattribute__" = some (some (.builtin "BaseException.__getattribute__")) /\ findIn K (.ref D) "__getattr__" = some none /\ (clsIn K D).isSome = true := by
 unfold excIn at e
 simp only [Bool.and_eq_true, beq_iff_eq] at e
 refine Vc.xa_0_2 e fun ho68_0 e6 => ?_
 try clear e
 obtain ⟨⟨⟨⟨e1, e2⟩, e3⟩, e4⟩, e5⟩ := ho68_0
 refine ⟨?_, e2, e3, e4, e5, e6⟩
 split at e1
 ·assumption
 ·cases e1
theorem isType_of (X : K.In h) (e : (clsIn K D).isSome = true) {M : Model} : Looks M h (isType (.ref D)) true := by
 unfold clsIn at e
 split at e
 ·rename_i c' d' cd' sl' ho
  intro A' Q' E' s' k q
  unfold isType loadHead
  exact wpAny_bind (wpAny_loadPart (k _ _ (X _ _ ho)) (wpAny_pure q))
 ·cases e
theorem kitx_exc (e : excIn K D = true) : KitX K (.ref x) (.ref D) (fun h => ∃ ox, InstAt h x ox D none) := by
 refine Vc.xa_0_6 (excIn_of e) fun e1 e2 e3 e4 e5 e6 => ?_
 refine ⟨fun zz zz zz hq1 => Vc.xa_1_1 hq1 fun ox I => I.type, fun zz zz X zz => isType_of X e6, fun h tp dd its n sl X htp => ?_, fun {prog w A E Q s} X ⟨ox, I⟩ k => ?_⟩
 ·refine Bool.eq_false_iff.mpr fun q => ?_
  have e : D = tp := Value.ref.inj (beq_iff_eq.mp q)
  subst e
  unfold clsIn at e6
  split at e6
  ·rename_i c' d' cd' sl' ho
   have z := (X _ _ ho).symm.trans htp
   cases z
  ·cases e6
 ·obtain ⟨hh, g, d, t, os⟩ := s
  exact exc_class X I e1 e2 e3 e4 e5 k
end
end Vc
end
section
set_option maxRecDepth 100000
namespace Vc
open PySem PySem.W PyProof.Rows
section
variable {C : Cx} {d : Md} {H : MH} {Q : V -> MH -> Prop} {X : XP} {K : Frag}
theorem own_g (G : C.Good) (KX : K.In C.h0) {c : String} {D : Addr} (e : nsIn K mainGlobals (Str.ofString c) = some (some (.ref D))) : C.G c (.ref D) := .inl (mg_of KX G.g e)
theorem exc_inst {h : Heap} {a : Addr} {o : Obj} {vs : Array Value} {D : Addr} (ho : h.get? a = some o) (hc : o.cls = .ref D) (hn : o.dict = none) (hd : o.data = .fields vs) : InstAt h a o D none :=
 ⟨ho, hc, by unfold notCls; rw [hd], by rw [hn]; trivial⟩
theorem isx {c x : String} {D : Addr} {cv : Value} {b : Bool} (KX : K.In C.h0) (gc : C.G c (.ref D)) (gx : C.G x cv) (e : excIn K D = true) (k : kitOne K (.ref D) cv = some b) (q : Q (.bool b) H) :
  CallV C d (.builtin "isinstance") [.exc c, .glb x] H Q X := fun A s cs ok rs => by
 refine Vc.xa_2_3 (args2 rs) fun c1 c2 hr22_2 r r' => ?_
 subst hr22_2
 dsimp only [VR] at r; dsimp only [VR] at r'
 refine Vc.xa_4_5 r fun a o vs r hr24_4 ho hc ho24_7 hd => ?_
 subst hr24_4
 obtain ⟨g, hn⟩ := ho24_7
 cases g.uniq gc
 cases r'.uniq gx
 exact kia_one (kitx_exc e) (KX.keeps ok.top) ⟨o, exc_inst ho hc hn hd⟩ k (by intro z; cases z) fun tk => qp (ok.toks tk) .bool_ q
theorem exm_of {c h : String} {D R : Addr} {b : Bool} (KX : K.In C.h0) (gc : C.G c (.ref D)) (gh : C.G h (.ref R)) (e : exmOne K (.ref D) (.ref R) = some b) : Exm C c h b :=
 ⟨⟨R, gh⟩, fun A s a o r rh t ho hc g1 g2 Q E q => by
  cases g1.uniq gc
  cases g2.uniq gh
  have LT : Looks C.M s.heap (typeOf (.ref a)) (.ref D) := hc ▸ (Looks.ld ho).andThen .now
  exact exm_one (KX.keeps t) LT e A Q E s (fun zz zz e => e) q⟩
theorem rai_of {p : Program} {mean : ExcName -> Option Value} {c : String} (G : C.Good) (T : Top p [] mean C.mg C.mb C.h0) (hs : specOf p (Str.ofString c) = some ("ValueError.__new__", [.type "ValueError", .type "Exception", .type "BaseException", .type "object"]))
  (hdb : (Str.ofString c == ("__debug__" : Str)) = false) (hq : d.q = true) (hX : X c H) : RaiW C d c H X := by
 intro A s msg ok env pos pos' npos cpos k hk hkind hgl hbl
 refine Vc.xa_1_2 (T.ownAt hs) fun Cc O hm => ?_
 have O := O.own
 obtain ⟨tl, N, nm, q, bs, hdct, sn, sub, ab, col, dd, k0, k1, k2, k3, k5, mN, hC, hN, hni, TL⟩ := O.obj
 have FB := PySem.F.excBase_ValueError
 refine wpAny_Raise_call_subT (C := Cc) (nm := nm) (q := q) (N := N) (bs := bs) (bm := tl) (hdct := hdct) (sn := sn) (sub := sub) (ab := ab) (col := col) (dd := dd) (k0 := k0) (k1 := k1) (k2 := k2) (k3 := k3) (k5 := k5)
  FB (mN := mN) (TL.hasType FB.hasBase) (ok.hnd.1 hq) rfl hni ?_
 refine Calls.Name_function_global hkind hk (Calls.loadGlobal_global (by rw [hgl]; exact G.g.keeps ok.top) O.bound ⟨rfl, ?_⟩) hdb
 refine Calls.evalArgs_plain (Calls.spliced_cons (Calls.Constant_str (pos := cpos) (k := k) (Calls.spliced_nil ⟨rfl, by simp; decide, ok.top _ _ hC, hN.keeps ok.top, TL.keeps ok.top, fun h' e hm => ?_⟩)))
 refine Vc.xa_1_3 hm.there fun t he zz zz => ?_
 have st : Step C No H s H { s with heap := h', toks := s.toks + 1 } := Step.keeps ok.rel ok.top hm.keeps rfl rfl
 exact ⟨e, c, H, rfl, st, fun zz f => f.elim, ⟨hm.new, _, _, Cc, he, rfl, ⟨.inl O.bound, rfl⟩, rfl, by simp, .inl (by simp), .inl ⟨rfl, by simp⟩⟩, hX⟩
end
end Vc
end
section
set_option maxRecDepth 100000
set_option maxHeartbeats 1000000
namespace Vc
open PySem PySem.W PyProof.Rows
section
variable {M : Model} {A : Around} {E : Value -> Shared -> Prop} {env : Env}
variable {nm q : Str} {C N : Addr} {bs bm : List Value} {hdct : Bool} {sn : List Str} {sub : List Value} {ab : Bool} {col : Option Bool} {dd : Option Addr} {k0 k1 k2 k3 k5 : Option Value} {newId : String}
theorem raise_made {s : Shared} {x : Sem Value} {Q : Flow -> Shared -> Prop} (hbase : bm.contains (.type "BaseException") = true)
  (h : wpAny M A x (fun v s₁ => ∃ e t, v = .ref e /\ s₁.heap.get? C = some (excClassObj nm q C N bs bm hdct sn sub ab col dd k0 k1 k2 k3 k5 newId) /\
   s₁.heap.get? e = some { cls := .ref C, data := .fields #[.ref t, .none, .none, .none, .bool false, .none] } /\ wpAny M A (raiseNew (.ref e) : Sem Flow) Q E s₁) E s) :
  wpAny M A (raiseStmt env (some x) none) Q E s := by
 have hcB : (Value.ref C :: bm).contains (.type "BaseException") = true := by rw [List.contains_cons, hbase, Bool.or_true]
 unfold raiseStmt
 refine wpAny_bind (wpAny_mono h (fun v s₁ h₁ => ?_) fun zz zz x => x)
 refine Vc.xa_2_4 h₁ fun e t hr20_2 hC he hE => ?_
 try clear h₁
 subst hr20_2
 obtain ⟨hp, g, d, tk, os⟩ := s₁
 repeat (first | with_reducible refine wpAny_loadPart_at he ?_ | with_reducible refine wpAny_loadPart_at hC ?_ | (with_reducible refine wpAny_isSubtype_exc hC ?_; rw [hcB]) | wp_step)
 exact hE
end
section
variable {prog : Program} {w : World} {A : Around} {E : Value -> Shared -> Prop} {s : Shared} {env : Env}
variable {nm q : Str} {C N : Addr} {bs bm bmB : List Value} {hdct : Bool} {sn : List Str} {sub : List Value} {ab : Bool} {col : Option Bool} {dd : Option Addr} {k0 k1 k2 k3 k5 : Option Value} {B newId initId : String}
theorem raise_in {e b : Addr} {oe ob : Obj} {es vs : Array Value} {Q : Flow -> Shared -> Prop} (hh : A.handled = some (.ref b)) (he : s.heap.get? e = some oe) (hde : oe.data = .fields es) (hsz : 2 < es.size) (hb : s.heap.get? b = some ob) (hd : ob.data = .fields vs) (h2 : vs[2]? = some .none) (hne : b ≠ e)
  (h : E (.ref e) { s with heap := s.heap.update e (Obj.mapFields (·.setIfInBounds 2 (.ref b))) }) : wpAny (model prog w) A (raiseNew (.ref e) : Sem Flow) Q E s := by
 simp only [raiseNew]
 refine wpAny_bind (wpAny_handled ?_)
 rw [hh]
 dsimp only
 rw [if_pos (by simpa using hne)]
 refine wpAny_bind (wpAny_holding (unchain hb hd h2 ?_))
 exact wpAny_bind (m := setField (.ref e) 2 (.ref b)) (wpAny_setField he hde hsz (wpAny_throw h))
theorem raise_call (F : ExcBaseFacts B newId initId bmB) {mN : Str -> Option Value} {x : Str} {np cpos pos : Pos} {args : List Expr} {Q : Flow -> Shared -> Prop}
  (hbase : bm.contains (.type "BaseException") = true) (hplain : (backTo cpos (starEach args env)).any (·.1) = false) (hni : mN "__init__" = none)
  (h : wpAny (model prog w) A (eval (.Name x np) env) (fun f s₁ => f = .ref C /\ wpAny (model prog w) A (evalArgs (.ref C) true (backTo cpos (starEach args env)) [])
   (fun a s₂ => a.kw = [] /\ a.pos.length <= sizeLine /\ s₂.heap.get? C = some (excClassObj nm q C N bs bm hdct sn sub ab col dd k0 k1 k2 k3 k5 newId) /\ s₂.heap.Ns N mN /\ OwnTail s₂.heap bmB bm /\
    ∀ h' e, Heap.MadeExcOf s₂.heap h' e (.ref C) a.pos -> wpAny (model prog w) A (raiseNew (.ref e) : Sem Flow) Q E { s₂ with heap := h' }) E s₁) E s) :
  wpAny (model prog w) A (exec (.Raise (some (.Call (.Name x np) args [] cpos)) none pos) env) Q E s := by
 rw [arm_exec_Raise]
 refine wpAny_bind (wpAny_standAt (raise_made (C := C) (nm := nm) (q := q) (N := N) (bs := bs) (bm := bm) (hdct := hdct) (sn := sn) (sub := sub) (ab := ab) (col := col) (dd := dd) (k0 := k0) (k1 := k1) (k2 := k2) (k3 := k3) (k5 := k5) (newId := newId) hbase (wpAny_bind (wpAny_mono (wpAny_Call_ofName (wpAny_mono h (fun f s₁ h₁ => ?_) fun zz zz x => x)) (fun v s₃ h₃ => wpAny_bind (wpAny_standAt (wpAny_pure h₃))) fun zz zz x => x))))
 obtain ⟨rfl, h₁⟩ := h₁
 unfold callWith
 refine wpAny_bind (wpAny_holding (wpAny_mono h₁ (fun a s₂ h₂ => wpAny_bind (wpAny_standAt ?_)) fun zz zz x => x))
 obtain ⟨apos, akw⟩ := a
 obtain ⟨hkw, hlen, hC, hn, T, h₂⟩ := h₂
 obtain rfl : akw = [] := hkw
 obtain ⟨hp, g, d, tk, os⟩ := s₂
 simp only [hplain]
 refine wpAny_bind (wpAny_keeperOf_exc hC ?_)
 refine wpAny_bind (wpAny_call_exc_subT (hrest := hlen) F T hC hn hni fun h' e hm => wpAny_bind (wpAny_holding (wpAny_point (wpAny_pure ?_))))
 obtain ⟨t, ht, _, _⟩ := hm.there
 exact ⟨e, t, rfl, hm.keeps _ _ hC, ht, h₂ h' e hm⟩
end
section
variable {C : Cx} {d : Md} {H : MH} {X : XP}
theorem rai_h {p : Program} {mean : ExcName -> Option Value} (G : C.Good) (T : Top p [] mean C.mg C.mb C.h0) (hs : specOf p (Str.ofString "BadText") = some ("ValueError.__new__", [.type "ValueError", .type "Exception", .type "BaseException", .type "object"]))
  (hX : X "BadText" H) : RaiH C d "BadText" H X := by
 intro A s msg b ob vs r ok hb env pos pos' npos cpos k hk hkind hgl hbl
 refine Vc.xa_0_5 hb fun hh hob hcb hdb h2 => ?_
 try clear hb
 refine Vc.xa_1_2 (T.ownAt hs) fun Cc O hm => ?_
 have O := O.own
 obtain ⟨tl, N, nm, q, bs, hdct, sn, sub, ab, col, dd, k0, k1, k2, k3, k5, mN, hC, hN, hni, TL⟩ := O.obj
 have FB := PySem.F.excBase_ValueError
 refine raise_call (C := Cc) (nm := nm) (q := q) (N := N) (bs := bs) (bm := tl) (hdct := hdct) (sn := sn) (sub := sub) (ab := ab) (col := col) (dd := dd) (k0 := k0) (k1 := k1) (k2 := k2) (k3 := k3) (k5 := k5)
  FB (mN := mN) (TL.hasType FB.hasBase) rfl hni ?_
 refine Calls.Name_function_global hkind hk (Calls.loadGlobal_global (by rw [hgl]; exact G.g.keeps ok.top) O.bound ⟨rfl, ?_⟩) (by decide +kernel)
 refine Calls.evalArgs_plain (Calls.spliced_cons (Calls.Constant_str (pos := cpos) (k := k) (Calls.spliced_nil ⟨rfl, by simp; decide, ok.top _ _ hC, hN.keeps ok.top, TL.keeps ok.top, fun h' e hm => ?_⟩)))
 refine Vc.xa_1_3 hm.there fun t he zz zz => ?_
 have hne : b ≠ e := fun q => by subst q; rw [hm.new] at hob; cases hob
 refine raise_in hh he rfl (by simp) (hm.keeps _ _ hob) hdb h2 hne ?_
 have hde := Obj.data_mapFields (o := { cls := .ref Cc, data := .fields #[.ref t, .none, .none, .none, .bool false, .none] }) rfl (·.setIfInBounds 2 (.ref b))
 have he2 := Heap.get?_update_self (Obj.mapFields (·.setIfInBounds 2 (.ref b))) he (Obj.isFreed_of_fields hde)
 have k : ∀ b' o, s.heap.get? b' = some o -> (h'.update e (Obj.mapFields (·.setIfInBounds 2 (.ref b)))).get? b' = some o := fun b' o q => by
  rw [Heap.get?_update_other _ _ (fun z => by subst z; rw [hm.new] at q; cases q)]; exact hm.keeps _ _ q
 have st : Step C No H s H { s with heap := h'.update e (Obj.mapFields (·.setIfInBounds 2 (.ref b))), toks := s.toks + 1 } := Step.keeps ok.rel ok.top k rfl rfl
 exact ⟨e, "BadText", H, rfl, st, fun zz f => f.elim, ⟨hm.new, _, _, Cc, he2, rfl, ⟨.inl O.bound, rfl⟩, hde, by simp, .inr ⟨rfl, .inr ⟨b, ob, vs, r, by simp, k _ _ hob, hcb, hdb, h2⟩⟩, .inl ⟨rfl, by simp⟩⟩, hX⟩
end
end Vc
end
section
set_option maxRecDepth 100000
namespace Vc
open PySem PySem.W PyProof.Rows
section
variable {C : Cx} {d : Md} {H : MH} {Q : V -> MH -> Prop} {X : XP} {K : Frag}
end
end Vc
end
section
namespace Vc
open PySem PySem.W PyProof.Rows
end Vc
end
section
namespace Vc
open PySem PyProof.Rows
section
variable {C : Cx} {d : Md} {H : MH} {A : Around} {s : Shared} {Q : V -> MH -> Prop} {X : XP}
theorem Ok.none (ok : Ok C d H A s) (hq : d.q = true) : A.handled = Option.none := ok.hnd.1 hq
theorem cv_min {a b : Int} (hq : d.q = true) (q : Q (.int (min a b)) H) : CallV C d (.builtin "min") [.int a, .int b] H Q X := fun A s cs ok rs => by
 refine Vc.xa_2_3 (args2 rs) fun c e hr13_2 r r' => ?_
 subst hr13_2
 dsimp only [VR] at r r'; obtain ⟨t, rfl⟩ := r; obtain ⟨u, rfl⟩ := r'
 refine min_two_ints (ok.none hq) fun h' tk k => qp (Step.keeps ok.rel ok.top k rfl rfl) ?_ q
 by_cases h : b < a
 ·rw [if_pos h, Int.min_eq_right (Int.le_of_lt h)]; exact .int_
 ·rw [if_neg h, Int.min_eq_left (Int.not_lt.mp h)]; exact .int_
theorem vrs_bools {h : Heap} : ∀ {bs : List Bool} {vs : List Value}, VRs C h (bs.map .bool) vs -> vs = bs.map .bool
 | [], _, r => r.inv_nil
 | b :: bs, _, r => by
  refine Vc.xa_2_3 r.inv_cons fun v vs' hr58_2 h1 h2 => ?_
  subst hr58_2
  dsimp only [VR] at h1; subst h1
  rw [vrs_bools h2]; rfl
theorem all_range (bs : List Bool) : (List.range bs.length).all (fun i => bs.getD i false) = bs.all id := by
 rw [Bool.eq_iff_iff]
 simp only [List.all_eq_true, List.mem_range, id]
 constructor
 ·intro h b hb
  obtain ⟨i, hi, e⟩ := List.getElem_of_mem hb
  have := h i hi
  rw [List.getD_eq_getElem?_getD, List.getElem?_eq_getElem hi] at this
  rw [<- e]; exact this
 ·intro h i hi
  rw [List.getD_eq_getElem?_getD, List.getElem?_eq_getElem hi]
  exact h _ (List.getElem_mem hi)
theorem cv_all {a : Addr} {bs : List Bool} (hq : d.q = true) (h : H a = some (.lst (bs.map .bool))) (q : Q (.bool (bs.all id)) H) : CallV C d (.builtin "all") [.ref a] H Q X := fun A s cs ok rs => by
 refine Vc.xa_1_2 (args1 rs) fun c hr89_1 r => ?_
 subst hr89_1
 dsimp only [VR] at r; subst r
 refine Vc.xa_1_2 (list_at ok.rel (items_lst h)) fun items hL rs => ?_
 have hi := vrs_bools rs
 have hne : a ≠ s.heap.objs.size := fun e => by obtain ⟨o, ho, _⟩ := hL; rw [e, fresh_size] at ho; cases ho
 refine call_all_walk (wpAny_pyIter_list hL ?_)
 have hn : items.size = bs.length := by rw [<- Array.length_toList, hi, List.length_map]
 refine ⟨_, _, _, _, _, _, fun i => bs.getD i false, rfl, Walks.list (A := A.in1) (ok.none hq) s.heap.objs.size a hne items, ⟨⟨_, Heap.get?_push_size _ rfl, rfl, rfl⟩, hL.push _⟩, fun i v s' Q' E' hP hQ => ?_, fun h' tk k => ?_⟩
 ·replace hP : items[i]? = some v := hP
  rw [<- Array.getElem?_toList, hi, List.getElem?_map] at hP
  cases e : bs[i]? with
  | none => rw [e] at hP; cases hP
  | some b =>
   rw [e] at hP; cases hP
   refine wpAny_truthy_bool ?_
   replace hQ : Q' (bs.getD i false) s' := hQ
   rw [List.getD_eq_getElem?_getD, e] at hQ; exact hQ
 ·rw [hn, all_range]
  refine qp (Step.keeps ok.rel ok.top (fun b o e => k b o (fun hm => ?_) (Heap.get?_push_of_some _ e)) rfl rfl) .bool_ q
  simp only [List.mem_singleton] at hm
  rw [hm, fresh_size] at e; cases e
theorem valueAt_none {κ : Type} [DecidableEq κ] {k : κ} : ∀ {l : List (κ × V)} {kvs : List (κ × Value)}, kvs.map (·.1) = l.map (·.1) -> dget l k = none -> valueAt kvs k = none := by
 intro l kvs m e
 unfold dget at e; unfold valueAt
 simp only [Option.map_eq_none_iff, List.find?_eq_none] at e ⊢
 intro p hp
 have : p.1 ∈ l.map (·.1) := by rw [<- m]; exact List.mem_map.mpr ⟨p, hp, rfl⟩
 refine Vc.xa_1_2 (List.mem_map.mp this) fun p' hp' e' => ?_
 have := e p' hp'
 rw [e'] at this; exact this
theorem ne_mod {a : Addr} (h : a ≠ sysModules) : (a == sysModules) = false := by
 cases e : a == sysModules with
 | false => rfl
 | true => exact absurd (eq_of_beq e) h
end
end Vc
end
section
namespace Vc
open PySem
section
variable {xs : Array Nat} {j : Nat}
end
end Vc
end
section
namespace Vc
open PySem
section
variable {prog : Program} {w : World} {A : Around} {E : Value -> Shared -> Prop} {s : Shared} {es : Array (Int × Value)} {t : SetTable} {l : List Int} {a : Addr}
end
end Vc
end
section
set_option maxRecDepth 100000
namespace Vc
open PySem
section
variable {prog : Program} {w : World} {A : Around} {E : Value -> Shared -> Prop} {s : Shared} {a : Addr}
end
end Vc
end
section
set_option maxRecDepth 100000
namespace Vc
open PySem
section
variable {prog : Program} {w : World} {A : Around} {E : Value -> Shared -> Prop} {s : Shared} {L : Addr}
end
end Vc
end
section
set_option maxRecDepth 100000
namespace Vc
open PySem
end Vc
end
section
set_option maxRecDepth 100000
namespace Vc
open PySem
section
variable {prog : Program} {w : World} {A : Around} {E : Value -> Shared -> Prop} {s : Shared}
section
variable {a : Addr} {es : Array (Int × Value)} {ep : Nat} {t : SetTable} {l : List Int}
end
end
end Vc
end
section
set_option maxRecDepth 100000
namespace Vc
open PySem
section
variable {prog : Program} {w : World} {A : Around} {E : Value -> Shared -> Prop} {s : Shared}
end
end Vc
end
section
set_option maxRecDepth 100000
namespace Vc
open PySem PyProof.Rows
section
variable {prog : Program} {w : World} {A : Around} {E : Value -> Shared -> Prop} {s : Shared}
end
end Vc
end
section
namespace Vc
open PySem PyProof.Rows
section
variable {C : Cx} {d : Md} {A : Around} {H : MH} {s : Shared} {Q : V -> MH -> Prop} {X : XP}
theorem vrs_ints {h : Heap} : ∀ {ns : List Int} {vs : List Value}, VRs C h (ns.map .int) vs -> IntsAre vs ns
 | [], vs, r => by rw [VRs.inv_nil r]; exact .nil
 | n :: ns, vs, r => by
  refine Vc.xa_2_3 (VRs.inv_cons r) fun v vs' hr20_2 r1 r2 => ?_
  subst hr20_2
  dsimp only [VR] at r1
  refine Vc.xa_1_1 r1 fun t hr22_1 => ?_
  try clear r1
  subst hr22_1
  exact .cons _ _ (vrs_ints r2)
theorem is_none_none' (q : Q (.bool true) H) : CmpW C d .Is .none .none H Q X := fun A s ca cb ok ra rb => by
 dsimp only [VR] at ra rb; subst ra rb
 exact is_none_none (qp ok.refl .bool_ q)
theorem is_none_ref {a : Addr} (q : Q (.bool false) H) : CmpW C d .Is (.ref a) .none H Q X := fun A s ca cb ok ra rb => by
 dsimp only [VR] at ra rb; subst ra rb
 exact is_none_ne (by simp) (qp ok.refl .bool_ q)
theorem isnot_none_none' (q : Q (.bool false) H) : CmpW C d .IsNot .none .none H Q X := fun A s ca cb ok ra rb => by
 dsimp only [VR] at ra rb; subst ra rb
 exact isnot_none_none (qp ok.refl .bool_ q)
end
end Vc
end
section
namespace Vc
open PySem PyProof.Rows PySem.W
section
variable {C : Cx} {d : Md} {H : MH} {A : Around} {s : Shared} {Q : V -> MH -> Prop} {X : XP}
theorem mget_l {a : Addr} {l : List V} {m id : String} (h : H a = some (.lst l)) (sl : Slot "list" (Str.ofString m) id) (ty : typeOf (.builtin id) = pure (.type "method_descriptor")) : MGet C d (.ref a) m (.builtin id) H := mget_list h sl ty
theorem seq_mut {a : Addr} {l l' : List V} {items : Array Value} {k : Nat} {f : Array Value -> Array Value} (ok : Ok C d H A s) (h : H a = some (.lst l)) (h0 : C.h0.get? a = none) (hL : s.heap.get? a = some { cls := .type "list", data := .seq items k }) (key : VRs C s.heap l' (f items).toList) :
  Step C No H s (upd H a (.lst l')) { s with heap := s.heap.update a (Obj.mapSeq f) } := by
 refine Step.mut (o := .lst l') ok.rel ok.top (by rw [h]; rfl) h0 (Heap.SameBut.update ..) (fun ob hob => ?_) (fun ob es ep hob hd => ?_) (fun vk => ⟨h0, f items, ⟨if (f items).size == items.size then k else k + 1, ?_⟩, key.keep vk⟩) rfl rfl
 ·rw [hL] at hob; cases hob; exact .inr (.inr ⟨"list", rfl, by decide, by decide⟩)
 ·rw [hL] at hob; cases hob; cases hd
 ·exact (Heap.get?_update_self (Obj.mapSeq f) hL rfl).trans rfl
theorem cv_clear {a : Addr} {l : List V} (h : H a = some (.lst l)) (hl : l.length <= sizeLine) (q : Q .none (upd H a (.lst []))) : CallV C d (.builtin "list.clear") [.ref a] H Q X := fun A s cs ok rs => by
 refine Vc.xa_1_2 (args1 rs) fun c hr36_1 r => ?_
 subst hr36_1
 dsimp only [VR] at r; subst r
 obtain ⟨h0, items, ⟨k, hL⟩, rs⟩ := ok.rel _ _ h
 have hn := rs.length
 simp only [Array.length_toList] at hn
 refine call_meets PySem.F.slot_list_clear ⟨_, hL, rfl⟩ PySem.F.entry_list_clear (PySem.F.args_list_clear_1 _) (AutoSeq1.list_clear_list_0 a items k (by omega)) ⟨hL, ?_⟩
 exact qp' (seq_mut (f := fun zz => #[]) ok h h0 hL VRs.nil) .none_ q
theorem ints_list {a : Addr} {ns : List Int} (ok : Ok C d H A s) (h : itemsOf H (.ref a) = some (ns.map .int)) : ∃ vs : List Value, s.heap.IsList a vs.toArray /\ IntsAre vs ns := by
 refine Vc.xa_1_2 (list_at ok.rel h) fun items hL rs => ?_
 exact ⟨items.toList, by simpa using hL, vrs_ints rs⟩
theorem cv_maxl {a : Addr} {ns : List Int} (hq : d.q = true) (h : itemsOf H (.ref a) = some (ns.map .int)) (hne : 0 < ns.length) (q : ∀ M, M ∈ ns -> (∀ x ∈ ns, x <= M) -> Q (.int M) H) : CallV C d (.builtin "max") [.ref a] H Q X := fun A s cs ok rs => by
 refine Vc.xa_1_2 (args1 rs) fun c hr59_1 r => ?_
 subst hr59_1
 dsimp only [VR] at r; subst r
 refine Vc.xa_1_2 (ints_list ok h) fun vs hl hi => ?_
 refine Vc.xa_1_1 hi.allInts.items fun xs e => ?_
 have hns : ns = xs.toList.map (·.1) := by rw [<- hi.numsOf, <- nums_intItems, <- e]
 have hsz : 0 < xs.size := by have h3 := hne; rw [hns, List.length_map, Array.length_toList] at h3; exact h3
 rw [e] at hl
 refine max_intList (ok.none hq) hl hsz fun v h' tk hv hk => ?_
 refine Vc.xa_1_1 (intItems_at hv) fun t hr67_1 => ?_
 subst hr67_1
 refine Vc.xa_0_2 (argBest_gt (numAt xs) (xs.size - 1)) fun h1 h2 => ?_
 refine qp (Step.keeps ok.rel ok.top hk rfl rfl) .int_ (q _ ?_ fun x hx => ?_)
 ·rw [hns, numAt_eq]; exact getD_mem (by rw [List.length_map, Array.length_toList]; (clear hne; omega))
 ·rw [hns] at hx
  refine Vc.xa_1_2 (mem_getD hx) fun j hj hr72_2 => ?_
  subst hr72_2
  rw [List.length_map, Array.length_toList] at hj
  rw [<- numAt_eq]; exact h2 j (by (clear hne hsz h1; omega))
end
end Vc
end
section
namespace Vc
open PySem PyProof.Rows
section
variable {C : Cx} {d : Md} {H : MH} {A : Around} {s : Shared} {Q : V -> MH -> Prop} {X : XP}
theorem mget_split {x : Str} : MGet C d (.str x) "split" (.builtin "str.split") H := fun A s co pl Q E ok r q => by obtain ⟨t, rfl⟩ := (show ∃ t, co = .str x t from r); with_reducible exact GM.split q
theorem mget_join {x : Str} : MGet C d (.str x) "join" (.builtin "str.join") H := fun A s co pl Q E ok r q => by obtain ⟨t, rfl⟩ := (show ∃ t, co = .str x t from r); with_reducible exact GM.join q
theorem mget_rfind {x : Str} : MGet C d (.str x) "rfind" (.builtin "str.rfind") H := fun A s co pl Q E ok r q => by obtain ⟨t, rfl⟩ := (show ∃ t, co = .str x t from r); with_reducible exact GM.rfind q
theorem mget_upper {x : Str} : MGet C d (.str x) "upper" (.builtin "str.upper") H := fun A s co pl Q E ok r q => by obtain ⟨t, rfl⟩ := (show ∃ t, co = .str x t from r); with_reducible exact GM.upper q
theorem bin_sadd {x y : Str} (hl : x.length + y.length <= sizeLine) (q : Q (.str (x ++ y)) H) : BinW C d .Add (.str x) (.str y) H Q X := fun A s ca cb ok ra rb => by
 refine Vc.xa_1_1 ((show ∃ t, ca = .str x t from ra)) fun t hr24_1 => ?_
 subst hr24_1
 refine Vc.xa_1_1 ((show ∃ t, cb = .str y t from rb)) fun u hr25_1 => ?_
 subst hr25_1
 exact PyProof.Rows.add_str (fun t' tk => qp (ok.toks _) .str_ q) hl
theorem cmp_eq_str {x y : Str} (q : Q (.bool (x == y)) H) : CmpW C d .Eq (.str x) (.str y) H Q X := fun A s ca cb ok ra rb => by
 refine Vc.xa_1_1 ((show ∃ t, ca = .str x t from ra)) fun t hr28_1 => ?_
 subst hr28_1
 refine Vc.xa_1_1 ((show ∃ t, cb = .str y t from rb)) fun u hr29_1 => ?_
 subst hr29_1
 exact PyProof.Rows.eq_str (qp ok.refl .bool_ q)
theorem cmp_ne_str {x y : Str} (q : Q (.bool (x != y)) H) : CmpW C d .NotEq (.str x) (.str y) H Q X := fun A s ca cb ok ra rb => by
 refine Vc.xa_1_1 ((show ∃ t, ca = .str x t from ra)) fun t hr32_1 => ?_
 subst hr32_1
 refine Vc.xa_1_1 ((show ∃ t, cb = .str y t from rb)) fun u hr33_1 => ?_
 subst hr33_1
 exact PyProof.Rows.ne_str (qp ok.refl .bool_ q)
theorem cmp_in_str {x : Str} {c : Nat} (q : Q (.bool (decide (c ∈ x.cps.toList))) H) : CmpW C d .In (.str ⟨#[c]⟩) (.str x) H Q X := fun A s ca cb ok ra rb => by
 refine Vc.xa_1_1 ((show ∃ t, ca = .str ⟨#[c]⟩ t from ra)) fun t hr36_1 => ?_
 subst hr36_1
 refine Vc.xa_1_1 ((show ∃ t, cb = .str x t from rb)) fun u hr37_1 => ?_
 subst hr37_1
 refine PyProof.Rows.in_str ?_
 rw [StrLaws.found_one]
 exact qp ok.refl .bool_ q
theorem cv_stri {i : Int} (h0 : 0 <= i) (h1 : i < 1000) (q : Q (.str (Str.ofString (toString i))) H) : CallV C d (.type "str") [.int i] H Q X := fun A s cs ok rs => by
 refine Vc.xa_1_2 (args1 rs) fun c hr42_1 r => ?_
 subst hr42_1
 refine Vc.xa_1_1 ((show ∃ t, c = .int i t from r)) fun t hr43_1 => ?_
 subst hr43_1
 refine P.str_of_int ?_ (qp (ok.toks _) .str_ q)
 have : i.natAbs < 2 ^ 1920 := Nat.lt_of_lt_of_le (show i.natAbs < 1024 by omega) (by decide +kernel)
 by_cases hz : i.natAbs = 0
 ·rw [hz]; decide
 ·exact (Nat.log2_lt hz).mpr this
theorem cv_ints {x : Str} {i : Int} (h : PySem.intText? x = some i) (hl : x.length <= 640) (q : Q (.int i) H) : CallV C d (.type "int") [.str x] H Q X := fun A s cs ok rs => by
 refine Vc.xa_1_2 (args1 rs) fun c hr50_1 r => ?_
 subst hr50_1
 refine Vc.xa_1_1 ((show ∃ t, c = .str x t from r)) fun t hr51_1 => ?_
 subst hr51_1
 exact PySem.W.KIN.call_text h hl (qp (ok.toks _) .int_ q)
theorem cv_lens {x : Str} (hl : x.length <= sizeLine) (q : Q (.int x.length) H) : CallV C d (.builtin "len") [.str x] H Q X := fun A s cs ok rs => by
 refine Vc.xa_1_2 (args1 rs) fun c hr54_1 r => ?_
 subst hr54_1
 refine Vc.xa_1_1 ((show ∃ t, c = .str x t from r)) fun t hr55_1 => ?_
 subst hr55_1
 refine PyProof.Rows.len_str ?_ (qp (ok.toks _) .int_ q)
 have : (sizeLine : Int) < 2 ^ 63 := by decide +kernel
 omega
theorem vrs_strs {h : Heap} : ∀ {l : List (Str × Tok)}, VRs C h ((l.map (·.1)).map V.str) (strValues l)
 | [] => VRs.nil
 | (x, t) :: l => VRs.cons .str_ (vrs_strs (l := l))
theorem made_list {l : List V} {items : List Value} {k n : Nat} (ok : Ok C d H A s) (rs : VRs C (s.heap.push { cls := .type "list", data := .seq items.toArray n }) l items) (q : ∀ a, H a = none -> Q (.ref a) (upd H a (.lst l))) :
  QP C H s Q (.ref s.heap.objs.size) { s with toks := k, heap := s.heap.push { cls := .type "list", data := .seq items.toArray n } } :=
 qp' (Step.alloc (o := .lst l) ok.rel ok.top ⟨fresh0 ok, items.toArray, ⟨_, Heap.get?_push_size _ rfl⟩, rs⟩ rfl rfl rfl) .ref_ (q _ (ok.rel.fresh (fresh_size _)))
theorem cv_split {x y : Str} (hy : (y.length == 0) = false) (hl : x.length + 2 <= sizeLine) (q : ∀ a, H a = none -> Q (.ref a) (upd H a (.lst ((Txt.split x y).map .str)))) : CallV C d (.builtin "str.split") [.str x, .str y] H Q X := fun A s cs ok rs => by
 refine Vc.xa_2_3 (args2 rs) fun c e hr69_2 r r' => ?_
 subst hr69_2
 refine Vc.xa_1_1 ((show ∃ t, c = .str x t from r)) fun t hr70_1 => ?_
 subst hr70_1
 refine Vc.xa_1_1 ((show ∃ t, e = .str y t from r')) fun u hr71_1 => ?_
 subst hr71_1
 have hself : ∀ h : Heap, VRs C h ([x].map V.str) [Value.str x t] := fun h => VRs.cons .str_ VRs.nil
 cases h1 : (decide (x.length < y.length) || decide (Builtin.Str.strKind x < Builtin.Str.strKind y))
 ·cases hf : (Builtin.Str.occurrences x y 0 x.length (x.length + 1)).isEmpty
  ·have hn : (Builtin.Str.partsBetween x (Builtin.Str.occurrences x y 0 x.length (x.length + 1)) y.length).length <= sizeLine := by
    rw [length_partsBetween]
    have := StrLaws.occ_length_le_len x y 0 x.length (x.length + 1)
    omega
   refine call_meets PySem.F.slot_str_split (typeIs_str _ _ _) PySem.F.entry_str_split (PySem.F.args_str_split_2 _ _) (meets_str_split_sep x y t u h1 hy hf (by (clear hn; omega)) hn) ?_
   have e : Txt.split x y = Builtin.Str.partsBetween x (Builtin.Str.occurrences x y 0 x.length (x.length + 1)) y.length := (if_neg (ne_true_of_eq_false h1)).trans (if_neg (ne_true_of_eq_false hf))
   rw [e] at q
   refine made_list ok ?_ q
   rw [strsFrom_eq]
   have := vrs_strs (C := C) (h := s.heap.push { cls := .type "list", data := .seq (strValues (numbered s.toks (Builtin.Str.partsBetween x (Builtin.Str.occurrences x y 0 x.length (x.length + 1)) y.length))).toArray }) (l := numbered s.toks (Builtin.Str.partsBetween x (Builtin.Str.occurrences x y 0 x.length (x.length + 1)) y.length))
   rw [numbered_texts] at this
   exact this
  ·have e : Txt.split x y = [x] := (if_neg (ne_true_of_eq_false h1)).trans (if_pos hf)
   rw [e] at q
   exact call_meets PySem.F.slot_str_split (typeIs_str _ _ _) PySem.F.entry_str_split (PySem.F.args_str_split_2 _ _) (meets_str_split_not_found x y t u h1 hy hf) (made_list (k := s.toks) ok (hself _) q)
 ·have e : Txt.split x y = [x] := if_pos h1
  rw [e] at q
  exact call_meets PySem.F.slot_str_split (typeIs_str _ _ _) PySem.F.entry_str_split (PySem.F.args_str_split_2 _ _) (meets_str_split_cannot_occur x y t u h1) (made_list (k := s.toks) ok (hself _) q)
theorem strs_at {h : Heap} : ∀ {ws : List Str} {vs : List Value}, VRs C h (ws.map V.str) vs -> ∃ l : List (Str × Tok), vs = strValues l /\ l.map (·.1) = ws
 | [], vs, r => by have := r.inv_nil; subst this; exact ⟨[], rfl, rfl⟩
 | w :: ws, vs, r => by
  refine Vc.xa_2_3 (VRs.inv_cons (show VRs C h (V.str w :: ws.map V.str) vs from r)) fun v vs' hr96_2 r1 r2 => ?_
  subst hr96_2
  refine Vc.xa_1_1 ((show ∃ t, v = .str w t from r1)) fun t hr97_1 => ?_
  subst hr97_1
  refine Vc.xa_1_2 (strs_at r2) fun l hr98_1 hr98_2 => ?_
  subst hr98_1
  subst hr98_2
  exact ⟨(w, t) :: l, rfl, rfl⟩
theorem cv_join {y : Str} {a : Addr} {ws : List Str} (h : itemsOf H (.ref a) = some (ws.map .str)) (hok : JoinOk y ws = true) (q : Q (.str (Txt.join y ws)) H) : CallV C d (.builtin "str.join") [.str y, .ref a] H Q X := fun A s cs ok rs => by
 refine Vc.xa_2_3 (args2 rs) fun c e hr102_2 r r' => ?_
 subst hr102_2
 refine Vc.xa_1_1 ((show ∃ t, c = .str y t from r)) fun t hr103_1 => ?_
 subst hr103_1
 cases (show e = .ref a from r')
 refine Vc.xa_1_2 (list_at ok.rel h) fun items hL rs => ?_
 refine Vc.xa_1_2 (strs_at rs) fun l e hl => ?_
 have e' : items = (strValues l).toArray := by rw [<- e, Array.toArray_toList]
 subst e'
 exact SC.join hL hl hok fun t' k => qp (ok.toks _) .str_ q
end
end Vc
end
section
namespace Vc
open PySem PyProof.Rows
noncomputable def Asc (x : Str) : Prop := ∀ c ∈ x.cps.toList, c < 128
theorem Asc.app {x y : Str} (hx : Asc x) (hy : Asc y) : Asc (x ++ y) := fun c hc => by
 have e : (x ++ y).cps = x.cps ++ y.cps := rfl
 rw [e, Array.toList_append] at hc
 rcases List.mem_append.mp hc with h | h
 ·exact hx c h
 ·exact hy c h
theorem len_app (x y : Str) : (x ++ y).length = x.length + y.length := by show (x.cps ++ y.cps).size = _; rw [Array.size_append]; rfl
section
variable {C : Cx} {d : Md} {H : MH} {A : Around} {s : Shared} {Q : V -> MH -> Prop} {X : XP}
theorem sub_str {x : Str} {i : Int} {j : Nat} {c : Nat} (hj : seqIndex? i x.length = some j) (hi : -1000000 <= i /\ i <= 1000000) (hc : x.cps[j]? = some c) (q : Q (.str ⟨#[c]⟩) H) : SubW C d (.str x) (.int i) H Q X := fun A s co ci ok ro ri => by
 refine Vc.xa_1_1 ((show ∃ t, co = .str x t from ro)) fun t hr25_1 => ?_
 subst hr25_1
 refine Vc.xa_1_1 ((show ∃ t, ci = .int i t from ri)) fun u hr26_1 => ?_
 subst hr26_1
 refine ⟨gip (typeIs_str s x t) slot_str_getitem.lookup, PyProof.Rows.getItem_str ?_ (by rw [hj]; exact hc) (qp (ok.toks _) .str_ q)⟩
 rw [Bool.or_eq_false_iff]
 exact ⟨decide_eq_false (by omega), decide_eq_false (by omega)⟩
theorem part_of {vl : V} {lo : Option Int} {h : Heap} {cl : Value} (p : Prt vl lo) (r : VR C h vl cl) : ∃ l : Option (Int × Tok), cl = partValue l /\ l.map (·.1) = lo := by
 cases p with
 | none => exact ⟨none, r, rfl⟩
 | int i => obtain ⟨t, rfl⟩ := (show ∃ t, cl = .int i t from r); exact ⟨some (i, t), rfl, rfl⟩
theorem sli_str {x : Str} {vl vu : V} {lo hi : Option Int} (pl : Prt vl lo) (pu : Prt vu hi) (hl : x.length <= sizeLine) (q : ∀ y : Str, (∀ c ∈ y.cps.toList, c ∈ x.cps.toList) -> y.length <= x.length -> Q (.str y) H) : SliW C d (.str x) vl vu .none H Q X := fun A s co cl cu ct p ok ro rl ru rt hp => by
 refine Vc.xa_1_1 ((show ∃ t, co = .str x t from ro)) fun t hr36_1 => ?_
 subst hr36_1
 refine Vc.xa_1_2 (part_of pl rl) fun l hr37_1 hlo => ?_
 subst hr37_1
 refine Vc.xa_1_2 (part_of pu ru) fun u hr38_1 hhi => ?_
 subst hr38_1
 cases (show ct = .none from rt)
 refine ⟨gip (typeIs_str s x t) slot_str_getitem.lookup, wpAny_getItem_str_slice (l := l) (u := u) (st := none) ⟨_, hp, rfl, rfl⟩ rfl ?_⟩
 have hlen : (slicePicked x l u none).length <= x.length := sliceIndices_le _ _ _
 unfold sliceMade
 split
 ·exact qp ok.refl .str_ (q x (fun c h => h) (Nat.le_refl _))
 ·have h2 : ((slicePicked x l u none).filterMap (x.cps[·]?)).length <= x.length := Nat.le_trans (List.length_filterMap_le _ _) hlen
  refine ⟨?_, qp (ok.toks _) .str_ (q _ (fun c h => ?_) ?_)⟩
  ·show ((slicePicked x l u none).filterMap (x.cps[·]?)).toArray.size <= _
   rw [List.size_toArray]; (clear hlen; omega)
  ·rw [List.toList_toArray, List.mem_filterMap] at h
   refine Vc.xa_1_2 h fun j zz e => ?_
   try clear h
   exact List.mem_of_getElem? (by rw [Array.getElem?_toList]; exact e)
  ·show ((slicePicked x l u none).filterMap (x.cps[·]?)).toArray.size <= _
   rw [List.size_toArray]; exact h2
theorem vrs_fm {h : Heap} {l : List V} {vs : List Value} (r : VRs C h l vs) : ∀ js : List Nat, VRs C h (js.filterMap (l[·]?)) (js.filterMap (vs[·]?))
 | [] => VRs.nil
 | j :: js => by
  rw [List.filterMap_cons, List.filterMap_cons]
  cases e : l[j]? with
  | none =>
   have : vs[j]? = none := by rw [List.getElem?_eq_none_iff] at e ⊢; rw [<- r.length]; exact e
   rw [this]; exact vrs_fm r js
  | some v =>
   refine Vc.xa_1_2 (r.get e) fun c e1 e2 => ?_
   rw [e1]; exact VRs.cons e2 (vrs_fm r js)
theorem sli_rev {a : Addr} {l : List V} (h : itemsOf H (.ref a) = some l) (hl : l.length <= sizeLine) (q : ∀ (b : Addr) (js : List Nat), H b = none -> (js.filterMap (l[·]?)).length <= l.length -> Q (.ref b) (upd H b (.lst (js.filterMap (l[·]?))))) : SliW C d (.ref a) .none .none (.int (-1)) H Q X := fun A s co cl cu ct p ok ro rl ru rt hp => by
 dsimp only [VR] at ro; subst ro
 refine Vc.xa_1_2 (list_at ok.rel h) fun items hL rs => ?_
 have hn := rs.length
 simp only [Array.length_toList] at hn
 dsimp only [VR] at rl ru rt
 subst rl ru
 refine Vc.xa_1_1 rt fun t hr73_1 => ?_
 try clear rt
 subst hr73_1
 refine ⟨gip hL.typeIs slot_list_getitem.lookup, wpAny_getItem_list_slice (st := some (-1)) hL ⟨_, hp, rfl, rfl⟩ .none .none (.int _ _) (by decide) ?_ (by omega)⟩
 have hsz := slicePick_size_le items none none (some (-1))
 obtain ⟨js, hjs⟩ : ∃ js : List Nat, slicePick items none none (some (-1)) = (js.filterMap (items[·]?)).toArray := ⟨_, rfl⟩
 have key : VRs C s.heap (js.filterMap (l[·]?)) (slicePick items none none (some (-1))).toList := by
  rw [hjs, List.toList_toArray]
  have := vrs_fm rs js
  simpa only [Array.getElem?_toList] using this
 have hlen : (js.filterMap (l[·]?)).length <= l.length := Nat.le_trans (Nat.le_of_eq (key.length.trans (Array.length_toList ..))) (hn ▸ hsz)
 refine Vc.xa_0_2 (alloc_list (s' := { s with heap := s.heap.push { cls := .type "list", data := .seq (slicePick items none none (some (-1))) } }) ok key rfl rfl rfl) fun st hf => ?_
 exact qp' st .ref_ (q _ js hf hlen)
theorem cv_rfind {x y : Str} (q : ∀ i : Int, -1 <= i -> i <= x.length -> Q (.int i) H) : CallV C d (.builtin "str.rfind") [.str x, .str y] H Q X := fun A s cs ok rs => by
 refine Vc.xa_2_3 (args2 rs) fun c e hr85_2 r r' => ?_
 subst hr85_2
 refine Vc.xa_1_1 ((show ∃ t, c = .str x t from r)) fun t hr86_1 => ?_
 subst hr86_1
 refine Vc.xa_1_1 ((show ∃ t, e = .str y t from r')) fun u hr87_1 => ?_
 subst hr87_1
 have hb : -1 <= Txt.rfind x y /\ Txt.rfind x y <= x.length := by
  rcases rfind_whole x y with ⟨e, _⟩ | ⟨i, e, ⟨h, _⟩, _⟩
  ·rw [e]; (clear e; omega)
  ·rw [e]; (clear e; omega)
 exact SC.rfind (qp (ok.toks _) .int_ (q _ hb.1 hb.2))
theorem up_asc : ∀ c, c < 128 -> ((Unicode.upperOf c).all (fun d => decide (d < 128)) && decide ((Unicode.upperOf c).length = 1)) = true := by decide +kernel
theorem flat_one : ∀ (l : List (Array Nat)) (acc : Array Nat), (∀ a ∈ l, a.size <= 1) -> (l.foldl (fun acc xs => acc ++ xs) acc).size <= acc.size + l.length
 | [], acc, _ => by simp
 | a :: r, acc, h => by
  have h1 := flat_one r (acc ++ a) (fun b hb => h b (List.mem_cons_of_mem _ hb))
  have h2 := h a (List.mem_cons_self ..)
  rw [Array.size_append] at h1
  simp only [List.foldl_cons, List.length_cons]
  omega
theorem cv_upper {x : Str} (hx : Asc x) (hl : x.length <= 100000) (q : ∀ y : Str, Asc y -> y.length <= x.length -> Q (.str y) H) : CallV C d (.builtin "str.upper") [.str x] H Q X := fun A s cs ok rs => by
 refine Vc.xa_1_2 (args1 rs) fun c hr103_1 r => ?_
 subst hr103_1
 refine Vc.xa_1_1 ((show ∃ t, c = .str x t from r)) fun t hr104_1 => ?_
 subst hr104_1
 have up : ∀ c ∈ x.cps.toList, (∀ d ∈ Unicode.upperOf c, d < 128) /\ (Unicode.upperOf c).length = 1 := fun c hc => by
  have := up_asc c (hx c hc)
  simp only [Bool.and_eq_true, List.all_eq_true, decide_eq_true_eq] at this
  exact this
 have h3 : (Txt.upper x).length <= x.length := by
  show ((x.cps.mapIdx fun i c => (Unicode.upperOf c).toArray).flatten).size <= _
  have key := flat_one (x.cps.mapIdx fun i c => (Unicode.upperOf c).toArray).toList #[] (fun a ha => by
   rw [<- Array.mem_def] at ha
   obtain ⟨i, hi, rfl⟩ := Array.mem_iff_getElem.mp ha
   rw [Array.getElem_mapIdx]
   have := (up (x.cps[i]'(by simpa using hi)) (by simp)).2
   simp only [List.size_toArray]; (clear hl; omega))
  have e : (x.cps.mapIdx fun i c => (Unicode.upperOf c).toArray).flatten = (x.cps.mapIdx fun i c => (Unicode.upperOf c).toArray).toList.foldl (fun acc xs => acc ++ xs) #[] := by
   unfold Array.flatten; rw [<- Array.foldl_toList]; rfl
  rw [e]
  exact Nat.le_trans key (by rw [Array.length_toList, Array.size_mapIdx]; show 0 + x.cps.size <= x.cps.size; (clear hl key; omega))
 refine SC.upper ?_ (qp (ok.toks _) .str_ (q _ (fun c hc => ?_) h3))
 ·have hz : 1000000 < sizeLine := by decide
  exact decide_eq_false (by omega)
 ·have hc : c ∈ ((x.cps.mapIdx fun i c => (Unicode.upperOf c).toArray).flatten).toList := hc
  rw [<- Array.mem_def, Array.mem_flatten] at hc
  refine Vc.xa_1_2 hc fun a ha hca => ?_
  try clear hc
  obtain ⟨i, hi, rfl⟩ := Array.mem_iff_getElem.mp ha
  rw [Array.getElem_mapIdx] at hca
  exact (up (x.cps[i]'(by simpa using hi)) (by simp)).1 c (by simpa using hca)
end
end Vc
end
section
namespace Vc
open PySem
noncomputable def jn (c : Nat) : List (List Nat) -> List Nat
 | [] => []
 | [p] => p
 | p :: q :: r => p ++ c :: jn c (q :: r)
theorem cut_at {c : Nat} : ∀ {p p' t t' : List Nat}, c ∉ p -> c ∉ p' -> p ++ c :: t = p' ++ c :: t' -> p = p' /\ t = t'
 | [], [], _, _, _, _, e => ⟨rfl, (List.cons.inj e).2⟩
 | [], x :: p', _, _, _, h', e => absurd ((List.cons.inj e).1 ▸ List.mem_cons_self) h'
 | x :: p, [], _, _, h, _, e => absurd ((List.cons.inj e).1 ▸ List.mem_cons_self) h
 | x :: p, y :: p', t, t', h, h', e => by
  refine Vc.xa_0_2 (List.cons.inj e) fun e1 e2 => ?_
  refine Vc.xa_0_2 (cut_at (fun m => h (List.mem_cons_of_mem _ m)) (fun m => h' (List.mem_cons_of_mem _ m)) e2) fun r1 r2 => ?_
  exact ⟨by rw [e1, r1], r2⟩
theorem jn_inj {c : Nat} : ∀ {ps qs : List (List Nat)}, (∀ p ∈ ps, c ∉ p) -> (∀ q ∈ qs, c ∉ q) -> ps ≠ [] -> qs ≠ [] -> jn c ps = jn c qs -> ps = qs
 | [], _, _, _, h, _, _ => absurd rfl h
 | _, [], _, _, _, h, _ => absurd rfl h
 | [p], [q], _, _, _, _, e => by rw [show p = q from e]
 | [p], q :: q' :: r, hp, _, _, _, e => absurd (show c ∈ p by rw [show p = q ++ c :: jn c (q' :: r) from e]; simp) (hp p List.mem_cons_self)
 | p :: p' :: r, [q], _, hq, _, _, e => absurd (show c ∈ q by rw [show q = p ++ c :: jn c (p' :: r) from e.symm]; simp) (hq q List.mem_cons_self)
 | p :: p' :: r, q :: q' :: r', hp, hq, _, _, e => by
  refine Vc.xa_0_2 (cut_at (hp p List.mem_cons_self) (hq q List.mem_cons_self) (show p ++ c :: jn c (p' :: r) = q ++ c :: jn c (q' :: r') from e)) fun e1 e2 => ?_
  rw [e1, jn_inj (fun x hx => hp x (List.mem_cons_of_mem _ hx)) (fun x hx => hq x (List.mem_cons_of_mem _ hx)) (by simp) (by simp) e2]
theorem app_list (x y : Str) : (x ++ y).cps.toList = x.cps.toList ++ y.cps.toList := Array.toList_append
theorem join_jn (c : Nat) : ∀ ps : List Str, (Str.join ⟨#[c]⟩ ps).cps.toList = jn c (ps.map fun p => p.cps.toList)
 | [] => rfl
 | [p] => rfl
 | p :: q :: r => by
  have e : Str.join ⟨#[c]⟩ (p :: q :: r) = p ++ ⟨#[c]⟩ ++ Str.join ⟨#[c]⟩ (q :: r) := rfl
  rw [e, app_list, app_list, join_jn c (q :: r), List.append_assoc]
  rfl
theorem str_list {x y : Str} (h : x.cps.toList = y.cps.toList) : x = y := by
 obtain ⟨x⟩ := x
 obtain ⟨y⟩ := y
 exact congrArg Str.mk (Array.toList_inj.mp h)
theorem map_lists : ∀ {ps qs : List Str}, ps.map (fun p => p.cps.toList) = qs.map (fun p => p.cps.toList) -> ps = qs
 | [], [], _ => rfl
 | [], _ :: _, h => nomatch h
 | _ :: _, [], h => nomatch h
 | p :: ps, q :: qs, h => by
  refine Vc.xa_0_2 (List.cons.inj h) fun e1 e2 => ?_
  rw [str_list e1, map_lists e2]
theorem split_of {x : Str} {c : Nat} {ps : List Str} (hf : ∀ p ∈ ps, c ∉ p.cps.toList) (hn : ps ≠ []) (h : Str.join ⟨#[c]⟩ ps = x) : Txt.split x ⟨#[c]⟩ = ps := by
 have e := StrLaws.join_split x ⟨#[c]⟩
 have f := StrLaws.split_free x c
 have hne : Txt.split x ⟨#[c]⟩ ≠ [] := by
  unfold Txt.split
  split
  ·simp
  ·split
   ·simp
   ·intro q; have := congrArg List.length q; rw [StrLaws.partsBetween_eq] at this; obtain ⟨p, r, e⟩ := StrLaws.partsFrom_ne x (Str.length ⟨#[c]⟩) 0 (Builtin.Str.occurrences x ⟨#[c]⟩ 0 x.length (x.length + 1)); rw [e] at this; simp at this
 refine map_lists (jn_inj (c := c) ?_ ?_ (by simpa using hne) (by simpa using hn) ?_)
 ·intro p hp; obtain ⟨q, hq, rfl⟩ := List.mem_map.mp hp; exact f q hq
 ·intro p hp; obtain ⟨q, hq, rfl⟩ := List.mem_map.mp hp; exact hf q hq
 ·rw [<- join_jn, <- join_jn, e, h]
end Vc
end
section
set_option maxRecDepth 100000
namespace Vc
open PySem PyProof.Rows
noncomputable def isFig (c : Nat) : Bool := decide (48 <= c) && decide (c <= 57)
noncomputable def figs (x : Str) : Bool := decide (1 <= x.length) && decide (x.length <= 2) && x.cps.toList.all isFig
noncomputable def numOf (x : Str) : Int := (intText? x).getD 0
noncomputable def nstr (i : Int) : Str := Str.ofString (toString i)
theorem fig1 : ∀ c, c < 10 -> intText? ⟨#[c + 48]⟩ = some (c : Int) := by decide +kernel
theorem fig2 : ∀ c, c < 10 -> ∀ e, e < 10 -> intText? ⟨#[c + 48, e + 48]⟩ = some ((10 * c + e : Nat) : Int) := by decide +kernel
theorem num_figs : ∀ n, n < 100 -> figs (nstr (n : Nat)) = true /\ numOf (nstr (n : Nat)) = (n : Nat) := by decide +kernel
theorem isFig_e {c : Nat} (h : isFig c = true) : ∃ k, k < 10 /\ c = k + 48 := by
 unfold isFig at h
 simp only [Bool.and_eq_true, decide_eq_true_eq] at h
 exact ⟨c - 48, by omega, by omega⟩
theorem figs_num {x : Str} (h : figs x = true) : intText? x = some (numOf x) /\ 0 <= numOf x /\ numOf x < 100 := by
 unfold figs at h
 simp only [Bool.and_eq_true, decide_eq_true_eq, List.all_eq_true] at h
 refine Vc.xa_0_2 h fun ho23_0 h3 => ?_
 try clear h
 obtain ⟨h1, h2⟩ := ho23_0
 have hx : x = ⟨x.cps.toList.toArray⟩ := by rw [Array.toArray_toList]
 have hl : x.cps.toList.length = x.length := Array.length_toList ..
 have key : ∀ k : Nat, k < 100 -> intText? x = some (k : Int) -> intText? x = some (numOf x) /\ 0 <= numOf x /\ numOf x < 100 := fun k hk e => by
  unfold numOf; rw [e]; exact ⟨rfl, by show (0 : Int) <= k; (clear h1 h2 hl hk; omega), by show (k : Int) < 100; (clear h1 h2 hl; omega)⟩
 match hm : x.cps.toList, h3 with
 | [], _ => rw [hm] at hl; simp at hl; (clear h2; omega)
 | [c], h3 =>
  refine Vc.xa_1_2 (isFig_e (h3 c (by simp))) fun k hk hr31_2 => ?_
  subst hr31_2
  rw [hm] at hx
  refine key k (by (clear h1 h2 hl; omega)) ?_
  rw [hx]; exact fig1 k hk
 | [c, e], h3 =>
  refine Vc.xa_1_2 (isFig_e (h3 c (by simp))) fun k hk hr36_2 => ?_
  subst hr36_2
  refine Vc.xa_1_2 (isFig_e (h3 e (by simp))) fun j hj hr37_2 => ?_
  subst hr37_2
  rw [hm] at hx
  refine key (10 * k + j) (by (clear h1 h2 hl; omega)) ?_
  rw [hx]; exact fig2 k hk j hj
 | _ :: _ :: _ :: l, _ => rw [hm] at hl; simp at hl; (clear h1; omega)
structure Tw where
 r : Int
 i : Int
 ps : List (Str × List Int)
noncomputable abbrev sp : Nat := 32
noncomputable abbrev nl : Nat := 10
noncomputable def jn1 (c : Nat) (ps : List Str) : Str := Str.join ⟨#[c]⟩ ps
noncomputable def wordsOf (p : Str × List Int) : List Str := p.1 :: p.2.map nstr
noncomputable def headOf (w : Tw) : List Str := [Str.ofString "ring", nstr w.r, Str.ofString "inputs", nstr w.i]
noncomputable def rowsOf (w : Tw) : List (List Str) := headOf w :: w.ps.map wordsOf
noncomputable def writ (w : Tw) : Str := jn1 nl ((rowsOf w).map (jn1 sp))
noncomputable def rws (t : Str) : List (List Str) := (Txt.split t ⟨#[nl]⟩).map fun x => Txt.split x ⟨#[sp]⟩
theorem writ_rws (t : Str) : jn1 nl ((rws t).map (jn1 sp)) = t := by
 unfold rws
 rw [List.map_map]
 have : (jn1 sp ∘ fun x => Txt.split x ⟨#[sp]⟩) = id := funext fun x => StrLaws.join_split x ⟨#[sp]⟩
 rw [this, List.map_id]
 exact StrLaws.join_split t ⟨#[nl]⟩
noncomputable def takes (s : Str) : Int := if (s == Str.ofString "not") = true then 1 else if (s == Str.ofString "pick") = true then 3 else if (s == Str.ofString "sum" || s == Str.ofString "stop") = true then 2 else 0
noncomputable def partOk (p : Str × List Int) (ahead : Int) : Bool := decide (1 <= p.2.length) && decide ((p.2.length : Int) = takes p.1) && p.2.all fun l => decide (0 <= l) && decide (l <= ahead - 1)
noncomputable def partsOk (i : Int) (ps : List (Str × List Int)) : Bool := ps.zipIdx.all fun q => partOk q.1 (i + (q.2 : Int))
noncomputable def workOk (w : Tw) : Bool := decide (2 <= w.r) && decide (w.r <= 5) && decide (1 <= w.i) && decide (w.i <= 6) && decide (1 <= w.ps.length) && decide (w.ps.length <= 10) && partsOk w.i w.ps
noncomputable def partOf (r : List Str) : Str × List Int := (r.headD (Str.ofString ""), r.tail.map numOf)
noncomputable def twOf (R : List (List Str)) : Tw := ⟨numOf ((R.headD []).getD 1 (Str.ofString "")), numOf ((R.headD []).getD 3 (Str.ofString "")), R.tail.map partOf⟩
noncomputable def numsOk (R : List (List Str)) : Bool := decide ((R.headD []).length = 4) && R.tail.all (fun r => r.tail.all figs) && figs ((R.headD []).getD 1 (Str.ofString "")) && figs ((R.headD []).getD 3 (Str.ofString ""))
noncomputable def readT (t : Str) : Bool := numsOk (rws t) && workOk (twOf (rws t)) && (writ (twOf (rws t)) == t)
noncomputable def isNum (x : Str) : Bool := (List.range 100).any fun n => nstr (n : Nat) == x
noncomputable def lookP (i : Int) (R : List (List Str)) : Bool := R.zipIdx.all fun q => decide (1 <= q.1.length) && q.1.tail.all isNum && decide ((q.1.tail.length : Int) = takes (q.1.headD (Str.ofString ""))) && decide (1 <= q.1.tail.length) && (q.1.tail.map numOf).all fun l => decide (l <= i + (q.2 : Int) - 1)
noncomputable def lookT (R : List (List Str)) : Bool := decide ((R.headD []).length = 4) && ((R.headD []).getD 0 (Str.ofString "") == Str.ofString "ring") && ((R.headD []).getD 2 (Str.ofString "") == Str.ofString "inputs") && decide (2 <= R.length) && decide (R.length <= 11)
 && isNum ((R.headD []).getD 1 (Str.ofString "")) && isNum ((R.headD []).getD 3 (Str.ofString "")) && decide (2 <= (twOf R).r) && decide ((twOf R).r <= 5) && decide (1 <= (twOf R).i) && decide ((twOf R).i <= 6) && lookP (twOf R).i R.tail
theorem zall {α : Type} {f : α × Nat -> Bool} {l : List α} : l.zipIdx.all f = true ↔ ∀ (k : Nat) (x : α), l[k]? = some x -> f (x, k) = true := by
 rw [List.all_eq_true]
 constructor
 ·intro h k x e
  exact h (x, k) (List.mem_iff_getElem?.mpr ⟨k, by rw [List.getElem?_zipIdx, e]; simp⟩)
 ·rintro h ⟨x, k⟩ hm
  refine Vc.xa_1_1 (List.mem_iff_getElem?.mp hm) fun j e => ?_
  rw [List.getElem?_zipIdx, Option.map_eq_some_iff] at e
  refine Vc.xa_1_2 e fun y e1 e2 => ?_
  try clear e
  simp only [Prod.mk.injEq] at e2
  refine Vc.xa_0_2 e2 fun hr91_0 hr91_1 => ?_
  try clear e2
  subst hr91_0
  subst hr91_1
  rw [Nat.zero_add]; exact h j y e1
theorem isNum_e {x : Str} (h : isNum x = true) : figs x = true /\ nstr (numOf x) = x /\ 0 <= numOf x /\ numOf x < 100 := by
 unfold isNum at h
 rw [List.any_eq_true] at h
 refine Vc.xa_1_2 h fun n hn e => ?_
 try clear h
 have hn := List.mem_range.mp hn
 have e := eq_of_beq e
 subst e
 refine Vc.xa_0_2 (num_figs n hn) fun h1 h2 => ?_
 refine ⟨h1, by rw [h2], by rw [h2]; (clear hn h2; omega), by rw [h2]; (clear h2; omega)⟩
theorem num_is {i : Int} (h0 : 0 <= i) (h1 : i < 100) : isNum (nstr i) = true /\ numOf (nstr i) = i /\ figs (nstr i) = true := by
 refine Vc.xa_1_1 (Int.eq_ofNat_of_zero_le h0) fun n hr103_1 => ?_
 subst hr103_1
 have hn : n < 100 := by (clear h0; omega)
 refine Vc.xa_0_2 (num_figs n hn) fun a b => ?_
 refine ⟨?_, b, a⟩
 unfold isNum
 rw [List.any_eq_true]
 exact ⟨n, List.mem_range.mpr hn, beq_self_eq_true _⟩
theorem row_back {r : List Str} (h1 : 1 <= r.length) (h : r.tail.all isNum = true) : wordsOf (partOf r) = r := by
 match r, h1, h with
 | x :: ws, _, h =>
  rw [List.all_eq_true] at h
  show x :: (ws.map numOf).map nstr = x :: ws
  rw [List.map_map]
  congr 1
  conv => rhs; rw [<- List.map_id ws]
  exact List.map_congr_left fun y hy => (isNum_e (h y hy)).2.1
theorem four {l : List Str} (h : l.length = 4) : ∃ a b c d, l = [a, b, c, d] := by
 match l, h with
 | [a, b, c, d], _ => exact ⟨a, b, c, d, rfl⟩
theorem look_read {t : Str} (h : lookT (rws t) = true) : readT t = true := by
 have hw := writ_rws t
 unfold readT
 generalize rws t = R at h hw
 unfold lookT at h
 simp only [Bool.and_eq_true, decide_eq_true_eq] at h
 refine Vc.xa_0_2 h fun ho128_0 hp => ?_
 try clear h
 obtain ⟨⟨⟨⟨⟨⟨⟨⟨⟨⟨h4, hr0⟩, hr2⟩, hl2⟩, hl11⟩, hn1⟩, hn3⟩, w1⟩, w2⟩, w3⟩, w4⟩ := ho128_0
 cases R with
 | nil => cases h4
 | cons hd R =>
  refine Vc.xa_4_1 (four h4) fun a b c e hr132_4 => ?_
  subst hr132_4
  replace hr0 : a = Str.ofString "ring" := eq_of_beq hr0
  replace hr2 : c = Str.ofString "inputs" := eq_of_beq hr2
  replace hn1 : isNum b = true := hn1
  replace hn3 : isNum e = true := hn3
  subst hr0
  subst hr2
  have hp := zall.mp hp
  have hrow : ∀ (k : Nat) (r : List Str), R[k]? = some r -> 1 <= r.length /\ r.tail.all isNum = true /\ (r.tail.length : Int) = takes (r.headD (Str.ofString "")) /\ 1 <= r.tail.length /\ ∀ l ∈ r.tail.map numOf, l <= numOf e + (k : Int) - 1 := fun k r hk => by
   have := hp k r hk
   simp only [Bool.and_eq_true, decide_eq_true_eq, List.all_eq_true] at this
   refine Vc.xa_0_2 this fun ho143_0 q5 => ?_
   try clear this
   obtain ⟨⟨⟨q1, q2⟩, q3⟩, q4⟩ := ho143_0
   exact ⟨q1, List.all_eq_true.mpr q2, q3, q4, q5⟩
  simp only [Bool.and_eq_true]
  refine ⟨⟨?_, ?_⟩, ?_⟩
  ·unfold numsOk
   simp only [Bool.and_eq_true, decide_eq_true_eq]
   refine ⟨⟨⟨rfl, List.all_eq_true.mpr fun r hr => ?_⟩, (isNum_e hn1).1⟩, (isNum_e hn3).1⟩
   refine Vc.xa_1_1 (List.mem_iff_getElem?.mp hr) fun k hk => ?_
   exact List.all_eq_true.mpr fun y hy => (isNum_e (List.all_eq_true.mp (hrow k r hk).2.1 y hy)).1
  ·unfold workOk
   simp only [Bool.and_eq_true, decide_eq_true_eq]
   have hl : (twOf ([Str.ofString "ring", b, Str.ofString "inputs", e] :: R)).ps.length = R.length := List.length_map ..
   simp only [List.length_cons] at hl2 hl11
   refine ⟨⟨⟨⟨⟨⟨w1, w2⟩, w3⟩, w4⟩, by (clear w4 w3 w2 w1 hl11 h4; omega)⟩, by (clear w4 w3 w2 w1 hl2 h4; omega)⟩, ?_⟩
   unfold partsOk
   refine zall.mpr fun k p hk => ?_
   have hk : (R.map partOf)[k]? = some p := hk
   rw [List.getElem?_map, Option.map_eq_some_iff] at hk
   refine Vc.xa_1_2 hk fun r hr hr161_2 => ?_
   try clear hk
   subst hr161_2
   refine Vc.xa_0_5 (hrow k r hr) fun q1 q2 q3 q4 q5 => ?_
   unfold partOk
   simp only [Bool.and_eq_true, decide_eq_true_eq, List.all_eq_true]
   refine ⟨⟨by show 1 <= (r.tail.map numOf).length; rw [List.length_map]; exact q4, by show ((r.tail.map numOf).length : Int) = _; rw [List.length_map]; exact q3⟩, fun l hl => ⟨?_, ?_⟩⟩
   ·refine Vc.xa_1_2 (List.mem_map.mp hl) fun y hy hr166_2 => ?_
    subst hr166_2
    exact (isNum_e (List.all_eq_true.mp q2 y hy)).2.2.1
   ·have := q5 l hl
    exact this
  ·have e1 : rowsOf (twOf ([Str.ofString "ring", b, Str.ofString "inputs", e] :: R)) = [Str.ofString "ring", b, Str.ofString "inputs", e] :: R := by
    show [Str.ofString "ring", nstr (numOf b), Str.ofString "inputs", nstr (numOf e)] :: (R.map partOf).map wordsOf = _
    rw [(isNum_e hn1).2.1, (isNum_e hn3).2.1, List.map_map]
    congr 1
    conv => rhs; rw [<- List.map_id R]
    refine List.map_congr_left fun r hr => ?_
    refine Vc.xa_1_1 (List.mem_iff_getElem?.mp hr) fun k hk => ?_
    exact row_back (hrow k r hk).1 (hrow k r hk).2.1
   have : writ (twOf ([Str.ofString "ring", b, Str.ofString "inputs", e] :: R)) = t := by unfold writ; rw [e1]; exact hw
   rw [this]; exact beq_self_eq_true _
noncomputable def Fre (x : Str) : Prop := (sp : Nat) ∉ x.cps.toList /\ (nl : Nat) ∉ x.cps.toList
theorem figs_fre {x : Str} (h : figs x = true) : Fre x := by
 unfold figs at h
 simp only [Bool.and_eq_true, decide_eq_true_eq, List.all_eq_true] at h
 exact ⟨fun q => by have := h.2 _ q; revert this; decide, fun q => by have := h.2 _ q; revert this; decide⟩
theorem takes_fre {s : Str} (h : takes s ≠ 0) : Fre s := by
 unfold takes at h
 by_cases h1 : (s == Str.ofString "not") = true
 ·rw [eq_of_beq h1]; exact ⟨by decide, by decide⟩
 ·rw [if_neg h1] at h
  by_cases h2 : (s == Str.ofString "pick") = true
  ·rw [eq_of_beq h2]; exact ⟨by decide, by decide⟩
  ·rw [if_neg h2] at h
   by_cases h3 : (s == Str.ofString "sum" || s == Str.ofString "stop") = true
   ·rcases Bool.or_eq_true_iff.mp h3 with h3 | h3
    ·rw [eq_of_beq h3]; exact ⟨by decide, by decide⟩
    ·rw [eq_of_beq h3]; exact ⟨by decide, by decide⟩
   ·rw [if_neg h3] at h; exact (h rfl).elim
theorem jn_mem {c x : Nat} : ∀ {ps : List (List Nat)}, x ∈ jn c ps -> x = c ∨ ∃ p ∈ ps, x ∈ p
 | [], h => by cases h
 | [p], h => .inr ⟨p, by simp, h⟩
 | p :: q :: ps, h => by
  have h : x ∈ p ++ c :: jn c (q :: ps) := h
  rcases List.mem_append.mp h with h | h
  ·exact .inr ⟨p, by simp, h⟩
  ·rcases List.mem_cons.mp h with h | h
   ·exact .inl h
   ·rcases jn_mem h with h | ⟨p', h1, h2⟩
    ·exact .inl h
    ·exact .inr ⟨p', by simp [List.mem_cons.mp h1], h2⟩
theorem row_free {ws : List Str} (h : ∀ w ∈ ws, Fre w) : (nl : Nat) ∉ (jn1 sp ws).cps.toList := fun q => by
 unfold jn1 at q
 rw [join_jn] at q
 rcases jn_mem q with q | ⟨p, h1, h2⟩
 ·exact absurd q (by decide)
 ·refine Vc.xa_1_2 (List.mem_map.mp h1) fun w hw hr217_2 => ?_
  subst hr217_2
  exact (h w hw).2 h2
theorem rws_of {t : Str} {R : List (List Str)} (hn : R ≠ []) (hr : ∀ r ∈ R, r ≠ [] /\ ∀ w ∈ r, Fre w) (h : jn1 nl (R.map (jn1 sp)) = t) : rws t = R := by
 unfold rws
 rw [split_of (ps := R.map (jn1 sp)) (fun p hp => by obtain ⟨r, h1, rfl⟩ := List.mem_map.mp hp; exact row_free (hr r h1).2) (by simpa using hn) h, List.map_map]
 conv => rhs; rw [<- List.map_id R]
 exact List.map_congr_left fun r h1 => split_of (ps := r) (fun w hw => ((hr r h1).2 w hw).1) (hr r h1).1 rfl
theorem nstr_fre {i : Int} (h0 : 0 <= i) (h1 : i < 100) : Fre (nstr i) := figs_fre (num_is h0 h1).2.2
theorem rows_of {w : Tw} (h : workOk w = true) {t : Str} (e : writ w = t) : rws t = rowsOf w := by
 unfold workOk at h
 simp only [Bool.and_eq_true, decide_eq_true_eq] at h
 refine Vc.xa_0_2 h fun ho228_0 hp => ?_
 try clear h
 obtain ⟨⟨⟨⟨⟨w1, w2⟩, w3⟩, w4⟩, w5⟩, w6⟩ := ho228_0
 have hp := zall.mp hp
 refine rws_of (by intro q; cases q) (fun r hr => ?_) e
 rcases List.mem_cons.mp hr with rfl | hr
 ·refine ⟨(by intro q; cases q), fun x hx => ?_⟩
  unfold headOf at hx
  simp only [List.mem_cons, List.not_mem_nil, or_false] at hx
  rcases hx with rfl | rfl | rfl | rfl
  ·exact ⟨by decide, by decide⟩
  ·exact nstr_fre (by (clear w6 w5 w4 w3 w2; omega)) (by (clear w6 w5 w4 w3 w1; omega))
  ·exact ⟨by decide, by decide⟩
  ·exact nstr_fre (by (clear w6 w5 w4 w1 w2; omega)) (by (clear w6 w5 w3 w1 w2; omega))
 ·refine Vc.xa_1_2 (List.mem_map.mp hr) fun p hp1 hr240_2 => ?_
  subst hr240_2
  refine Vc.xa_1_1 (List.mem_iff_getElem?.mp hp1) fun k hk => ?_
  have hkl := (List.getElem?_eq_some_iff.mp hk).1
  have := hp k p hk
  unfold partOk at this
  simp only [Bool.and_eq_true, decide_eq_true_eq, List.all_eq_true] at this
  refine Vc.xa_0_2 this fun ho246_0 q3 => ?_
  try clear this
  obtain ⟨q1, q2⟩ := ho246_0
  refine ⟨(by intro q; cases q), fun x hx => ?_⟩
  rcases List.mem_cons.mp hx with rfl | hx
  ·exact takes_fre (by (clear w6 w5 w4 w3 w1 w2 hkl; omega))
  ·refine Vc.xa_1_2 (List.mem_map.mp hx) fun l hl hr250_2 => ?_
   subst hr250_2
   have := q3 l hl
   exact nstr_fre this.1 (by (clear w5 w3 w1 w2 q1 q2; omega))
theorem tw_rows {w : Tw} (h : workOk w = true) : twOf (rowsOf w) = w := by
 unfold workOk at h
 simp only [Bool.and_eq_true, decide_eq_true_eq] at h
 refine Vc.xa_0_2 h fun ho256_0 hp => ?_
 try clear h
 obtain ⟨⟨⟨⟨⟨w1, w2⟩, w3⟩, w4⟩, w5⟩, w6⟩ := ho256_0
 have hp := zall.mp hp
 show (⟨numOf (nstr w.r), numOf (nstr w.i), (w.ps.map wordsOf).map partOf⟩ : Tw) = w
 rw [(num_is (by (clear w6 w5 w4 w3 w2; omega)) (by (clear w6 w5 w4 w3 w1; omega))).2.1, (num_is (by (clear w6 w5 w4 w1 w2; omega)) (by (clear w6 w5 w3 w1 w2; omega))).2.1, List.map_map]
 have : w.ps.map (partOf ∘ wordsOf) = w.ps := by
  conv => rhs; rw [<- List.map_id w.ps]
  refine List.map_congr_left fun p hp1 => ?_
  refine Vc.xa_1_1 (List.mem_iff_getElem?.mp hp1) fun k hk => ?_
  have hkl := (List.getElem?_eq_some_iff.mp hk).1
  have := hp k p hk
  unfold partOk at this
  simp only [Bool.and_eq_true, decide_eq_true_eq, List.all_eq_true] at this
  show (p.1, (p.2.map nstr).map numOf) = p
  rw [List.map_map]
  have e : p.2.map (numOf ∘ nstr) = p.2 := by
   conv => rhs; rw [<- List.map_id p.2]
   exact List.map_congr_left fun l hl => (num_is (this.2 l hl).1 (by have := this.2 l hl; (clear w5 w3 w1 w2; omega))).2.1
  rw [e]
 rw [this]
theorem look_rows {w : Tw} (h : workOk w = true) : lookT (rowsOf w) = true := by
 unfold lookT
 rw [tw_rows h]
 unfold workOk at h
 simp only [Bool.and_eq_true, decide_eq_true_eq] at h
 obtain ⟨⟨⟨⟨⟨⟨w1, w2⟩, w3⟩, w4⟩, w5⟩, w6⟩, hp⟩ := h
 have hp := zall.mp hp
 have hl : (rowsOf w).length = w.ps.length + 1 := by show (headOf w :: w.ps.map wordsOf).length = _; rw [List.length_cons, List.length_map]
 simp only [Bool.and_eq_true, decide_eq_true_eq]
 refine ⟨⟨⟨⟨⟨⟨⟨⟨⟨⟨⟨rfl, beq_self_eq_true _⟩, beq_self_eq_true _⟩, by (clear w6 w4 w3 w1 w2; omega)⟩, by (clear w5 w4 w3 w1 w2; omega)⟩, (num_is (by (clear w6 w5 w4 w3 w2 hl; omega)) (by (clear w6 w5 w4 w3 w1 hl; omega))).1⟩, (num_is (by (clear w6 w5 w4 w1 w2 hl; omega)) (by (clear w6 w5 w3 w1 w2 hl; omega))).1⟩, w1⟩, w2⟩, w3⟩, w4⟩, ?_⟩
 unfold lookP
 refine zall.mpr fun k r hk => ?_
 replace hk : (w.ps.map wordsOf)[k]? = some r := hk
 rw [List.getElem?_map, Option.map_eq_some_iff] at hk
 obtain ⟨p, hk, rfl⟩ := hk
 have hkl := (List.getElem?_eq_some_iff.mp hk).1
 have := hp k p hk
 unfold partOk at this
 simp only [Bool.and_eq_true, decide_eq_true_eq, List.all_eq_true] at this
 obtain ⟨⟨q1, q2⟩, q3⟩ := this
 have ht : (wordsOf p).tail = p.2.map nstr := rfl
 have hh : (wordsOf p).headD (Str.ofString "") = p.1 := rfl
 simp only [Bool.and_eq_true, decide_eq_true_eq, List.all_eq_true, ht, hh, List.length_map]
 refine ⟨⟨⟨⟨by show 1 <= (p.1 :: p.2.map nstr).length; simp, fun x hx => ?_⟩, q2⟩, q1⟩, fun l hl' => ?_⟩
 ·obtain ⟨l, hl', rfl⟩ := List.mem_map.mp hx
  have := q3 l hl'
  exact (num_is this.1 (by (clear w5 w3 w1 w2 hl q1 q2; omega))).1
 ·obtain ⟨x, hx, rfl⟩ := List.mem_map.mp hl'
  obtain ⟨l, hl2, rfl⟩ := List.mem_map.mp hx
  have := q3 l hl2
  rw [(num_is this.1 (by (clear w5 w3 w1 w2 hl q1 q2; omega))).2.1]; exact this.2
theorem read_look {t : Str} (h : readT t = true) : lookT (rws t) = true := by
 unfold readT at h
 simp only [Bool.and_eq_true] at h
 refine Vc.xa_0_2 h fun ho309_0 h3 => ?_
 try clear h
 obtain ⟨_, h2⟩ := ho309_0
 rw [rows_of h2 (eq_of_beq h3)]
 exact look_rows h2
theorem read_is (t : Str) : readT t = lookT (rws t) := by
 cases h : lookT (rws t) with
 | true => exact look_read h
 | false =>
  cases h2 : readT t with
  | false => rfl
  | true => rw [read_look h2] at h; cases h
theorem read_back {w : Tw} (h : workOk w = true) : readT (writ w) = true /\ twOf (rws (writ w)) = w := by
 have hR := rows_of h rfl
 rw [read_is, hR]
 exact ⟨look_rows h, tw_rows h⟩
end Vc
end
section
namespace Vc
open PySem PyProof.Rows
noncomputable def law_cell_vs : Vs := [locv "_law_script", locv "_law_k"]
noncomputable def law_cell_b : List St :=
  [.ret (.sub (.bin .Add (.sli (.nm 0) (.nm 1) (.bin .Add (.nm 1) (.ci 1)) .cn) (.lst [(.ci 0)])) (.ci 0))]
noncomputable def law_mixed_vs : Vs := [locv "_law_script", locv "_law_k"]
noncomputable def law_mixed_b : List St :=
  [.ret (.bin .Mod (.bin .Mult (.bin .Add (.call "_law_cell" [(.nm 0), (.nm 1)]) (.bin .Mult (.ci 101) (.nm 1))) (.ci 48271)) (.ci 2147483647))]
noncomputable def law_whole_vs : Vs := [locv "_law_thing"]
noncomputable def law_whole_b : List St :=
  [.ret (.bop .And [(.call "isinstance" [(.nm 0), (.gl "int")]), (.una .Not (.call "isinstance" [(.nm 0), (.gl "bool")]))])]
noncomputable def cell (ns : List Int) (k : Int) : Int := ns.getD k.toNat 0
noncomputable def mixed (ns : List Int) (k : Int) : Int := (cell ns k + 101 * k) * 48271 % 2147483647
theorem mixed_ge (ns : List Int) (k : Int) : 0 <= mixed ns k := Int.emod_nonneg _ (by decide)
section
variable {C : Cx} {H : MH} {Q : V -> MH -> Prop} {X : XP} {n : Nat} {q : Bool} {a : Addr} {ns : List Int} {k : Int}
theorem vsl_cell (hk : 0 <= k) : (vsl (ns.map .int) (some k) (some (k + 1)) ++ [V.int 0])[0]? = some (.int (cell ns k)) := by
 refine Vc.xa_1_1 (Int.eq_ofNat_of_zero_le hk) fun k hr26_1 => ?_
 subst hr26_1
 unfold vsl cell
 simp only [Option.elim, List.length_map]
 rw [clipAt_nat, show (k : Int) + 1 = ((k + 1 : Nat) : Int) by (clear hk; omega), clipAt_nat]
 by_cases h : k < ns.length
 ·rw [Nat.min_eq_left (by (clear hk; omega)), Nat.min_eq_left (by (clear hk; omega)), show k + 1 - k = 1 by (clear hk h; omega)]
  rw [List.drop_eq_getElem_cons (by simpa using h)]
  simp [List.getD_eq_getElem?_getD, h]
 ·rw [Nat.min_eq_right (by (clear hk; omega)), Nat.min_eq_right (by (clear hk; omega))]
  simp [List.getD_eq_getElem?_getD, h]
theorem cell_ct (G : C.Good) (D : Def C "_law_cell" law_cell_vs 2 law_cell_b) (ha : H a = some (.fro (ns.map .int))) (hl : ns.length <= 63) (hk : 0 <= k) (K : ∀ H', Ext H H' -> Q (.int (cell ns k)) H') : CallW C ⟨n + 1, q⟩ "_law_cell" [.ref a, .int k] H Q X := by
 have hz : 1000 < sizeLine := by decide
 have hv : ∀ lo hi, (vsl (ns.map .int) lo hi).length <= 63 := fun lo hi => by unfold vsl; simp; (clear hk hz; omega)
 refine D.call G rfl ?_
 unfold law_cell_b
 refine SS_ret (E_sub (E_bin (E_sli (E_nm rfl (E_nm rfl (E_bin (E_nm rfl (E_ci (bin_add (E_cn (sli_list (items_fro ha) (by simp; (clear hk; omega)) (.int _) (.int _) fun b hb => ?_)))))))))))
 refine E_lst (Es_cons (E_ci (Es_nil ⟨by simp; (clear hl hk; omega), fun c hc => ?_⟩)))
 refine bin_cat ((Ext.new hc).items items_new) items_new (by have := hv (some k) (some (k + 1)); simp; (clear hl hk; omega)) fun e he => ?_
 refine E_ci (sub_list (j := 0) items_new (by have := hv (some k) (some (k + 1)); simp; (clear hl hk; omega)) ?_ (vsl_cell hk) ?_)
 ·simp [seqIndex?]
 ·exact K _ ((((Ext.refl _).more hb).more hc).more he)
theorem mixed_ct (G : C.Good) (D : Def C "_law_cell" law_cell_vs 2 law_cell_b) (D' : Def C "_law_mixed" law_mixed_vs 2 law_mixed_b) (ha : H a = some (.fro (ns.map .int))) (hl : ns.length <= 63) (hk : 0 <= k) (K : ∀ H', Ext H H' -> Q (.int (mixed ns k)) H') : CallW C ⟨n + 2, q⟩ "_law_mixed" [.ref a, .int k] H Q X := by
 refine D'.call G rfl ?_
 unfold law_mixed_b
 refine SS_ret (E_bin (E_bin (E_bin (E_fn D.fn (Es_cons (E_nm rfl (Es_cons (E_nm rfl (Es_nil (cell_ct G D ha hl hk fun H' x => ?_)))))))))) 
 refine E_bin (E_ci (E_nm rfl (bin_mul (bin_add (E_ci (bin_mul (E_ci (bin_modp (by decide) (K _ x))) (.of_right (by decide)))))  (.of_left (by decide)))))
theorem whole_ct_int (G : C.Good) (S : Std C) (D : Def C "_law_whole" law_whole_vs 1 law_whole_b) {i : Int} (K : Q (.bool true) H) : CallW C ⟨n + 1, q⟩ "_law_whole" [.int i] H Q X := by
 refine D.call G rfl ?_
 unfold law_whole_b
 refine SS_ret (E_bop (B_and (E_call (Std.n_isinstance (by assumption)) callee_builtin (c_ess rfl (Es_cons (E_gl (Std.n_int (by assumption)) (Es_nil ?_)))))))
 refine cv_isi (k := true) S.n_int (by rfl) ?_
 refine tru_bool (if_t (B_one (E_una (E_call (Std.n_isinstance (by assumption)) callee_builtin (c_ess rfl (Es_cons (E_gl (Std.n_bool (by assumption)) (Es_nil ?_))))))))
 refine cv_isi (k := false) S.n_bool (by rfl) ?_
 refine una_not (tru_bool ?_)
 exact K
end
set_option genSizeOf false in
inductive Wd where
 | sum | stop | pick | nt
 deriving DecidableEq
noncomputable def Wd.name : Wd -> String
 | .sum => "sum"
 | .stop => "stop"
 | .pick => "pick"
 | .nt => "not"
noncomputable def Wd.ar : Wd -> Nat
 | .sum => 2
 | .stop => 2
 | .pick => 3
 | .nt => 1
structure Pt where
 w : Wd
 ls : List Nat
noncomputable def Pt.v (p : Pt) : V := .tup (.str (Str.ofString p.w.name) :: p.ls.map fun (l : Nat) => V.int l)
noncomputable def Pt.ok (p : Pt) (n : Nat) : Prop := p.ls.length = p.w.ar /\ ∀ l ∈ p.ls, l < n
section
variable {C : Cx} {H : MH} {Q : V -> MH -> Prop} {X : XP} {n : Nat} {q : Bool} {b : Addr} {ds : List Int} {ring : Int} {p : Pt}
theorem vds_ints {H : MH} : ∀ ds : List Int, VDs H (ds.map .int) (ds.map .int)
 | [] => .nil
 | _ :: ds => .cons (.int _) (vds_ints ds)
theorem lay_ints : ∀ ds : List Int, PyData.canLayAll0 (ds.map .int) = true
 | [] => rfl
 | _ :: ds => by simp only [List.map_cons, PyData.canLayAll0, PyData.canLay0, Bool.true_and]; exact lay_ints ds
theorem dep_ints : ∀ ds : List Int, PyData.depthAll (ds.map .int) = 0
 | [] => rfl
 | _ :: ds => by simp only [List.map_cons, PyData.depthAll, PyData.depth, dep_ints ds]; rfl
end
end Vc
end
section
namespace Vc
open PySem PyProof.Rows
theorem lt8 : ∀ n : Nat, n < 8 -> n = 0 ∨ n = 1 ∨ n = 2 ∨ n = 3 ∨ n = 4 ∨ n = 5 ∨ n = 6 ∨ n = 7 := by decide
theorem Ext.mut {H H' : MH} {a : Addr} {o : O} (x : Ext H H') (h : H a = none) : Ext H (upd H' a o) := fun b o' e => by
 rw [upd_ne]
 ·exact x b o' e
 ·rintro rfl; rw [h] at e; cases e
theorem Ext.gone {H H' : MH} {a : Addr} (x : Ext H H') (h : H' a = none) : H a = none := by
 cases e : H a with
 | none => rfl
 | some o => rw [x a o e] at h; cases h
theorem Ext.ne {H : MH} {a b : Addr} {o : O} (h : H a = some o) (h' : H b = none) : a ≠ b := by rintro rfl; rw [h] at h'; cases h'
noncomputable def is_among_vs : Vs := [locv "thing", locv "least", locv "most"]
noncomputable def is_among_b : List St :=
  [.ret (.bop .And [(.call "isinstance" [(.nm 0), (.gl "int")]), (.una .Not (.call "isinstance" [(.nm 0), (.gl "bool")])), (.cmp2 .LtE .LtE (.nm 1) (.nm 0) (.nm 2))])]
noncomputable def law_part_b : List St :=
  [.asg 2 (.sub (.lst [(.cs "sum"), (.cs "stop"), (.cs "pick"), (.cs "not")]) (.bin .Mod (.nm 0) (.ci 4))),
  .asg 3 (.lst []),
  .for [4] (.pl (.call "range" [(.sub (.dct ["sum", "stop", "pick", "not"] [(.ci 2), (.ci 2), (.ci 3), (.ci 1)]) (.nm 2))])) [.asg 5 (.bin .FloorDiv (.bin .FloorDiv (.nm 0) (.ci 4)) (.sub (.lst [(.ci 1), (.ci 7), (.ci 49)]) (.nm 4))),
  .ife (.cmp .Eq (.bin .Mod (.nm 5) (.ci 2)) (.ci 0)) [.exp (.meth (.nm 3) "append" [(.bin .Sub (.bin .Sub (.nm 1) (.ci 1)) (.bin .Mod (.bin .FloorDiv (.nm 5) (.ci 2)) (.call "min" [(.nm 1), (.ci 3)])))])] [.exp (.meth (.nm 3) "append" [(.bin .Mod (.bin .FloorDiv (.nm 5) (.ci 2)) (.nm 1))])]],
  .ret (.call "tuple" [(.bin .Add (.lst [(.nm 2)]) (.nm 3))])]
noncomputable def law_work_vs : Vs := [celv "_law_script", locv "_law_most", locv "_law_first", locv "_law_ring", celv "_law_inputs", locv "_law_many", locv "_law_parts"]
noncomputable def law_work_b : List St :=
  [.asg 2 (.call "_law_mixed" [(.nm 0), (.ci 0)]),
  .asg 3 (.sub (.lst [(.ci 2), (.ci 2), (.ci 3), (.ci 2), (.ci 3), (.ci 4), (.ci 5), (.ci 2)]) (.bin .Mod (.nm 2) (.ci 8))),
  .asg 4 (.bin .Add (.ci 1) (.bin .Mod (.bin .FloorDiv (.nm 2) (.ci 8)) (.ci 3))),
  .ife (.cmp .Eq (.bin .Mod (.bin .FloorDiv (.nm 2) (.ci 24)) (.ci 8)) (.ci 1)) [.asg 4 (.bin .Add (.ci 1) (.bin .Mod (.bin .FloorDiv (.nm 2) (.ci 192)) (.ci 6)))] [],
  .asg 5 (.bin .Add (.ci 1) (.bin .Mod (.call "_law_mixed" [(.nm 0), (.ci 1)]) (.nm 1))),
  .ife (.bop .And [(.cmp .Gt (.nm 3) (.ci 3)), (.cmp .Lt (.nm 1) (.ci 8))]) [.asg 5 (.call "min" [(.nm 5), (.ci 4)])] [],
  .asg 6 (.comp 1 (.call "_law_part" [(.call "_law_mixed" [(.nm 0), (.bin .Add (.ci 2) (.nm 7))]), (.bin .Add (.nm 4) (.nm 7))]) (.call "range" [(.nm 5)]) []),
  .ret (.tup [(.nm 3), (.nm 4), (.nm 6)])]
section
variable {C : Cx} {H : MH} {Q : V -> MH -> Prop} {X : XP} {n : Nat} {c lines : Int}
theorem itq_rng {d : Md} {a b : Int} (hq : d.q = true) (ha : -1000000 <= a) (ha' : a <= 1000000) (hb : -1000000 <= b) (hb' : b <= 1000000) : Itq d (.rng a b 1) :=
 ⟨.inl hq, fun zz zz zz e => by cases e; exact small_one (by (clear ha' hb hb'; omega)) (by (clear ha hb hb'; omega)) (by (clear ha ha' hb'; omega)) (by (clear ha ha' hb; omega))⟩
theorem part_ct {vs : Vs} (G : C.Good) (S : Std C) (D : Def C "_law_part" vs 2 law_part_b) (hv : vs.length = 6) (hc : 0 <= c) (hl : 1 <= lines) (K : ∀ (p : Pt) H', p.ok lines.toNat -> Ext H H' -> Q p.v H') :
  CallW C ⟨n + 1, true⟩ "_law_part" [.int c, .int lines] H Q X := by
 have hz : 1000 < sizeLine := by decide
 refine D.call G rfl ?_
 rw [hv]
 unfold law_part_b
 refine SS_asg (E_sub (E_lst (Es_cons (E_cs (Es_cons (E_cs (Es_cons (E_cs (Es_cons (E_cs (Es_nil ?_)))))))))))
 refine ⟨by decide, fun t0 ht0 => ?_⟩
 refine c_bin_nc rfl ?_
 refine bin_modp (by decide) ?_
 have hw : ∃ w : Wd, ∀ (Q : V -> MH -> Prop), Q (.str (Str.ofString w.name)) (upd H t0 (.lst [V.str (Str.ofString "sum"), .str (Str.ofString "stop"), .str (Str.ofString "pick"), .str (Str.ofString "not")])) -> SubW C ⟨n, true⟩ (.ref t0) (.int (c % 4)) (upd H t0 (.lst [V.str (Str.ofString "sum"), .str (Str.ofString "stop"), .str (Str.ofString "pick"), .str (Str.ofString "not")])) Q (fun c H1 => X c H1) := by
  have h4 : c % 4 = ((0 : Nat) : Int) ∨ c % 4 = ((1 : Nat) : Int) ∨ c % 4 = ((2 : Nat) : Int) ∨ c % 4 = ((3 : Nat) : Int) := by (clear hv hc hl hz; omega)
  rcases h4 with h | h | h | h <;> rw [h]
  ·exact ⟨.sum, fun Q q => sub_listn items_new (by decide) rfl q⟩
  ·exact ⟨.stop, fun Q q => sub_listn items_new (by decide) rfl q⟩
  ·exact ⟨.pick, fun Q q => sub_listn items_new (by decide) rfl q⟩
  ·exact ⟨.nt, fun Q q => sub_listn items_new (by decide) rfl q⟩
 refine Vc.xa_1_1 hw fun w hw => ?_
 refine hw _ ?_
 clear hw
 have x1 := Ext.new (o := .lst [V.str (Str.ofString "sum"), .str (Str.ofString "stop"), .str (Str.ofString "pick"), .str (Str.ofString "not")]) ht0
 generalize upd H t0 (.lst [V.str (Str.ofString "sum"), .str (Str.ofString "stop"), .str (Str.ofString "pick"), .str (Str.ofString "not")]) = H1 at x1 ⊢
 clear ht0
 refine SS_asg (E_lst (Es_nil ?_))
 refine ⟨by decide, fun t ht => ?_⟩
 have ht' := x1.gone ht
 have x2 := x1.more (o := .lst []) ht
 have t2 := upd_self H1 t (.lst [])
 generalize upd H1 t (.lst []) = H2 at x2 t2 ⊢
 clear x1 ht
 refine SS_for ?_
 refine E_call (Std.n_range (by assumption)) callee_type (Es_cons (E_sub (E_dct (c_esc (c_esc (c_esc (c_esc1 ?_)))))))
 refine ⟨rfl, by decide, by decide +kernel, fun g hg => ?_⟩
 refine E_nm rfl ?_
 refine sub_dcs (upd_self ..) (x := .int w.ar) ?_ ?_
 ·cases w <;> rfl
 have x3 := x2.more (o := .dcs ((["sum", "stop", "pick", "not"].map Str.ofString).zip [V.int 2, .int 2, .int 3, .int 1])) hg
 have t3 := Ext.new (o := .dcs ((["sum", "stop", "pick", "not"].map Str.ofString).zip [V.int 2, .int 2, .int 3, .int 1])) hg t _ t2
 generalize upd H2 g _ = H3 at x3 t3 ⊢
 clear x2 t2 hg
 refine Es_nil ?_
 refine cv_range1 ?_
 have har : w.ar <= 3 := by cases w <;> decide
 refine ⟨_, itq_rng rfl (by (clear hv hc hl hz hw har; omega)) (by (clear hv hc hl hz hw har; omega)) (by (clear hv hc hl hz hw har; omega)) (by (clear hv hc hl hz hw; omega)), rfl, ?_⟩
 refine for_inv (P := fun i ρ H' => ∃ kk nn, ∃ ls : List Nat, ρ = [some (.int c), some (.int lines), some (.str (Str.ofString w.name)), some (.ref t), kk, nn] /\ H' t = some (.lst (ls.map fun (l : Nat) => V.int l)) /\ Ext H H' /\ ls.length = i /\ ∀ l ∈ ls, l < lines.toNat)
  (Vc.xi_3_5 none none ([]) rfl t3 x3 rfl (by simp)) (fun i x ρ H' R hP hx hR => ?_) fun ρ H' hP => ⟨rfl, ?_⟩
 ·refine Vc.xa_3_5 hP fun kk nn ls hr106_3 ht hx' hi hls => ?_
  try clear hP
  subst hr106_3
  refine Vc.xa_0_2 (rng_get hx) fun hr107_0 hi' => ?_
  subst hr107_0
  refine ⟨rfl, _, rfl, ?_⟩
  refine SS_asg (E_bin (c_bin_nc rfl ?_))
  refine bin_divp (by decide) (by decide) ?_
  refine E_sub (E_lst (c_esc (c_esc (c_esc1 ?_))))
  refine ⟨by decide, fun u hu => ?_⟩
  refine E_nm rfl ?_
  have hs : ∃ m : Int, 0 < m /\ m < 100 /\ ([V.int 1, .int 7, .int 49])[i]? = some (.int m) := by
   have : i = 0 ∨ i = 1 ∨ i = 2 := by (clear hv hc hl hz hw hi; omega)
   rcases this with rfl | rfl | rfl
   ·exact ⟨1, by decide, by decide, rfl⟩
   ·exact ⟨7, by decide, by decide, rfl⟩
   ·exact ⟨49, by decide, by decide, rfl⟩
  refine Vc.xa_1_3 hs fun m hm hm' hms => ?_
  try clear hs
  rw [Int.zero_add]
  refine sub_listn (i := i) items_new (by decide) hms (bin_divp hm (by (clear hv hc hl hz hw har hi hi' hm; omega)) ?_)
  generalize hnear : c / 4 / m = near
  have hn0 : 0 <= near := by rw [<- hnear]; exact Int.ediv_nonneg (Int.ediv_nonneg hc (by decide)) (by (clear hv hc hl hz hw har hi hi' hm' hnear; omega))
  have tu := Ext.ne ht hu
  have ht1 : upd H' u (.lst [V.int 1, .int 7, .int 49]) t = some (.lst (ls.map fun (l : Nat) => V.int l)) := (upd_ne tu).trans ht
  have x4 : Ext H (upd H' u (.lst [V.int 1, .int 7, .int 49])) := hx'.more hu
  generalize upd H' u (.lst [V.int 1, .int 7, .int 49]) = H4 at ht1 x4 ⊢
  have done : ∀ (e : Int), 0 <= e -> e < lines -> R [some (.int c), some (.int lines), some (.str (Str.ofString w.name)), some (.ref t), some (.int i), some (.int near)] (upd H4 t (.lst ((ls.map fun (l : Nat) => V.int l) ++ [.int e]))) := by
   intro e he he'
   refine hR _ _ (Vc.xi_3_5 _ _ (ls ++ [e.toNat]) rfl ?_ (x4.mut ht') (by simp [hi]) (fun l hl' => ?_))
   ·rw [upd_self, List.map_append]; simp only [List.map_cons, List.map_nil, Int.toNat_of_nonneg he]
   ·rcases List.mem_append.mp hl' with h | h
    ·exact hls l h
    ·simp only [List.mem_singleton] at h; (clear hv hc hl hz hw har hi hi' hm hm' hnear hn0 tu; omega)
  have hlen : (ls.map fun (l : Nat) => V.int l).length <= sizeLine := by simp; (clear hv hc hl hw hm hm' hnear hn0 tu; omega)
  refine SS_ife (c_tcmp (c_bin_nc rfl ?_))
  refine bin_modp (by decide) ?_
  refine E_ci (cmp_eq_int (tru_bool ?_))
  split
  ·refine SS_app1 (SS_exp (E_meth (E_nm rfl ?_)))
   refine ⟨_, mget_append ht1, callee_builtin, ?_⟩
   refine Es_cons (E_bin (c_bin_nc rfl (bin_sub (E_bin (c_bin_nc rfl ?_)))))
   refine bin_divp (by decide) (by decide) ?_
   refine E_call (Std.n_min (by assumption)) callee_builtin (c_ess rfl (c_esc1 ?_))
   refine cv_min rfl (bin_modp (by (clear hv hc hz hw har hi hi' hm hm' hnear hn0 tu hlen; omega)) ?_)
   have h1 : 0 <= near / 2 % min lines 3 := Int.emod_nonneg _ (by (clear hv hc hz hw har hi hi' hm hm' hnear hn0 tu hlen; omega))
   have h2 : near / 2 % min lines 3 < min lines 3 := Int.emod_lt_of_pos _ (by (clear hv hc hz hw har hi hi' hm hm' hnear hn0 tu hlen h1; omega))
   refine bin_sub (Es_nil ?_)
   refine cv_append ht1 hlen (SS_nil ?_)
   exact done _ (by (clear hv hc hl hz hw har hi hi' hm hm' hnear hn0 tu hlen h1; omega)) (by (clear hv hc hl hz hw har hi hi' hm hm' hnear hn0 tu hlen h2; omega))
  ·refine SS_app1 (SS_exp (E_meth (E_nm rfl ?_)))
   refine ⟨_, mget_append ht1, callee_builtin, ?_⟩
   refine Es_cons (E_bin (c_bin_nc rfl ?_))
   refine bin_divp (by decide) (by decide) ?_
   refine E_nm rfl ?_
   refine bin_modp (by (clear hv hc hz hw har hi hi' hm hm' hnear hn0 tu hlen; omega)) ?_
   have h1 : 0 <= near / 2 % lines := Int.emod_nonneg _ (by (clear hv hc hz hw har hi hi' hm hm' hnear hn0 tu hlen; omega))
   have h2 : near / 2 % lines < lines := Int.emod_lt_of_pos _ (by (clear hv hc hz hw har hi hi' hm hm' hnear hn0 tu hlen h1; omega))
   refine Es_nil ?_
   refine cv_append ht1 hlen (SS_nil ?_)
   exact done _ (by (clear hv hc hl hz hw har hi hi' hm hm' hnear hn0 tu hlen h2; omega)) (by (clear hv hc hl hz hw har hi hi' hm hm' hnear hn0 tu hlen h1; omega))
 rw [rng_len] at hP
 refine Vc.xa_3_5 hP fun kk nn ls hr164_3 ht hx hi hls => ?_
 try clear hP
 subst hr164_3
 refine SS_ret (E_call (Std.n_tuple (by assumption)) callee_type (Es_cons (E_bin (E_lst (c_es1 rfl ?_)))))
 refine ⟨by simp; (clear hv hc hl hw har hi; omega), fun u hu => ?_⟩
 refine E_nm rfl ?_
 refine bin_cat items_new ((Ext.new hu).items (items_lst ht)) (by simp; (clear hv hc hl hw; omega)) fun v hv => ?_
 refine Es_nil ?_
 refine cv_tuple items_new (by simp; (clear hc hl hw; omega)) ?_
 exact K ⟨w, ls⟩ _ ⟨show ls.length = w.ar by (clear hc hl hz hw har; omega), hls⟩ ((hx.more hu).more hv)
structure Wk where
 ring : Int
 inp : Nat
 ps : List Pt
structure Wk.Ok (w : Wk) (most : Nat) : Prop where
 r1 : 2 <= w.ring
 r2 : w.ring <= 5
 i1 : 1 <= w.inp
 i2 : w.inp <= 6
 p1 : 1 <= w.ps.length
 p2 : w.ps.length <= most
 pt : ∀ (k : Nat) (p : Pt), w.ps[k]? = some p -> p.ok (w.inp + k)
 few : 3 < w.ring -> most < 8 -> w.ps.length <= 4
noncomputable def Wk.v (w : Wk) (pa : Addr) : V := .tup [.int w.ring, .int w.inp, .ref pa]
noncomputable def inpOf (ns : List Int) : Nat := if mixed ns 0 / 24 % 8 = 1 then (1 + mixed ns 0 / 192 % 6).toNat else (1 + mixed ns 0 / 8 % 3).toNat
theorem work_cti {vs : Vs} {a : Addr} {ns : List Int} {most : Nat} (G : C.Good) (S : Std C) (Dc : Def C "_law_cell" law_cell_vs 2 law_cell_b) (Dm : Def C "_law_mixed" law_mixed_vs 2 law_mixed_b) (Dp : Def C "_law_part" vs 2 law_part_b) (hv : vs.length = 6)
  (D : Def C "_law_work" law_work_vs 2 law_work_b) (ha : H a = some (.fro (ns.map .int))) (hl : ns.length <= 63) (hm : 1 <= most) (hm' : most <= 100)
  (K : ∀ (w : Wk) pa H', w.Ok most -> w.inp = inpOf ns -> Ext H H' -> H pa = none -> H' pa = some (.lst (w.ps.map Pt.v)) -> Q (w.v pa) H') : CallW C ⟨n + 3, true⟩ "_law_work" [.ref a, .int most] H Q X := by
 have hz : 1000 < sizeLine := by decide
 refine D.call G rfl ?_
 unfold law_work_b
 refine SS_asg ?_
 refine E_fn Dm.fn ?_
 refine c_ess rfl (c_esc1 ?_)
 refine mixed_ct G Dc Dm ha hl (by decide) fun H1 x1 => ?_
 obtain ⟨f0, hf0⟩ : ∃ f0, f0 = mixed ns 0 := ⟨_, rfl⟩
 rw [<- hf0]
 refine SS_asg (E_sub (E_lst (c_esc (c_esc (c_esc (c_esc (c_esc (c_esc (c_esc (c_esc1 ?_))))))))))
 refine ⟨by decide, fun t ht => ?_⟩
 refine c_bin_nc rfl ?_
 refine bin_modp (by decide) ?_
 have hring : ∃ r : Int, 2 <= r /\ r <= 5 /\ ([V.int 2, .int 2, .int 3, .int 2, .int 3, .int 4, .int 5, .int 2])[(f0 % 8).toNat]? = some (.int r) := by
  have h8 : (f0 % 8).toNat = 0 ∨ (f0 % 8).toNat = 1 ∨ (f0 % 8).toNat = 2 ∨ (f0 % 8).toNat = 3 ∨ (f0 % 8).toNat = 4 ∨ (f0 % 8).toNat = 5 ∨ (f0 % 8).toNat = 6 ∨ (f0 % 8).toNat = 7 := lt8 _ (by (clear hv hl hm hm' hz hf0; omega))
  rcases h8 with h | h | h | h | h | h | h | h <;> rw [h]
  ·exact ⟨2, by decide, by decide, rfl⟩
  ·exact ⟨2, by decide, by decide, rfl⟩
  ·exact ⟨3, by decide, by decide, rfl⟩
  ·exact ⟨2, by decide, by decide, rfl⟩
  ·exact ⟨3, by decide, by decide, rfl⟩
  ·exact ⟨4, by decide, by decide, rfl⟩
  ·exact ⟨5, by decide, by decide, rfl⟩
  ·exact ⟨2, by decide, by decide, rfl⟩
 refine Vc.xa_1_3 hring fun r hr1 hr2 hr => ?_
 try clear hring
 rw [show f0 % 8 = (((f0 % 8).toNat : Nat) : Int) by (clear hv hl hm hm' hz hf0 hr1 hr2; omega)]
 refine sub_listn items_new (by decide) hr ?_
 have x2 := x1.more (o := .lst [V.int 2, .int 2, .int 3, .int 2, .int 3, .int 4, .int 5, .int 2]) ht
 generalize upd H1 t (.lst [V.int 2, .int 2, .int 3, .int 2, .int 3, .int 4, .int 5, .int 2]) = H2 at x2 ⊢
 clear x1 ht hr
 refine SS_asg (E_bin (E_ci (E_bin (c_bin_nc rfl ?_))))
 refine bin_divp (by decide) (by decide) ?_
 refine E_ci ?_
 refine bin_modp (by decide) ?_
 refine bin_add ?_
 refine SS_join (J := fun ρ' H' => ∃ inp : Nat, 1 <= inp /\ inp <= 6 /\ inp = inpOf ns /\ ρ' = [some (.ref a), some (.int most), some (.int f0), some (.int r), some (.int inp), none, none] /\ H' = H2) (fun ρ' H' hJ => ?_) fun R hR => ?_
 rotate_left
 ·refine c_tcmp (E_bin (c_bin_nc rfl ?_))
  refine bin_divp (by decide) (by decide) ?_
  refine E_ci ?_
  refine bin_modp (by decide) ?_
  refine E_ci (cmp_eq_int (tru_bool ?_))
  split
  ·rename_i hsp
   refine SS_asg (E_bin (E_ci (E_bin (c_bin_nc rfl ?_))))
   refine bin_divp (by decide) (by decide) ?_
   refine E_ci ?_
   refine bin_modp (by decide) ?_
   refine bin_add ?_
   refine SS_nil (hR _ _ ⟨(1 + f0 / 192 % 6).toNat, by (clear hv hl hm hm' hz hf0 hr1 hr2; omega), by (clear hv hl hm hm' hz hf0 hr1 hr2; omega), by unfold inpOf; rw [<- hf0, if_pos (of_decide_eq_true hsp)], ?_, rfl⟩)
   rw [Int.toNat_of_nonneg (by (clear hv hl hm hm' hz hf0 hr1 hr2; omega))]; rfl
  ·rename_i hsp
   refine SS_nil (hR _ _ ⟨(1 + f0 / 8 % 3).toNat, by (clear hv hl hm hm' hz hf0 hr1 hr2 hsp; omega), by (clear hv hl hm hm' hz hf0 hr1 hr2 hsp; omega), by unfold inpOf; rw [<- hf0, if_neg fun z => hsp (decide_eq_true z)], ?_, rfl⟩)
   rw [Int.toNat_of_nonneg (by (clear hv hl hm hm' hz hf0 hr1 hr2 hsp; omega))]; rfl
 refine Vc.xa_1_5 hJ fun inp hi1 hi2 hinp hr248_4 hr248_5 => ?_
 try clear hJ
 subst hr248_4
 subst hr248_5
 have a2 := x2 _ _ ha
 refine SS_asg (E_bin (E_ci (E_bin ?_)))
 refine E_fn Dm.fn ?_
 refine c_ess rfl (c_esc1 ?_)
 refine mixed_ct G Dc Dm a2 hl (by decide) fun H3 x3 => ?_
 refine E_nm rfl ?_
 refine bin_modp (by (clear hv hl hm' hz hf0 hr1 hr2 hi1 hi2 hinp; omega)) ?_
 refine bin_add ?_
 have hmany : 1 <= 1 + mixed ns 1 % most /\ 1 + mixed ns 1 % most <= most := by
  have h1 := Int.emod_nonneg (mixed ns 1) (show (most : Int) ≠ 0 by (clear hv hl hm' hz hf0 hr1 hr2 hi1 hi2 hinp; omega))
  have h2 := Int.emod_lt_of_pos (mixed ns 1) (show 0 < (most : Int) by (clear hv hl hm' hz hf0 hr1 hr2 hi1 hi2 hinp h1; omega))
  (clear hv hl hm hm' hz hf0 hr1 hr2 hi1 hi2 hinp; omega)
 generalize 1 + mixed ns 1 % most = many at hmany ⊢
 refine SS_join (J := fun ρ' H' => ∃ many : Nat, 1 <= many /\ many <= most /\ (3 < r -> most < 8 -> many <= 4) /\ ρ' = [some (.ref a), some (.int most), some (.int f0), some (.int r), some (.int inp), some (.int many), none] /\ H' = H3) (fun ρ' H' hJ => ?_) fun R hR => ?_
 rotate_left
 ·have h0 : ¬ (3 < r /\ (most : Int) < 8) -> R [some (.ref a), some (.int most), some (.int f0), some (.int r), some (.int inp), some (.int many), none] H3 := fun hn => hR _ _ ⟨many.toNat, by (clear hv hl hm hm' hz hf0 hr1 hr2 hi1 hi2 hinp hn; omega), by (clear hv hl hm hm' hz hf0 hr1 hr2 hi1 hi2 hinp hn; omega), fun u v => absurd ⟨u, by (clear hv hl hm hm' hz hf0 hr1 hr2 hi1 hi2 hinp hmany hn u; omega)⟩ hn, by rw [Int.toNat_of_nonneg (by (clear hv hl hm hm' hz hf0 hr1 hr2 hi1 hi2 hinp hn; omega))], rfl⟩
  refine T_bop (A_and (c_tcmp_nc rfl (cmp_gt (tru_bool ?_))))
  split
  ·rename_i c1
   refine A_and (c_tcmp_nc rfl (cmp_lt (tru_bool ?_)))
   split
   ·rename_i c2
    refine A_nil_and (if_t (SS_asg (E_call (Std.n_min (by assumption)) callee_builtin (c_ess rfl (c_esc1 ?_)))))
    refine cv_min rfl (SS_nil (hR _ _ ⟨(min many 4).toNat, by (clear hv hl hm hm' hz hf0 hr1 hr2 hi1 hi2 hinp; omega), by (clear hv hl hm hm' hz hf0 hr1 hr2 hi1 hi2 hinp; omega), fun zz zz => by (clear hv hl hm hm' hz hf0 hr1 hr2 hi1 hi2 hinp hmany; omega), ?_, rfl⟩))
    rw [Int.toNat_of_nonneg (by (clear hv hl hm hm' hz hf0 hr1 hr2 hi1 hi2 hinp; omega))]; rfl
   ·rename_i c2
    refine if_f ?_
    refine SS_nil ?_
    exact h0 fun u => c2 (by simpa using u.2)
  ·rename_i c1
   refine if_f ?_
   refine SS_nil ?_
   exact h0 fun u => c1 (by simpa using u.1)
 clear many hmany
 refine Vc.xa_1_5 hJ fun many hmany1 hmany2 hfew hr283_4 hr283_5 => ?_
 try clear hJ
 subst hr283_4
 subst hr283_5
 have a3 := x3 _ _ a2
 have x13 := x2.trans x3
 refine SS_asg (E_comp ?_)
 refine E_call (Std.n_range (by assumption)) callee_type (c_es1 rfl ?_)
 refine cv_range1 ?_
 refine ⟨_, itq_rng rfl (by (clear hv hl hm hm' hz hf0 hr1 hr2 hi1 hi2 hinp hmany1 hmany2; omega)) (by (clear hv hl hm hm' hz hf0 hr1 hr2 hi1 hi2 hinp hmany1 hmany2; omega)) (by (clear hv hl hm hm' hz hf0 hr1 hr2 hi1 hi2 hinp hmany1 hmany2; omega)) (by (clear hv hl hm hz hf0 hr1 hr2 hi1 hi2 hinp hmany1; omega)), rfl, by rw [rng_len]; (clear hv hl hm hf0 hr1 hr2 hi1 hi2 hinp hmany1; omega), ?_⟩
 refine comp_inv (P := fun i acc H' => ∃ ps : List Pt, acc = ps.map Pt.v /\ ps.length = i /\ (∀ (k : Nat) (p : Pt), ps[k]? = some p -> p.ok (inp + k)) /\ Ext H H')
  ⟨[], rfl, rfl, by simp, x13⟩ (fun i x acc H' R hP hx hR => ?_) fun acc H' hP => ⟨rfl, ?_⟩
 ·refine Vc.xa_1_4 hP fun ps hr292_1 hi hps hx' => ?_
  try clear hP
  subst hr292_1
  refine Vc.xa_0_2 (rng_get hx) fun hr293_0 hi' => ?_
  subst hr293_0
  refine ⟨rfl, _, rfl, ?_⟩
  refine Ts_nil (if_t ?_)
  refine E_fn Dp.fn ?_
  refine Es_cons ?_
  refine E_fn Dm.fn ?_
  refine c_ess rfl (Es_cons (E_bin (E_ci (E_nm rfl (bin_add (Es_nil ?_))))))
  refine mixed_ct G Dc Dm (hx' _ _ ha) hl (by (clear hv hl hm hm' hz hf0 hr1 hr2 hi1 hi2 hinp hmany1 hmany2 hi hi'; omega)) fun H5 x5 => ?_
  refine Es_cons (c_bin_nn rfl rfl (bin_add (Es_nil ?_)))
  refine part_ct G S Dp hv (mixed_ge _ _) (by (clear hv hl hm hm' hz hf0 hr1 hr2 hi2 hinp hmany1 hmany2 hi hi'; omega)) fun p H6 hp x6 => ?_
  refine hR _ _ ⟨ps ++ [p], by simp, by simp [hi], fun k p' hk => ?_, (hx'.trans x5).trans x6⟩
  rcases Nat.lt_or_ge k ps.length with h | h
  ·rw [List.getElem?_append_left h] at hk; exact hps k p' hk
  ·rw [List.getElem?_append_right h] at hk
   have : k - ps.length = 0 := by
    rcases Nat.eq_zero_or_pos (k - ps.length) with h0 | h0
    ·exact h0
    ·rw [List.getElem?_eq_none (by simp; (clear hv hl hm hm' hz hf0 hr1 hr2 hi1 hi2 hinp hmany1 hmany2 hi hi' h; omega))] at hk; cases hk
   rw [this] at hk; cases hk
   have e : ((inp : Int) + (0 + (i : Int))).toNat = inp + k := by (clear hv hl hm hm' hz hf0 hr1 hr2 hi1 hi2 hinp hmany1 hmany2 hi'; omega)
   rw [e] at hp; exact hp
 rw [rng_len] at hP
 refine Vc.xa_1_4 hP fun ps hr315_1 hi hps hx => ?_
 try clear hP
 subst hr315_1
 refine ⟨by simp; (clear hv hl hm hf0 hr1 hr2 hi1 hi2 hinp hmany1; omega), fun pa hpa => ?_⟩
 refine SS_ret (E_tup (c_es3 rfl rfl rfl ?_))
 refine ⟨show 3 <= sizeLine by decide, ?_⟩
 exact K ⟨r, inp, ps⟩ pa _ ⟨hr1, hr2, hi1, hi2, by show 1 <= ps.length; (clear hv hl hm hm' hz hf0 hr1 hr2 hi1 hi2 hinp hmany2; omega), by show ps.length <= most; (clear hv hl hm hm' hz hf0 hr1 hr2 hi1 hi2 hinp hmany1; omega), hps, fun u v => by have := hfew u v; show ps.length <= 4; (clear hv hl hm hm' hz hf0 hr1 hr2 hi1 hi2 hinp hmany1 hmany2 u v; omega)⟩ hinp (hx.more hpa) (hx.gone hpa) (upd_self ..)
theorem work_ct {vs : Vs} {a : Addr} {ns : List Int} {most : Nat} (G : C.Good) (S : Std C) (Dc : Def C "_law_cell" law_cell_vs 2 law_cell_b) (Dm : Def C "_law_mixed" law_mixed_vs 2 law_mixed_b) (Dp : Def C "_law_part" vs 2 law_part_b) (hv : vs.length = 6)
  (D : Def C "_law_work" law_work_vs 2 law_work_b) (ha : H a = some (.fro (ns.map .int))) (hl : ns.length <= 63) (hm : 1 <= most) (hm' : most <= 100)
  (K : ∀ (w : Wk) pa H', w.Ok most -> Ext H H' -> H pa = none -> H' pa = some (.lst (w.ps.map Pt.v)) -> Q (w.v pa) H') : CallW C ⟨n + 3, true⟩ "_law_work" [.ref a, .int most] H Q X :=
 work_cti G S Dc Dm Dp hv D ha hl hm hm' fun w pa H' h zz x y z => K w pa H' h x y z
end
end Vc
end
section
namespace Vc
open PySem PyProof.Rows
section
variable {C : Cx} {d : Md} {H : MH} {A : Around} {s : Shared} {Q : V -> MH -> Prop} {X : XP}
theorem places_one (a b : Nat) : Builtin.Slice.slicePlaces (a : Int) (b : Int) 1 = b - a := by
 unfold Builtin.Slice.slicePlaces
 have h1 : (1 : Int) > 0 := by omega
 simp only [h1, if_true, Int.ediv_one]
 split <;> (clear h1; omega)
theorem part_any {v : Value} {k : Option Int} {E : Value -> Shared -> Prop} {P : Option Int -> Shared -> Prop} (p : IsPart v k) (h : P k s) : wpAny C.M A (Builtin.Slice.slicePartIndex v) P E s := by
 cases p with
 | none => exact slicePart_none h
 | int i t => exact slicePart_int h
theorem sliced {sl : Addr} {vl vu : Value} {lo hi : Option Int} {a b n : Nat} {E : Value -> Shared -> Prop} {P : Int × Int × Nat -> Shared -> Prop} (hs : s.heap.IsSliceOf sl vl vu .none) (pl : IsPart vl lo) (pu : IsPart vu hi)
  (he : Builtin.Slice.sliceAdjust lo hi 1 (n : Int) = ((a : Int), (b : Int))) (h : P ((a : Int), 1, b - a) s) : wpAny C.M A (Builtin.Slice.sliceApplied (.ref sl) (pure (n : Int))) P E s := by
 refine Vc.xa_1_3 (id hs) fun os hos hcs hds => ?_
 unfold Builtin.Slice.sliceApplied Builtin.Slice.sliceFields
 refine wpAny_bind (wpAny_bind (wpAny_field hos hds (x := vl) rfl (wpAny_bind (wpAny_field hos hds (x := vu) rfl (wpAny_bind (wpAny_field hos hds (x := .none) rfl (wpAny_pure ?_)))))))
 refine wpAny_bind (slicePart_none ?_)
 show wpAny _ _ (if ((1 : Int) == 0) = true then _ else _) _ _ s
 rw [if_neg (by decide)]
 refine wpAny_bind (part_any pl (wpAny_bind (part_any pu (wpAny_bind (wpAny_pure ?_)))))
 show wpAny _ _ (match Builtin.Slice.sliceAdjust lo hi 1 (n : Int) with | (lo, hi) => pure (lo, (1 : Int), Builtin.Slice.slicePlaces lo hi 1)) _ _ s
 rw [he]
 show wpAny _ _ (pure ((a : Int), (1 : Int), Builtin.Slice.slicePlaces (a : Int) (b : Int) 1)) _ _ s
 rw [places_one a b]
 exact wpAny_pure h
theorem picked (xs : Array Value) (a n : Nat) : ((List.range n).filterMap fun (k : Nat) => xs[((a : Int) + (k : Int) * 1).toNat]?) = (xs.toList.drop a).take n := by
 have e : (fun (k : Nat) => xs[((a : Int) + (k : Int) * 1).toNat]?) = fun k => xs[a + k]? := by
  funext k
  have : ((a : Int) + (k : Int) * 1).toNat = a + k := by omega
  rw [this]
 rw [e]
 have := pick_run xs a n
 rw [List.filterMap_map] at this
 exact this
theorem sli_tup {l : List V} {vl vu : V} {lo hi : Option Int} {a b : Nat} (pl : Prt vl lo) (pu : Prt vu hi) (he : Builtin.Slice.sliceAdjust lo hi 1 (l.length : Int) = ((a : Int), (b : Int))) (hb : b <= l.length) (hl : l.length <= sizeLine)
  (q : Q (.tup ((l.drop a).take (b - a))) H) : SliW C d (.tup l) vl vu .none H Q X := fun A s co cl cu ct p ok ro rl ru rt hp => by
 have ro' := ro
 dsimp only [VR] at ro; dsimp only [VR] at rt; subst rt
 refine Vc.xa_2_3 ro fun t items ho48_2 ht rs => ?_
 try clear ro
 obtain ⟨rfl, nd⟩ := ho48_2
 have hn := rs.length
 simp only [Array.length_toList] at hn
 obtain ⟨o, ho, hc, n, hd⟩ := id ht
 have hT : IsTup s.heap t items := ⟨o, ho, hc, n, hd⟩
 have hs : s.heap.IsSliceOf p cl cu .none := ⟨_, hp, rfl, rfl⟩
 have hTs : s.TypeIs (.ref p) "slice" := ⟨_, hp, rfl⟩
 refine ⟨gip (T := "tuple") ⟨o, ho, hc⟩ slot_tuple_getitem.lookup, ?_⟩
 have hsz : sizeOk (.seq ((items.toList.drop a).take (b - a)).toArray) := by
  show ((items.toList.drop a).take (b - a)).toArray.size <= sizeLine
  rw [List.size_toArray, List.length_take, List.length_drop, Array.length_toList]
  (clear hb; omega)
 unfold getItem
 try with_reducible refine wpAny_holding ?_
 first | refine wpAny_bind (wpAny_pure ?_) | skip
 refine wpAny_bind (wpAny_sequenceKey hT.typeIs (by decide) ?_)
 refine wpAny_bind (wpAny_callSpecial?_slot (name := Str.ofString "__getitem__") hT.typeIs slot_tuple_getitem
  (wpAny_call_entry slot_tuple_getitem hT.typeIs entry_tuple_getitem ?_ (args_tuple_getitem _ _)))
 show wpAny _ _ (Builtin.Tuple.tupleItemsOf (.ref t) >>= _) _ _ s
 refine wpAny_bind (tupleItemsOf_ hT ?_)
 refine wpAny_bind (wpAny_typeOf hTs ?_)
 rw [if_pos (by decide)]
 refine wpAny_bind (sliced (C := C) (n := items.size) hs (pl.is rl) (pu.is ru) (by rw [<- hn]; exact he) ?_)
 have key : VRs C s.heap ((l.drop a).take (b - a)) ((items.toList.drop a).take (b - a)) := (rs.drop a).take _
 dsimp only
 rw [picked]
 by_cases hw : ((a : Int) == 0 && (1 : Int) == 1 && (b - a) == items.size) = true
 ·rw [if_pos hw]
  simp only [Bool.and_eq_true, beq_iff_eq] at hw
  refine Vc.xa_0_2 hw fun ho77_0 h1 => ?_
  try clear hw
  obtain ⟨h0, _⟩ := ho77_0
  have ha : a = 0 := by (clear hb hl hn h1; omega)
  subst ha
  have e : (l.drop 0).take (b - 0) = l := by rw [List.drop_zero]; exact List.take_of_length_le (by (clear hb hl h0; omega))
  rw [e] at q
  have fin : QP C H s Q (.ref t) s := qp ok.refl ro' q
  refine wpAny_bind (m := Builtin.Tuple.tupleIsExact (.ref t)) (wpAny_bind (wpAny_typeOf hT.typeIs (wpAny_pure ?_)))
  rw [if_pos (by decide)]
  exact wpAny_bind (wpAny_rule (wpAny_pure ⟨_, rfl, wpAny_pure fin⟩))
 ·rw [if_neg hw]
  generalize hP : ((items.toList.drop a).take (b - a)).toArray = P at hsz
  have fin : QP C H s Q (.ref s.heap.objs.size) { s with heap := s.heap.push { cls := .type "tuple", data := .seq P } } := by
   refine qp (Step.keeps ok.rel ok.top (fun b o e => Heap.get?_push_of_some _ e) rfl rfl) ?_ q
   dsimp only [VR]
   refine ⟨_, P, ⟨rfl, .of (Heap.get?_push_size _ rfl) rfl⟩, ⟨_, Heap.get?_push_size _ rfl, rfl, _, rfl⟩, ?_⟩
   rw [<- hP, List.toList_toArray]
   exact key.keep (.of_keeps fun b o e => Heap.get?_push_of_some _ e)
  first
   | exact wpAny_bind (m := Builtin.Tuple.tupleExact _) (wpAny_newObj_type (wpAny_pure ⟨_, rfl, wpAny_pure fin⟩) hsz)
   | exact wpAny_bind (m := Builtin.Tuple.tupleExact _) (wpAny_newObj_type (wpAny_bind (wpAny_pure (wpAny_pure ⟨_, rfl, wpAny_pure fin⟩))) hsz)
   | exact wpAny_bind (wpAny_bind (m := Builtin.Tuple.tupleExact _) (wpAny_newObj_type (wpAny_pure (wpAny_pure ⟨_, rfl, wpAny_pure fin⟩)) hsz))
   | exact wpAny_bind (wpAny_bind (m := Builtin.Tuple.tupleExact _) (wpAny_newObj_type (wpAny_pure ⟨_, rfl, wpAny_pure fin⟩) hsz))
end
end Vc
end
section
set_option maxHeartbeats 1000000
set_option maxRecDepth 100000
namespace Vc
open PySem PyProof.Rows
noncomputable def lines_of_vs : Vs := [locv "word"]
noncomputable def lines_of_b : List St :=
  [.ife (.cmp .Eq (.nm 0) (.cs "not")) [.ret (.ci 1)] [],
  .ife (.cmp .Eq (.nm 0) (.cs "pick")) [.ret (.ci 3)] [],
  .ife (.bop .Or [(.cmp .Eq (.nm 0) (.cs "sum")), (.cmp .Eq (.nm 0) (.cs "stop"))]) [.ret (.ci 2)] [],
  .ret (.ci 0)]
noncomputable def is_part_vs : Vs := [locv "thing", celv "ahead"]
noncomputable def is_part_b : List St :=
  [.ife (.bop .Or [(.una .Not (.call "isinstance" [(.nm 0), (.gl "tuple")])), (.cmp .Lt (.call "len" [(.nm 0)]) (.ci 2)), (.una .Not (.call "isinstance" [(.sub (.nm 0) (.ci 0)), (.gl "str")]))]) [.ret (.cb false)] [],
  .ret (.bop .And [(.cmp .Eq (.bin .Sub (.call "len" [(.nm 0)]) (.ci 1)) (.call "lines_of" [(.sub (.nm 0) (.ci 0))])), (.call "all" [(.comp 1 (.call "is_among" [(.nm 2), (.ci 0), (.bin .Sub (.nm 1) (.ci 1))]) (.sli (.nm 0) (.ci 1) .cn .cn) [])])])]
noncomputable def need_work_vs : Vs := [locv "thing", locv "ring", locv "inputs", locv "parts", locv "at", locv "part"]
noncomputable def need_work_b : List St :=
  [.ife (.bop .Or [(.una .Not (.call "isinstance" [(.nm 0), (.gl "tuple")])), (.cmp .NotEq (.call "len" [(.nm 0)]) (.ci 3))]) [.rais "BadWork" "a ring, inputs and parts are wanted"] [],
  .unp [1, 2, 3] (.nm 0),
  .ife (.bop .Or [(.una .Not (.call "is_among" [(.nm 1), (.ci 2), (.gl "MOST_RING")])), (.una .Not (.call "is_among" [(.nm 2), (.ci 1), (.gl "MOST_INPUTS")]))]) [.rais "BadWork" "no such ring, or no such inputs"] [],
  .ife (.bop .Or [(.una .Not (.call "isinstance" [(.nm 3), (.gl "list")])), (.una .Not (.cmp2 .LtE .LtE (.ci 1) (.call "len" [(.nm 3)]) (.gl "MOST_PARTS")))]) [.rais "BadWork" "one to ten parts are wanted"] [],
  .for [4, 5] (.en (.nm 3)) [.ife (.una .Not (.call "is_part" [(.nm 5), (.bin .Add (.nm 2) (.nm 4))])) [.rais "BadWork" "no part"] []],
  .ret (.cb true)]
noncomputable def written_vs : Vs := [locv "work", locv "rows", locv "part"]
noncomputable def written_b : List St :=
  [.asg 1 (.lst [(.bin .Add (.bin .Add (.bin .Add (.cs "ring ") (.call "str" [(.sub (.nm 0) (.ci 0))])) (.cs " inputs ")) (.call "str" [(.sub (.nm 0) (.ci 1))]))]),
  .for [2] (.pl (.sub (.nm 0) (.ci 2))) [.exp (.meth (.nm 1) "append" [(.meth (.cs " ") "join" [(.bin .Add (.lst [(.sub (.nm 2) (.ci 0))]) (.comp 1 (.call "str" [(.nm 3)]) (.sli (.nm 2) (.ci 1) .cn .cn) []))])])],
  .ret (.meth (.cs "\n") "join" [(.nm 1)])]
noncomputable def number_of_vs : Vs := [locv "word"]
noncomputable def number_of_b : List St :=
  [.ife (.bop .Or [(.una .Not (.cmp2 .LtE .LtE (.ci 1) (.call "len" [(.nm 0)]) (.gl "MOST_FIGURES"))), (.una .Not (.call "all" [(.comp 1 (.cmp .In (.nm 1) (.gl "FIGURES")) (.nm 0) [])]))]) [.rais "BadText" "no number"] [],
  .ret (.call "int" [(.nm 0)])]
noncomputable def pv (p : Str × List Int) : V := .tup (.str p.1 :: p.2.map .int)
noncomputable def twv (w : Tw) (pl : Addr) : V := .tup [.int w.r, .int w.i, .ref pl]
noncomputable def GI (C : Cx) (x : String) (i : Int) : Prop := ∃ t, C.G x (.int i t)
noncomputable def GS (C : Cx) (x : String) (s : Str) : Prop := ∃ t, C.G x (.str s t)
section
variable {C : Cx} {d : Md} {ρ : Lo} {H : MH} {Q : V -> MH -> Prop} {X : XP} {n : Nat} {q : Bool}
theorem E_gi {x : String} {i : Int} (h : GI C x i) (K : Q (.int i) H) : wpE C d (.gl x) ρ H Q X := by
 refine Vc.xa_1_1 h fun t hG => ?_
 try clear h
 exact ⟨.int i, _, hG, by dsimp only [VR]; exact ⟨t, rfl⟩, K⟩
theorem E_gs {x : String} {s : Str} (h : GS C x s) (K : Q (.str s) H) : wpE C d (.gl x) ρ H Q X := by
 refine Vc.xa_1_1 h fun t hG => ?_
 try clear h
 exact ⟨.str s, _, hG, by dsimp only [VR]; exact ⟨t, rfl⟩, K⟩
theorem SS_rais {K : KP} {X : XS} {ts : List St} {c m : String} (h : RaiW C d c H (fun c H1 => X c ρ H1)) : wpSs C d (.rais c m :: ts) ρ H K X := by dsimp only [wpSs, wpS]; exact h
theorem SS_raisa {K : KP} {X : XS} {ts us : List St} {c m : String} (h : RaiW C d c H (fun c H1 => X c ρ H1)) : wpSs C d ([.rais c m] ++ ts) ρ H K X := SS_rais h
theorem SS_trr {K : KP} {X : XS} {body ts : List St} {c c2 m : String} (h : wpSs C d body ρ H (fun f ρ' H' => match f with | .next => wpSs C d ts ρ' H' K X | .ret v => K (.ret v) ρ' H')
  (fun c' ρ' H' => ∃ b, Exm C c' c b /\ if b = true then c' ≠ "BadText" /\ RaiH C d.in c2 H' (fun c1 H1 => X c1 ρ' H1) else X c' ρ' H')) : wpSs C d (.trr body c c2 m :: ts) ρ H K X := by dsimp only [wpSs, wpS]; exact h
theorem sub_h {a : V} {l : List V} (hl : l.length <= 5000) (q : Q a H) : SubW C d (.tup (a :: l)) (.int 0) H Q X :=
 have hz : 10000 < sizeLine := by decide
 sub_tup (j := 0) (by simp [seqIndex?]) (by rw [List.length_cons]; omega) rfl q
theorem among14 {x l m : Int} (G : C.Good) (S : Std C) (D : Def C "is_among" is_among_vs 3 is_among_b) (K : Q (.bool (decide (l <= x) && decide (x <= m))) H) : CallW C ⟨n + 1, q⟩ "is_among" [.int x, .int l, .int m] H Q X := by
 refine D.call G rfl ?_
 unfold is_among_b
 refine SS_ret (E_bop (B_and (E_call (Std.n_isinstance (by assumption)) callee_builtin (c_ess rfl (Es_cons (E_gl (Std.n_int (by assumption)) (Es_nil ?_)))))))
 refine cv_isi (k := true) S.n_int (by rfl) ?_
 refine tru_bool (if_t (B_and (E_una (E_call (Std.n_isinstance (by assumption)) callee_builtin (c_ess rfl (Es_cons (E_gl (Std.n_bool (by assumption)) (Es_nil ?_))))))))
 refine cv_isi (k := false) S.n_bool (by rfl) ?_
 refine una_not (tru_bool (tru_bool (if_nf (B_one (E_cmp2 (E_nm rfl (E_nm rfl (cmp_le (tru_bool ?_)))))))))
 split
 ·rename_i h
  refine E_nm rfl (cmp_le ?_)
  rw [h, Bool.true_and] at K
  exact K
 ·rename_i h
  rw [show decide (l <= x) = false by simpa using h, Bool.false_and] at K
  rw [show decide (l <= x) = false by simpa using h]
  exact K
theorem lines14 {s : Str} (G : C.Good) (D : Def C "lines_of" lines_of_vs 1 lines_of_b) (K : Q (.int (takes s)) H) : CallW C ⟨n + 1, q⟩ "lines_of" [.str s] H Q X := by
 refine D.call G rfl ?_
 unfold lines_of_b
 unfold takes at K
 refine SS_ife (c_tcmp (E_nm rfl (E_cs ?_)))
 refine cmp_eq_str ?_
 refine tru_bool ?_
 by_cases h : (s == Str.ofString "not") = true
 ·rw [if_pos h] at K ⊢
  refine SS_app1 (SS_ret (E_ci ?_))
  exact K
 rw [if_neg h] at K ⊢
 refine SS_app0 (SS_ife (c_tcmp (E_nm rfl (E_cs ?_))))
 refine cmp_eq_str ?_
 refine tru_bool ?_
 by_cases h : (s == Str.ofString "pick") = true
 ·rw [if_pos h] at K ⊢
  refine SS_app1 (SS_ret (E_ci ?_))
  exact K
 rw [if_neg h] at K ⊢
 refine SS_app0 (SS_ife (T_bop (A_or (c_tcmp (E_nm rfl (E_cs ?_))))))
 refine cmp_eq_str ?_
 refine tru_bool ?_
 by_cases h : (s == Str.ofString "sum") = true
 ·rw [h, Bool.true_or, if_pos rfl] at K
  rw [if_pos h]
  refine if_t (SS_app1 (SS_ret (E_ci ?_)))
  exact K
 rw [if_neg h]
 rw [show (s == Str.ofString "sum") = false by simpa using h, Bool.false_or] at K
 refine A_or (c_tcmp (E_nm rfl (E_cs ?_)))
 refine cmp_eq_str ?_
 refine tru_bool ?_
 by_cases h : (s == Str.ofString "stop") = true
 ·rw [if_pos h] at K ⊢
  refine if_t (SS_app1 (SS_ret (E_ci ?_)))
  exact K
 rw [if_neg h] at K ⊢
 refine A_nil_or (if_f (SS_app0 (SS_ret (E_ci ?_))))
 exact K
theorem adj_from1 {n : Nat} (h : 1 <= n) : Builtin.Slice.sliceAdjust (some 1) none 1 (n : Int) = (((1 : Nat) : Int), ((n : Nat) : Int)) := by
 unfold Builtin.Slice.sliceAdjust
 simp only [show ¬ ((1 : Int) < 0) by (clear h; omega), if_false]
 congr 1
 omega
theorem part14_ct {p : Str × List Int} {ahead : Int} (G : C.Good) (S : Std C) (Da : Def C "is_among" is_among_vs 3 is_among_b) (Dl : Def C "lines_of" lines_of_vs 1 lines_of_b) (D : Def C "is_part" is_part_vs 2 is_part_b)
  (hl : p.2.length <= 2000) (K : ∀ H', Ext H H' -> Q (.bool (partOk p ahead)) H') : CallW C ⟨n + 2, true⟩ "is_part" [pv p, .int ahead] H Q X := by
 have hz : 1000000 < sizeLine := by decide
 obtain ⟨s, ls⟩ := p
 dsimp only at hl
 have hlen : (V.str s :: ls.map V.int).length = ls.length + 1 := by rw [List.length_cons, List.length_map]
 change CallW C ⟨n + 2, true⟩ "is_part" [.tup (.str s :: ls.map .int), .int ahead] H Q X
 refine D.call G rfl ?_
 unfold is_part_b
 refine SS_ife (T_bop (A_or (T_not (T_call (E_call (Std.n_isinstance (by assumption)) callee_builtin (c_ess rfl (Es_cons (E_gl (Std.n_tuple (by assumption)) (Es_nil ?_)))))))))
 refine cv_isi (k := true) S.n_tuple (by rfl) ?_
 refine tru_bool (if_nt (A_or (c_tcmp (E_call (Std.n_len (by assumption)) callee_builtin (c_es1 rfl ?_)))))
 refine cv_len_tup (by rw [hlen]; (clear hlen; omega)) ?_
 rw [hlen]
 refine E_ci (cmp_lt (tru_bool ?_))
 by_cases h1 : 1 <= ls.length
 rotate_left
 ·rw [show decide (((ls.length + 1 : Nat) : Int) < 2) = true from decide_eq_true (by (clear hz hl hlen; omega))]
  refine if_t (if_t (SS_app1 (c_ret_b ?_)))
  have : partOk (s, ls) ahead = false := by unfold partOk; rw [decide_eq_false h1]; rfl
  rw [<- this]; exact K _ (.refl _)
 rw [show decide (((ls.length + 1 : Nat) : Int) < 2) = false from decide_eq_false (by (clear hz hl hlen; omega))]
 refine if_f (A_or (T_not (T_call (E_call (Std.n_isinstance (by assumption)) callee_builtin (Es_cons (c_sub_nc rfl ?_))))))
 refine sub_h (by rw [List.length_map]; (clear hz hlen h1; omega)) ?_
 refine Es_cons (E_gl (Std.n_str (by assumption)) (Es_nil ?_))
 refine cv_isi (k := true) S.n_str (by rfl) ?_
 refine tru_bool (if_nt (A_nil_or (if_f (SS_app0 (SS_ret (E_bop (B_and (E_cmp (E_bin (E_call (Std.n_len (by assumption)) callee_builtin (c_es1 rfl ?_)))))))))))
 refine cv_len_tup (by rw [hlen]; (clear hlen h1; omega)) ?_
 rw [hlen]
 refine E_ci (bin_sub ?_)
 refine E_fn Dl.fn ?_
 refine Es_cons (c_sub_nc rfl ?_)
 refine sub_h (by rw [List.length_map]; (clear hz hlen h1; omega)) ?_
 refine Es_nil ?_
 refine lines14 G Dl ?_
 rw [show (((ls.length + 1 : Nat) : Int) - 1) = (ls.length : Int) by (clear hz hl hlen h1; omega)]
 refine cmp_eq_int (tru_bool ?_)
 by_cases h2 : (ls.length : Int) = takes s
 rotate_left
 ·rw [show ((ls.length : Int) == takes s) = false from beq_eq_false_iff_ne.mpr h2]
  refine if_f ?_
  have : partOk (s, ls) ahead = false := by unfold partOk; rw [decide_eq_false (p := ((s, ls).2.length : Int) = takes (s, ls).1) h2, Bool.and_false]; rfl
  rw [<- this]; exact K _ (.refl _)
 rw [show ((ls.length : Int) == takes s) = true from beq_iff_eq.mpr h2]
 refine if_t (B_one (E_call (Std.n_all (by assumption)) callee_builtin (Es_cons ?_)))
 refine E_comp ?_
 refine E_sli (E_nm rfl (E_ci (E_cn (E_cn ?_))))
 refine sli_tup (lo := some 1) (hi := none) (a := 1) (b := (V.str s :: ls.map V.int).length) (.int 1) .none (adj_from1 (by rw [hlen]; (clear hz hl hlen h1 h2; omega))) (Nat.le_refl _) (by rw [hlen]; (clear hlen h1 h2; omega)) ?_
 rw [show ((V.str s :: ls.map V.int).drop 1).take ((V.str s :: ls.map V.int).length - 1) = ls.map V.int by rw [List.drop_one, List.tail_cons, hlen, Nat.add_sub_cancel]; exact List.take_of_length_le (by rw [List.length_map]; exact Nat.le_refl _)]
 refine ⟨_, ⟨.inl rfl, fun zz zz zz e => by cases e⟩, rfl, by rw [List.length_map]; (clear hlen h1 h2; omega), ?_⟩
 refine comp_inv (P := fun i acc H' => acc = ((ls.take i).map fun l => decide (0 <= l) && decide (l <= ahead - 1)).map .bool /\ H = H') ⟨rfl, rfl⟩ (fun i x acc H' R hP hxi hR => ?_) fun acc H' hP => ⟨rfl, ?_⟩
 ·refine Vc.xa_0_2 hP fun hr173_0 hr173_1 => ?_
  try clear hP
  subst hr173_0
  subst hr173_1
  rw [List.getElem?_map, Option.map_eq_some_iff] at hxi
  refine Vc.xa_1_2 hxi fun y hyi hr175_2 => ?_
  try clear hxi
  subst hr175_2
  refine ⟨rfl, _, rfl, ?_⟩
  refine Ts_nil (if_t ?_)
  refine E_fn Da.fn ?_
  refine c_ess rfl (c_esc (Es_cons (c_bin_nc rfl (bin_sub (Es_nil ?_)))))
  refine among14 G S Da (hR _ _ ⟨?_, rfl⟩)
  rw [List.take_add_one, hyi, List.map_append, List.map_append]; rfl
 refine Vc.xa_0_2 hP fun hr182_0 hr182_1 => ?_
 try clear hP
 subst hr182_0
 subst hr182_1
 rw [show (ls.map V.int).length = ls.length from List.length_map .., List.take_length]
 refine ⟨by simp; (clear hlen h1 h2; omega), fun r hr => ?_⟩
 refine Es_nil ?_
 refine cv_all rfl (upd_self ..) ?_
 rw [List.all_map]
 have : partOk (s, ls) ahead = ls.all (id ∘ fun l => decide (0 <= l) && decide (l <= ahead - 1)) := by
  unfold partOk; rw [decide_eq_true (p := 1 <= (s, ls).2.length) h1, decide_eq_true (p := ((s, ls).2.length : Int) = takes (s, ls).1) h2]; rfl
 rw [<- this]
 exact K _ (.new hr)
theorem need14_ct {w : Tw} {pl : Addr} (G : C.Good) (S : Std C) (hR : ∀ {d : Md} {H : MH} {X : XP}, d.q = true -> X "BadWork" H -> RaiW C d "BadWork" H X) (g1 : GI C "MOST_RING" 5) (g2 : GI C "MOST_INPUTS" 6) (g3 : GI C "MOST_PARTS" 10)
  (Da : Def C "is_among" is_among_vs 3 is_among_b) (Dl : Def C "lines_of" lines_of_vs 1 lines_of_b) (Dp : Def C "is_part" is_part_vs 2 is_part_b) (D : Def C "need_work" need_work_vs 1 need_work_b)
  (hp : H pl = some (.lst (w.ps.map pv))) (hl : w.ps.length <= 2000) (hl2 : ∀ p ∈ w.ps, p.2.length <= 2000) (K1 : workOk w = true -> ∀ H', Ext H H' -> Q (.bool true) H') (K2 : workOk w = false -> ∀ H', Ext H H' -> X "BadWork" H') : CallW C ⟨n + 3, true⟩ "need_work" [twv w pl] H Q X := by
 have hz : 1000000 < sizeLine := by decide
 have hplen : (w.ps.map pv).length = w.ps.length := List.length_map ..
 refine D.call G rfl ?_
 unfold need_work_b twv
 refine SS_ife (T_bop (A_or (T_not (T_call (E_call (Std.n_isinstance (by assumption)) callee_builtin (c_ess rfl (Es_cons (E_gl (Std.n_tuple (by assumption)) (Es_nil ?_)))))))))
 refine cv_isi (k := true) S.n_tuple (by rfl) ?_
 refine tru_bool (if_nt (A_or (c_tcmp (E_call (Std.n_len (by assumption)) callee_builtin (c_es1 rfl ?_)))))
 refine cv_len_tup (show 3 <= sizeLine by decide) ?_
 refine E_ci (cmp_ne_int (tru_bool ?_))
 refine SS_unp ?_
 refine E_nm rfl ?_
 refine ⟨_, rfl, ⟨.inl rfl, fun zz zz zz e => by cases e⟩, rfl, ?_⟩
 refine SS_ife (T_bop (A_or (T_not (T_call ?_))))
 refine E_fn Da.fn ?_
 refine c_ess rfl (c_esc (Es_cons ?_))
 refine E_gi g1 ?_
 refine Es_nil ?_
 refine among14 G S Da ?_
 refine tru_bool ?_
 by_cases h1 : (decide (2 <= w.r) && decide (w.r <= 5)) = true
 rotate_left
 ·have h1' : (decide (2 <= w.r) && decide (w.r <= 5)) = false := by simpa using h1
  rw [h1']
  refine if_nf (if_t (SS_app1 ?_))
  exact SS_raisa (us := []) (hR rfl (K2 (by unfold workOk; rw [h1']; rfl) _ (.refl _)))
 rw [h1]
 refine if_nt (A_or (T_not (T_call ?_)))
 refine E_fn Da.fn ?_
 refine c_ess rfl (c_esc (Es_cons ?_))
 refine E_gi g2 ?_
 refine Es_nil ?_
 refine among14 G S Da ?_
 refine tru_bool ?_
 by_cases h2 : (decide (1 <= w.i) && decide (w.i <= 6)) = true
 rotate_left
 ·have h2' : (decide (1 <= w.i) && decide (w.i <= 6)) = false := by simpa using h2
  rw [h2']
  refine if_nf (if_t (SS_app1 ?_))
  exact SS_raisa (us := []) (hR rfl (K2 (by unfold workOk; rw [h1, Bool.true_and, h2']; rfl) _ (.refl _)))
 rw [h2]
 refine if_nt (A_nil_or (if_f (SS_app0 (SS_ife (T_bop (A_or (T_not (T_call (E_call (Std.n_isinstance (by assumption)) callee_builtin (c_ess rfl (Es_cons (E_gl (Std.n_list (by assumption)) (Es_nil ?_)))))))))))))
 refine cv_isi_list (k := true) S.n_list (items_lst hp) (by simp) ?_
 refine tru_bool (if_nt (A_or (T_not (T_cmp2 (E_ci (E_call (Std.n_len (by assumption)) callee_builtin (c_es1 rfl ?_)))))))
 refine cv_len_list (items_lst hp) (by rw [hplen]; (clear hplen; omega)) ?_
 rw [hplen]
 refine cmp_le (tru_bool ?_)
 have ew : workOk w = (decide (1 <= w.ps.length) && decide (w.ps.length <= 10) && partsOk w.i w.ps) := by unfold workOk; rw [h1, Bool.true_and, h2, Bool.true_and]
 rw [ew] at K1 K2
 by_cases h4 : 1 <= w.ps.length
 rotate_left
 ·rw [show decide ((1 : Int) <= (w.ps.length : Int)) = false from decide_eq_false (by (clear hl hz hplen; omega))]
  refine if_f (if_nf (if_t (SS_app1 ?_)))
  exact SS_raisa (us := []) (hR rfl (K2 (by rw [decide_eq_false h4]; rfl) _ (.refl _)))
 rw [show decide ((1 : Int) <= (w.ps.length : Int)) = true from decide_eq_true (by (clear hl hz hplen; omega))]
 refine if_t ?_
 refine E_gi g3 ?_
 refine cmp_le (tru_bool ?_)
 by_cases h5 : w.ps.length <= 10
 rotate_left
 ·rw [show decide ((w.ps.length : Int) <= 10) = false from decide_eq_false (by (clear hl hz hplen h4; omega))]
  refine if_nf (if_t (SS_app1 ?_))
  exact SS_raisa (us := []) (hR rfl (K2 (by rw [decide_eq_false h5, Bool.and_false]; rfl) _ (.refl _)))
 rw [show decide ((w.ps.length : Int) <= 10) = true from decide_eq_true (by (clear hl hz hplen h4; omega))]
 rw [decide_eq_true h4, decide_eq_true h5, Bool.true_and, Bool.true_and] at K1 K2
 refine if_nt (A_nil_or (if_f (SS_app0 ?_)))
 refine SS_fore S.n_enumerate ?_
 refine E_nm rfl ?_
 refine ⟨enumd 0 (w.ps.map pv), ⟨rfl, .inl rfl, fun zz zz zz e => by cases e⟩, by simp only [svItems, items_lst hp]; rfl, ?_⟩
 refine for_inv (P := fun i ρ' H' => (∃ u u', ρ' = [some (.tup [.int w.r, .int w.i, .ref pl]), some (.int w.r), some (.int w.i), some (.ref pl), u, u']) /\ Ext H H' /\ ∀ (k : Nat) p, k < i -> w.ps[k]? = some p -> partOk p (w.i + k) = true) ⟨⟨_, _, rfl⟩, .refl _, fun zz zz h => by (clear hl hz hplen h4 h5; omega)⟩
  (fun i z ρ' H' R hP hz' hRR => ?_) fun ρ' H' hP => ?_
 ·refine Vc.xa_0_3 hP fun ho267_0 hx hok => ?_
  try clear hP
  obtain ⟨u, u', rfl⟩ := ho267_0
  refine Vc.xa_1_2 (enumd_get hz') fun yv hy hr268_2 => ?_
  subst hr268_2
  rw [List.getElem?_map, Option.map_eq_some_iff] at hy
  refine Vc.xa_1_2 hy fun p hpi hr270_2 => ?_
  try clear hy
  subst hr270_2
  refine ⟨by simp only [svItems, items_lst (hx _ _ hp)]; rfl, _, rfl, ?_⟩
  refine SS_ife (T_not (T_call ?_))
  refine E_fn Dp.fn ?_
  refine c_ess rfl (Es_cons (c_bin_nn rfl rfl (bin_add (Es_nil ?_))))
  rw [Nat.zero_add]
  refine part14_ct G S Da Dl Dp (hl2 p (List.mem_of_getElem? hpi)) fun H2 hx2 => ?_
  refine tru_bool ?_
  by_cases h6 : partOk p (w.i + i) = true
  ·rw [h6]
   refine if_nt (SS_app0 ?_)
   refine hRR _ _ ⟨⟨_, _, rfl⟩, hx.trans hx2, fun k d hk hd => ?_⟩
   by_cases hki : k = i
   ·subst hki; rw [hpi] at hd; cases hd; exact h6
   ·exact hok k d (by (clear hl hz hplen h4 h5; omega)) hd
  ·have h6' : partOk p (w.i + i) = false := by simpa using h6
   rw [h6']
   refine if_nf (SS_app1 ?_)
   refine SS_raisa (us := []) (hR rfl (K2 ?_ _ (hx.trans hx2)))
   cases hps : partsOk w.i w.ps with
   | false => rfl
   | true => have := zall.mp hps i p hpi; rw [h6'] at this; cases this
 ·refine Vc.xa_0_3 hP fun ho292_0 hx hok => ?_
  try clear hP
  obtain ⟨u, u', rfl⟩ := ho292_0
  refine ⟨by simp only [svItems, items_lst (hx _ _ hp)]; rfl, ?_⟩
  refine c_ret_b ?_
  refine K1 (zall.mpr fun k d hd => hok k d ?_ hd) _ hx
  rw [enumd_length, hplen]
  exact (List.getElem?_eq_some_iff.mp hd).1
theorem fig_mem : ∀ c : Nat, decide (c ∈ (Str.ofString "0123456789").cps.toList) = isFig c := fun c => by
 have e : (Str.ofString "0123456789").cps.toList = [48, 49, 50, 51, 52, 53, 54, 55, 56, 57] := by decide +kernel
 rw [e]
 unfold isFig
 by_cases h : 48 <= c /\ c <= 57
 ·rw [decide_eq_true h.1, decide_eq_true h.2]
  exact decide_eq_true (by simp; omega)
 ·have : (decide (48 <= c) && decide (c <= 57)) = false := by
   cases e1 : (decide (48 <= c) && decide (c <= 57)) with
   | false => rfl
   | true => simp only [Bool.and_eq_true, decide_eq_true_eq] at e1; exact (h e1).elim
  rw [this]
  exact decide_eq_false (by simp; omega)
theorem number_ct {x : Str} (G : C.Good) (S : Std C) (hR : ∀ {d : Md} {H : MH} {X : XP}, d.q = true -> X "BadText" H -> RaiW C d "BadText" H X) (g1 : GI C "MOST_FIGURES" 2) (g2 : GS C "FIGURES" (Str.ofString "0123456789")) (D : Def C "number_of" number_of_vs 1 number_of_b) (hl : x.length <= 5000)
  (K1 : figs x = true -> ∀ H', Ext H H' -> Q (.int (numOf x)) H') (K2 : figs x = false -> ∀ H', Ext H H' -> X "BadText" H') : CallW C ⟨n + 1, true⟩ "number_of" [.str x] H Q X := by
 have hz : 1000000 < sizeLine := by decide
 refine D.call G rfl ?_
 unfold number_of_b
 refine SS_ife (T_bop (A_or (T_not (T_cmp2 (E_ci (E_call (Std.n_len (by assumption)) callee_builtin (c_es1 rfl ?_)))))))
 refine cv_lens (by omega) ?_
 refine cmp_le (tru_bool ?_)
 by_cases h1 : 1 <= x.length
 rotate_left
 ·rw [show decide ((1 : Int) <= (x.length : Int)) = false from decide_eq_false (by (clear hl hz; omega))]
  refine if_f (if_nf (if_t (SS_app1 ?_)))
  exact SS_raisa (us := []) (hR rfl (K2 (by unfold figs; rw [decide_eq_false h1]; rfl) _ (.refl _)))
 rw [show decide ((1 : Int) <= (x.length : Int)) = true from decide_eq_true (by (clear hl hz; omega))]
 refine if_t ?_
 refine E_gi g1 ?_
 refine cmp_le (tru_bool ?_)
 by_cases h2 : x.length <= 2
 rotate_left
 ·rw [show decide ((x.length : Int) <= 2) = false from decide_eq_false (by (clear hl hz h1; omega))]
  refine if_nf (if_t (SS_app1 ?_))
  exact SS_raisa (us := []) (hR rfl (K2 (by unfold figs; rw [decide_eq_false h2, Bool.and_false]; rfl) _ (.refl _)))
 rw [show decide ((x.length : Int) <= 2) = true from decide_eq_true (by (clear hl hz h1; omega))]
 refine if_nt (A_or (T_not (T_call (E_call (Std.n_all (by assumption)) callee_builtin (Es_cons ?_)))))
 have hxl : x.cps.toList.length = x.length := Array.length_toList ..
 refine E_comp ?_
 refine E_nm rfl ?_
 refine ⟨_, ⟨.inl rfl, fun zz zz zz e => by cases e⟩, rfl, by rw [List.length_map, hxl]; (clear hl h1 hxl; omega), ?_⟩
 refine comp_inv (P := fun i acc H' => acc = ((x.cps.toList.take i).map isFig).map .bool /\ H = H') ⟨rfl, rfl⟩ (fun i z acc H' R hP hxi hRR => ?_) fun acc H' hP => ⟨rfl, ?_⟩
 ·refine Vc.xa_0_2 hP fun hr341_0 hr341_1 => ?_
  try clear hP
  subst hr341_0
  subst hr341_1
  rw [List.getElem?_map, Option.map_eq_some_iff] at hxi
  refine Vc.xa_1_2 hxi fun y hyi hr343_2 => ?_
  try clear hxi
  subst hr343_2
  refine ⟨rfl, _, rfl, ?_⟩
  refine Ts_nil (if_t (E_cmp (E_nm rfl ?_)))
  refine E_gs g2 ?_
  refine cmp_in_str ?_
  rw [fig_mem]
  refine hRR _ _ ⟨?_, rfl⟩
  rw [List.take_add_one, hyi, List.map_append, List.map_append]; rfl
 refine Vc.xa_0_2 hP fun hr352_0 hr352_1 => ?_
 try clear hP
 subst hr352_0
 subst hr352_1
 rw [List.length_map, List.take_length]
 refine ⟨by rw [List.length_map, List.length_map, hxl]; (clear hl h1 hxl; omega), fun r hr => ?_⟩
 refine Es_nil ?_
 refine cv_all rfl (upd_self ..) ?_
 rw [List.all_map]
 have e : figs x = x.cps.toList.all (id ∘ isFig) := by unfold figs; rw [decide_eq_true h1, decide_eq_true h2]; rfl
 rw [<- e]
 cases hf : figs x with
 | false =>
  refine tru_bool (if_nf (if_t (SS_app1 ?_)))
  exact SS_raisa (us := []) (hR rfl (K2 hf _ (.new hr)))
 | true =>
  refine tru_bool (if_nt (A_nil_or (if_f (SS_app0 (SS_ret (E_call (Std.n_int (by assumption)) callee_type (c_es1 rfl ?_)))))))
  exact cv_ints (figs_num hf).1 (by (clear hl hz h1 hxl; omega)) (K1 hf _ (.new hr))
theorem str_sp : Str.ofString " " = ⟨#[sp]⟩ := by decide +kernel
theorem str_nl : Str.ofString "\n" = ⟨#[nl]⟩ := by decide +kernel
theorem join_is (c : Nat) (ws : List Str) : Txt.join ⟨#[c]⟩ ws = jn1 c ws := StrLaws.glued_eq_join ..
theorem jn_cons (c : Nat) (x y : Str) (l : List Str) : jn1 c (x :: y :: l) = x ++ ⟨#[c]⟩ ++ jn1 c (y :: l) := rfl
theorem app_assoc (x y z : Str) : (x ++ y) ++ z = x ++ (y ++ z) := str_list (by rw [app_list, app_list, app_list, app_list, List.append_assoc])
theorem head_row (w : Tw) : ((Str.ofString "ring " ++ nstr w.r) ++ Str.ofString " inputs ") ++ nstr w.i = jn1 sp (headOf w) := by
 refine str_list ?_
 unfold headOf jn1
 rw [join_jn]
 simp only [List.map_cons, List.map_nil, jn, app_list]
 have e1 : (Str.ofString "ring ").cps.toList = (Str.ofString "ring").cps.toList ++ [32] := by decide +kernel
 have e2 : (Str.ofString " inputs ").cps.toList = 32 :: ((Str.ofString "inputs").cps.toList ++ [32]) := by decide +kernel
 rw [e1, e2]
 simp [List.append_assoc]
theorem foldl_sum (y : Str) : ∀ (ws : List Str) (k : Nat), ws.foldl (fun a x => a + x.length + y.length) k = k + (ws.map fun x => x.length + y.length).sum
 | [], k => by simp
 | x :: ws, k => by rw [List.foldl_cons, foldl_sum y ws, List.map_cons, List.sum_cons]; omega
theorem sum_le {B : Nat} : ∀ {l : List Nat}, (∀ x ∈ l, x <= B) -> l.sum <= l.length * B
 | [], _ => by simp
 | x :: l, h => by
  have h1 := h x (by simp)
  have h2 := sum_le (l := l) fun y hy => h y (by simp [hy])
  rw [List.sum_cons, List.length_cons, Nat.add_mul, Nat.one_mul]; omega
theorem joinOk_of {c B : Nat} {ws : List Str} (h : ∀ x ∈ ws, x.length <= B) (hB : ws.length * (B + 1) <= 10000000) : JoinOk ⟨#[c]⟩ ws = true := by
 have hz : 10000000 < sizeLine := by decide
 unfold JoinOk
 have e : ws.toArray.foldl (fun a x => a + x.length + (⟨#[c]⟩ : Str).length) 0 = (ws.map fun x => x.length + 1).sum := by
  rw [List.foldl_toArray, foldl_sum, Nat.zero_add]; rfl
 have h2 : (ws.map fun x => x.length + 1).sum <= ws.length * (B + 1) := by
  have := sum_le (B := B + 1) (l := ws.map fun x => x.length + 1) (fun y hy => by obtain ⟨x, hx, rfl⟩ := List.mem_map.mp hy; have := h x hx; (clear hB hz e; omega))
  rw [List.length_map] at this; exact this
 rw [e]
 show (!decide ((ws.map fun x => x.length + 1).sum > sizeLine)) = true
 rw [decide_eq_false (by (clear e; omega))]; rfl
theorem jn_len (c : Nat) : ∀ ws : List Str, (jn1 c ws).length <= (ws.map fun x => x.length + 1).sum
 | [] => Nat.zero_le _
 | [x] => by show x.length <= _; simp
 | x :: y :: l => by
  rw [jn_cons, len_app, len_app, List.map_cons, List.sum_cons]
  have := jn_len c (y :: l)
  show x.length + 1 + _ <= _
  omega
theorem jn_le {c B : Nat} {ws : List Str} (h : ∀ x ∈ ws, x.length <= B) : (jn1 c ws).length <= ws.length * (B + 1) := by
 refine Nat.le_trans (jn_len c ws) ?_
 have := sum_le (B := B + 1) (l := ws.map fun x => x.length + 1) (fun y hy => by obtain ⟨x, hx, rfl⟩ := List.mem_map.mp hy; have := h x hx; omega)
 rw [List.length_map] at this; exact this
theorem nstr_len {i : Int} (h0 : 0 <= i) (h1 : i < 100) : (nstr i).length <= 2 := by
 have := (num_is h0 h1).2.2
 unfold figs at this
 simp only [Bool.and_eq_true, decide_eq_true_eq] at this
 exact this.1.2
theorem takes_len {s : Str} (h : takes s ≠ 0) : s.length <= 4 /\ takes s <= 3 := by
 unfold takes at h ⊢
 by_cases h1 : (s == Str.ofString "not") = true
 ·rw [eq_of_beq h1]; decide +kernel
 ·rw [if_neg h1] at h ⊢
  by_cases h2 : (s == Str.ofString "pick") = true
  ·rw [eq_of_beq h2]; decide +kernel
  ·rw [if_neg h2] at h ⊢
   by_cases h3 : (s == Str.ofString "sum" || s == Str.ofString "stop") = true
   ·rw [if_pos h3]
    rcases Bool.or_eq_true_iff.mp h3 with h3 | h3
    ·rw [eq_of_beq h3]; decide +kernel
    ·rw [eq_of_beq h3]; decide +kernel
   ·rw [if_neg h3] at h; exact (h rfl).elim
structure Gp (w : Tw) : Prop where
 r : 2 <= w.r /\ w.r <= 5
 i : 1 <= w.i /\ w.i <= 6
 n : 1 <= w.ps.length /\ w.ps.length <= 10
 p : ∀ p ∈ w.ps, p.1.length <= 4 /\ p.2.length <= 3 /\ 1 <= p.2.length /\ takes p.1 ≠ 0 /\ ∀ l ∈ p.2, 0 <= l /\ l < 100
theorem gp_of {w : Tw} (h : workOk w = true) : Gp w := by
 unfold workOk at h
 simp only [Bool.and_eq_true, decide_eq_true_eq] at h
 refine Vc.xa_0_2 h fun ho442_0 hp => ?_
 try clear h
 obtain ⟨⟨⟨⟨⟨w1, w2⟩, w3⟩, w4⟩, w5⟩, w6⟩ := ho442_0
 have hp := zall.mp hp
 refine ⟨⟨w1, w2⟩, ⟨w3, w4⟩, ⟨w5, w6⟩, fun p hm => ?_⟩
 refine Vc.xa_1_1 (List.mem_iff_getElem?.mp hm) fun k hk => ?_
 have hkl := (List.getElem?_eq_some_iff.mp hk).1
 have := hp k p hk
 unfold partOk at this
 simp only [Bool.and_eq_true, decide_eq_true_eq, List.all_eq_true] at this
 refine Vc.xa_0_2 this fun ho450_0 q3 => ?_
 try clear this
 obtain ⟨q1, q2⟩ := ho450_0
 have ht : takes p.1 ≠ 0 := by (clear w6 w5 w4 w3 w1 w2 hkl; omega)
 have := takes_len ht
 exact ⟨this.1, by (clear w6 w5 w4 w3 w1 w2 hkl q1 ht; omega), q1, ht, fun l hl => ⟨(q3 l hl).1, by have := (q3 l hl).2; (clear w5 w3 w1 w2 q1 q2 ht; omega)⟩⟩
theorem Gp.words {w : Tw} (g : Gp w) {p : Str × List Int} (hp : p ∈ w.ps) : (∀ x ∈ wordsOf p, x.length <= 4) /\ (wordsOf p).length <= 4 := by
 refine Vc.xa_0_5 (g.p p hp) fun q1 q2 q3 q4 q5 => ?_
 refine ⟨fun x hx => ?_, by show (p.1 :: p.2.map nstr).length <= 4; rw [List.length_cons, List.length_map]; (clear q1 q3 q4; omega)⟩
 rcases List.mem_cons.mp hx with rfl | hx
 ·exact q1
 ·refine Vc.xa_1_2 (List.mem_map.mp hx) fun l hl hr459_2 => ?_
  subst hr459_2
  have := nstr_len (q5 l hl).1 (q5 l hl).2
  (clear q1 q2 q3 q4; omega)
theorem Gp.row {w : Tw} (g : Gp w) {p : Str × List Int} (hp : p ∈ w.ps) : (jn1 sp (wordsOf p)).length <= 20 := by
 refine Vc.xa_0_2 (g.words hp) fun h1 h2 => ?_
 have := jn_le (c := sp) h1
 have : (wordsOf p).length * 5 <= 20 := by (clear this; omega)
 (clear h2; omega)
theorem Gp.head {w : Tw} (g : Gp w) : (jn1 sp (headOf w)).length <= 40 := by
 have h1 : ∀ x ∈ headOf w, x.length <= 6 := fun x hx => by
  unfold headOf at hx
  simp only [List.mem_cons, List.not_mem_nil, or_false] at hx
  have a := nstr_len (i := w.r) (by have := g.r; (clear hx; omega)) (by have := g.r; (clear hx; omega))
  have b := nstr_len (i := w.i) (by have := g.i; (clear hx a; omega)) (by have := g.i; (clear hx a; omega))
  rcases hx with rfl | rfl | rfl | rfl
  ·decide +kernel
  ·(clear b; omega)
  ·decide +kernel
  ·(clear a; omega)
 have := jn_le (c := sp) h1
 have e : (headOf w).length = 4 := rfl
 omega
theorem Gp.rows {w : Tw} (g : Gp w) : ∀ x ∈ (rowsOf w).map (jn1 sp), x.length <= 40 := fun x hx => by
 refine Vc.xa_1_2 (List.mem_map.mp hx) fun r hr hr482_2 => ?_
 subst hr482_2
 rcases List.mem_cons.mp hr with rfl | hr
 ·exact g.head
 ·refine Vc.xa_1_2 (List.mem_map.mp hr) fun p hp hr485_2 => ?_
  subst hr485_2
  have := g.row hp; omega
theorem Gp.writ {w : Tw} (g : Gp w) : (writ w).length <= 500 := by
 have := jn_le (c := nl) g.rows
 have e : ((rowsOf w).map (jn1 sp)).length = w.ps.length + 1 := by rw [List.length_map]; show (headOf w :: w.ps.map wordsOf).length = _; rw [List.length_cons, List.length_map]
 have := g.n
 unfold Vc.writ
 have h2 : ((rowsOf w).map (jn1 sp)).length * 41 <= 451 := by omega
 (clear e this; omega)
theorem written_ct {w : Tw} {pl : Addr} (G : C.Good) (S : Std C) (D : Def C "written" written_vs 1 written_b) (g : Gp w) (hp : H pl = some (.lst (w.ps.map pv))) (K : ∀ H', Ext H H' -> Q (.str (writ w)) H') : CallW C ⟨n + 1, true⟩ "written" [twv w pl] H Q X := by
 have hz : 1000000 < sizeLine := by decide
 have hplen : (w.ps.map pv).length = w.ps.length := List.length_map ..
 have hn := g.n
 have hgr := g.r; have hgi := g.i
 have lr := nstr_len (i := w.r) (by (clear hz hplen hn hgi; omega)) (by (clear hz hplen hn hgi; omega))
 have li := nstr_len (i := w.i) (by (clear hz hplen hn hgr lr; omega)) (by (clear hz hplen hn hgr lr; omega))
 have c1 : (Str.ofString "ring ").length = 5 := by decide +kernel
 have c2 : (Str.ofString " inputs ").length = 8 := by decide +kernel
 refine D.call G rfl ?_
 unfold written_b twv
 refine SS_asg (E_lst (Es_cons (E_bin (E_bin (E_bin (E_cs (E_call (Std.n_str (by assumption)) callee_type (Es_cons (c_sub_nc rfl ?_)))))))))
 refine sub_t0 rfl ?_
 refine Es_nil ?_
 refine cv_stri (by (clear hz hplen hn hgi lr li c1 c2; omega)) (by (clear hz hplen hn hgi lr li c1 c2; omega)) ?_
 refine bin_sadd (by rw [c1]; show 5 + (nstr w.r).length <= _; (clear hplen hn hgr hgi li c1 c2; omega)) ?_
 refine E_cs ?_
 refine bin_sadd (by rw [len_app, c1, c2]; show 5 + (nstr w.r).length + 8 <= _; (clear hplen hn hgr hgi li c1 c2; omega)) ?_
 refine E_call (Std.n_str (by assumption)) callee_type (Es_cons (c_sub_nc rfl ?_))
 refine sub_t1 rfl ?_
 refine Es_nil ?_
 refine cv_stri (by (clear hz hplen hn hgr lr li c1 c2; omega)) (by (clear hz hplen hn hgr lr li c1 c2; omega)) ?_
 refine bin_sadd (by rw [len_app, len_app, c1, c2]; show 5 + (nstr w.r).length + 8 + (nstr w.i).length <= _; (clear hplen hn hgr hgi c1 c2; omega)) ?_
 rw [show Str.ofString "ring " ++ Str.ofString (toString w.r) ++ Str.ofString " inputs " ++ Str.ofString (toString w.i) = jn1 sp (headOf w) from head_row w]
 refine Es_nil ?_
 refine ⟨show 1 <= sizeLine by decide, fun ro hro => ?_⟩
 refine SS_for ?_
 refine c_sub_nc rfl ?_
 refine sub_t2 rfl ?_
 have x0 : Ext H (upd H ro (.lst [.str (jn1 sp (headOf w))])) := .new hro
 have nro : pl ≠ ro := fun e => by rw [e, hro] at hp; cases hp
 refine ⟨_, ⟨.inl rfl, fun zz zz zz e => by cases e⟩, items_lst (x0 _ _ hp), ?_⟩
 refine for_inv (P := fun i ρ' H' => (∃ u, ρ' = [some (.tup [.int w.r, .int w.i, .ref pl]), some (.ref ro), u]) /\ Ext H H' /\ H' ro = some (.lst ((jn1 sp (headOf w) :: (w.ps.take i).map fun p => jn1 sp (wordsOf p)).map .str))) ⟨⟨_, rfl⟩, x0, upd_self ..⟩
  (fun i z ρ' H' R hP hz' hRR => ?_) fun ρ' H' hP => ?_
 ·refine Vc.xa_0_3 hP fun ho529_0 hx hr => ?_
  try clear hP
  obtain ⟨u, rfl⟩ := ho529_0
  rw [List.getElem?_map, Option.map_eq_some_iff] at hz'
  refine Vc.xa_1_2 hz' fun p hpi hr531_2 => ?_
  try clear hz'
  subst hr531_2
  have hpm := List.mem_of_getElem? hpi
  refine Vc.xa_0_5 (g.p p hpm) fun q1 q2 q3 q4 q5 => ?_
  refine Vc.xa_0_2 (g.words hpm) fun wl wn => ?_
  have hlen : (V.str p.1 :: p.2.map V.int).length = p.2.length + 1 := by rw [List.length_cons, List.length_map]
  refine ⟨items_lst (hx _ _ hp), _, rfl, ?_⟩
  show wpSs C _ _ [some (.tup [.int w.r, .int w.i, .ref pl]), some (.ref ro), some (.tup (.str p.1 :: p.2.map .int))] _ _ _
  refine SS_exp (E_meth (E_nm rfl ?_))
  refine ⟨_, mget_append hr, callee_builtin, ?_⟩
  refine Es_cons (E_meth (E_cs ?_))
  refine ⟨_, mget_join, callee_builtin, ?_⟩
  refine Es_cons (E_bin (E_lst (Es_cons (c_sub_nc rfl ?_))))
  refine sub_h (by rw [List.length_map]; (clear hz hplen hn hgr hgi lr li c1 c2 nro q1 q3 q4 wn hlen; omega)) ?_
  refine Es_nil ?_
  refine ⟨show 1 <= sizeLine by decide, fun c1 hc1 => ?_⟩
  refine E_comp ?_
  refine E_sli (E_nm rfl (E_ci (E_cn (E_cn ?_))))
  refine sli_tup (lo := some 1) (hi := none) (a := 1) (b := (V.str p.1 :: p.2.map V.int).length) (.int 1) .none (adj_from1 (by rw [hlen]; (clear hz hplen hn hgr hgi lr li c2 nro q1 q2 q3 q4 wn hlen; omega))) (Nat.le_refl _) (by rw [hlen]; (clear hplen hn hgr hgi lr li c2 nro q1 q3 q4 wn hlen; omega)) ?_
  rw [show ((V.str p.1 :: p.2.map V.int).drop 1).take ((V.str p.1 :: p.2.map V.int).length - 1) = p.2.map V.int by rw [List.drop_one, List.tail_cons, hlen, Nat.add_sub_cancel]; exact List.take_of_length_le (by rw [List.length_map]; exact Nat.le_refl _)]
  refine ⟨_, ⟨.inl rfl, fun zz zz zz e => by cases e⟩, rfl, by rw [List.length_map]; (clear hplen hn hgr hgi lr li c2 nro q1 q3 q4 wn hlen; omega), ?_⟩
  have x1 := hx.more (o := .lst [.str p.1]) hc1
  have hr1 := (Ext.new (o := .lst [.str p.1]) hc1) _ _ hr
  have hc2 := upd_self H' c1 (.lst [.str p.1])
  generalize upd H' c1 (.lst [.str p.1]) = H1 at x1 hr1 hc2
  refine comp_inv (P := fun j acc H'' => acc = ((p.2.take j).map nstr).map .str /\ H1 = H'') ⟨rfl, rfl⟩ (fun j z acc H'' R' hQ hzj hR2 => ?_) fun acc H'' hQ => ⟨rfl, ?_⟩
  ·refine Vc.xa_0_2 hQ fun hr556_0 hr556_1 => ?_
   try clear hQ
   subst hr556_0
   subst hr556_1
   rw [List.getElem?_map, Option.map_eq_some_iff] at hzj
   refine Vc.xa_1_2 hzj fun y hyj hr558_2 => ?_
   try clear hzj
   subst hr558_2
   have hy := q5 y (List.mem_of_getElem? hyj)
   refine ⟨rfl, _, rfl, ?_⟩
   refine Ts_nil (if_t (E_call (Std.n_str (by assumption)) callee_type (c_es1 rfl ?_)))
   refine cv_stri (by (clear hz hplen hn hgr hgi lr li c2 nro q1 q2 q3 q4 wn hlen; omega)) (by (clear hz hplen hn hgr hgi lr li c2 nro q1 q2 q3 q4 wn hlen; omega)) (hR2 _ _ ⟨?_, rfl⟩)
   rw [List.take_add_one, hyj, List.map_append, List.map_append]; rfl
  refine Vc.xa_0_2 hQ fun hr564_0 hr564_1 => ?_
  try clear hQ
  subst hr564_0
  subst hr564_1
  rw [show (p.2.map V.int).length = p.2.length from List.length_map .., List.take_length]
  refine ⟨by simp; (clear hplen hn hgr hgi lr li c2 nro q1 q3 q4 wn hlen; omega), fun c3 hc3 => ?_⟩
  refine bin_cat (items_lst ((Ext.new hc3) _ _ hc2)) items_new (by simp; (clear hplen hn hgr hgi lr li c2 nro q1 q3 q4 wn hlen; omega)) fun c4 hc4 => ?_
  have x2 := (x1.more (o := .lst ((p.2.map nstr).map .str)) hc3).more (o := .lst ([.str p.1] ++ (p.2.map nstr).map .str)) hc4
  have hr2 := ((Ext.new (o := .lst ((p.2.map nstr).map .str)) hc3).more (o := .lst ([.str p.1] ++ (p.2.map nstr).map .str)) hc4) _ _ hr1
  have i4 : upd (upd H1 c3 (.lst ((p.2.map nstr).map .str))) c4 (.lst ([.str p.1] ++ (p.2.map nstr).map .str)) c4 = some (.lst ((wordsOf p).map .str)) := by rw [upd_self]; rfl
  generalize upd (upd H1 c3 (.lst ((p.2.map nstr).map .str))) c4 (.lst ([.str p.1] ++ (p.2.map nstr).map .str)) = H2 at x2 hr2 i4
  refine Es_nil ?_
  rw [str_sp]
  refine cv_join (items_lst i4) (joinOk_of wl (by (clear hz hplen hn hgr hgi lr li c2 nro q1 q2 q3 q4 hlen; omega))) ?_
  rw [join_is]
  refine Es_nil ?_
  refine cv_append hr2 (by rw [List.length_map, List.length_cons, List.length_map, List.length_take]; (clear hplen hgr hgi lr li c2 nro q1 q2 q3 q4 wn hlen; omega)) ?_
  refine SS_nil (hRR _ _ ⟨⟨_, rfl⟩, x2.mut hro, ?_⟩)
  rw [upd_self, List.take_add_one, hpi]
  congr 2
  rw [List.map_append, <- List.cons_append, List.map_append]; rfl
 ·refine Vc.xa_0_3 hP fun ho583_0 hx hr => ?_
  try clear hP
  obtain ⟨u, rfl⟩ := ho583_0
  rw [hplen, List.take_length] at hr
  refine ⟨items_lst (hx _ _ hp), ?_⟩
  refine SS_ret (E_meth (E_cs ?_))
  refine ⟨_, mget_join, callee_builtin, ?_⟩
  refine c_es1 rfl ?_
  have hr' : H' ro = some (.lst (((rowsOf w).map (jn1 sp)).map .str)) := by
   rw [hr]; show _ = some (O.lst ((jn1 sp (headOf w) :: (w.ps.map wordsOf).map (jn1 sp)).map V.str)); rw [List.map_map]; rfl
  have e : ((rowsOf w).map (jn1 sp)).length = w.ps.length + 1 := by rw [List.length_map]; show (headOf w :: w.ps.map wordsOf).length = _; rw [List.length_cons, List.length_map]
  rw [str_nl]
  refine cv_join (items_lst hr') (joinOk_of g.rows (by (clear hz hplen hgr hgi lr li c1 c2 nro; omega))) ?_
  rw [join_is]
  exact K _ hx
end
end Vc
end
section
set_option maxHeartbeats 2000000
set_option maxRecDepth 100000
namespace Vc
open PySem PyProof.Rows
noncomputable def read_vs : Vs := [locv "text", locv "rows", locv "head", locv "parts", locv "row", locv "words", locv "work"]
noncomputable def read_b : List St :=
  [.ife (.una .Not (.call "isinstance" [(.nm 0), (.gl "str")])) [.rais "BadText" "no text"] [],
  .asg 1 (.meth (.nm 0) "split" [(.cs "\n")]),
  .asg 2 (.meth (.sub (.nm 1) (.ci 0)) "split" [(.cs " ")]),
  .ife (.cmp .NotEq (.call "len" [(.nm 2)]) (.ci 4)) [.rais "BadText" "no ring and inputs"] [],
  .asg 3 (.lst []),
  .for [4] (.pl (.sli (.nm 1) (.ci 1) .cn .cn)) [.asg 5 (.meth (.nm 4) "split" [(.cs " ")]),
  .exp (.meth (.nm 3) "append" [(.call "tuple" [(.bin .Add (.lst [(.sub (.nm 5) (.ci 0))]) (.comp 1 (.call "number_of" [(.nm 7)]) (.sli (.nm 5) (.ci 1) .cn .cn) []))])])],
  .asg 6 (.tup [(.call "number_of" [(.sub (.nm 2) (.ci 1))]), (.call "number_of" [(.sub (.nm 2) (.ci 3))]), (.nm 3)]),
  .trr [.exp (.call "need_work" [(.nm 6)])] "BadWork" "BadText" "no work",
  .ife (.cmp .NotEq (.call "written" [(.nm 6)]) (.nm 0)) [.rais "BadText" "written otherwise"] [],
  .ret (.nm 6)]
theorem vsl_tail (a : V) (l : List V) : vsl (a :: l) (some 1) none = l := by
 unfold vsl
 simp only [Option.elim]
 rw [show (1 : Int) = ((1 : Nat) : Int) from rfl, clipAt_nat, show min 1 (a :: l).length = 1 by simp]
 simp
noncomputable abbrev spl (c : Nat) (x : Str) : List Str := Txt.split x ⟨#[c]⟩
theorem spl_ne (c : Nat) (x : Str) : spl c x ≠ [] := by
 unfold spl Txt.split
 split
 ·intro h; cases h
 ·split
  ·intro h; cases h
  ·intro h
   have := congrArg List.length h
   rw [length_partsBetween] at this
   simp at this
theorem le_sum : ∀ {l : List Nat} {x : Nat}, x ∈ l -> x <= l.sum
 | y :: l, x, h => by
  rw [List.sum_cons]
  rcases List.mem_cons.mp h with rfl | h
  ·omega
  ·have := le_sum h; omega
theorem spl_len (c : Nat) (x : Str) : (spl c x).length <= x.length + 1 /\ ∀ y ∈ spl c x, y.length <= x.length := by
 have h : Builtin.Str.glued ⟨#[c]⟩ (spl c x) = x := (StrLaws.glued_eq_join ..).trans (StrLaws.join_split x ⟨#[c]⟩)
 have e := size_glued ⟨#[c]⟩ (spl c x)
 rw [h] at e
 have e1 : (⟨#[c]⟩ : Str).length = 1 := rfl
 rw [e1, Nat.mul_one] at e
 refine ⟨by (clear e1; omega), fun y hy => ?_⟩
 have : y.length <= ((spl c x).map (·.length)).sum := le_sum (List.mem_map.mpr ⟨y, hy, rfl⟩)
 (clear e1; omega)
theorem rws_e {t r0 : Str} {Rs : List Str} (h : spl nl t = r0 :: Rs) : rws t = spl sp r0 :: Rs.map (spl sp) := by
 unfold rws; rw [show Txt.split t ⟨#[nl]⟩ = r0 :: Rs from h]; rfl
section
variable {C : Cx} {d : Md} {ρ : Lo} {H : MH} {Q : V -> MH -> Prop} {X : XP} {n : Nat}
structure RdD (C : Cx) : Prop where
 G : C.Good
 S : Std C
 rw : ∀ {d : Md} {H : MH} {X : XP}, d.q = true -> X "BadWork" H -> RaiW C d "BadWork" H X
 rt : ∀ {d : Md} {H : MH} {X : XP}, d.q = true -> X "BadText" H -> RaiW C d "BadText" H X
 rh : ∀ {d : Md} {H : MH} {X : XP}, X "BadText" H -> RaiH C d "BadText" H X
 xm : Exm C "BadWork" "BadWork" true
 g1 : GI C "MOST_RING" 5
 g2 : GI C "MOST_INPUTS" 6
 g3 : GI C "MOST_PARTS" 10
 g4 : GI C "MOST_FIGURES" 2
 g5 : GS C "FIGURES" (Str.ofString "0123456789")
 a : Def C "is_among" is_among_vs 3 is_among_b
 l : Def C "lines_of" lines_of_vs 1 lines_of_b
 p : Def C "is_part" is_part_vs 2 is_part_b
 n : Def C "need_work" need_work_vs 1 need_work_b
 w : Def C "written" written_vs 1 written_b
 f : Def C "number_of" number_of_vs 1 number_of_b
 r : Def C "read" read_vs 1 read_b
theorem sub_at {a : Addr} {l : List V} {i : Nat} {x : V} (h : H a = some (.lst l)) (hl : l.length <= 5000) (hx : l[i]? = some x) (q : Q x H) : SubW C d (.ref a) (.int i) H Q X :=
 have hz : 10000 < sizeLine := by decide
 sub_listn (items_lst h) (by omega) hx q
theorem read_ct {t : Str} (D : RdD C) (hl : t.length <= 1500) (K1 : readT t = true -> ∀ pl H', Ext H H' -> H pl = none -> H' pl = some (.lst ((twOf (rws t)).ps.map pv)) -> Q (twv (twOf (rws t)) pl) H')
  (K2 : readT t = false -> ∀ H', Ext H H' -> X "BadText" H') : CallW C ⟨n + 6, true⟩ "read" [.str t] H Q X := by
 have hz : 1000000 < sizeLine := by decide
 have G := D.G; have S := D.S
 refine Vc.xa_0_2 (spl_len nl t) fun hn hlr => ?_
 have hne := spl_ne nl t
 obtain ⟨r0, Rs, hR⟩ : ∃ r0 Rs, spl nl t = r0 :: Rs := by
  cases e : spl nl t with
  | nil => exact (hne e).elim
  | cons a b => exact ⟨a, b, rfl⟩
 have hrw := rws_e hR
 rw [hR] at hn hlr
 have h0 := hlr r0 (by simp)
 refine Vc.xa_0_2 (spl_len sp r0) fun hn0 hl0 => ?_
 have hs : ∀ r ∈ Rs, (spl sp r).length <= 1501 /\ ∀ y ∈ spl sp r, y.length <= 1500 := fun r hr => by
  have h1 := hlr r (by simp [hr])
  refine Vc.xa_0_2 (spl_len sp r) fun a b => ?_
  exact ⟨by (clear hz hn h0 hn0; omega), fun y hy => by have := b y hy; (clear hz hn h0 hn0 a; omega)⟩
 rw [List.length_cons] at hn
 have no : numsOk (rws t) = false -> ∀ H', Ext H H' -> X "BadText" H' := fun e => K2 (by unfold readT; rw [e]; rfl)
 refine D.r.call G rfl ?_
 unfold read_b
 refine SS_ife (T_not (T_call (E_call (Std.n_isinstance (by assumption)) callee_builtin (c_ess rfl (Es_cons (E_gl (Std.n_str (by assumption)) (Es_nil ?_)))))))
 refine cv_isi (k := true) S.n_str (by rfl) ?_
 refine tru_bool (if_nt (SS_app0 (SS_asg (E_meth (E_nm rfl ?_)))))
 refine ⟨_, mget_split, callee_builtin, ?_⟩
 refine Es_cons (E_cs (Es_nil ?_))
 rw [str_nl]
 refine cv_split rfl (by (clear hn h0 hn0; omega)) fun ro hro => ?_
 rw [show Txt.split t ⟨#[nl]⟩ = r0 :: Rs from hR]
 have x1 : Ext H (upd H ro (.lst ((r0 :: Rs).map .str))) := .new hro
 have r1 := upd_self H ro (.lst ((r0 :: Rs).map .str))
 generalize upd H ro (.lst ((r0 :: Rs).map .str)) = H1 at x1 r1
 refine SS_asg (E_meth (c_sub_nc rfl ?_))
 refine sub_at (i := 0) r1 (by rw [List.length_map, List.length_cons]; (clear hz h0 hn0; omega)) rfl ?_
 refine ⟨_, mget_split, callee_builtin, ?_⟩
 refine Es_cons (E_cs (Es_nil ?_))
 rw [str_sp]
 refine cv_split rfl (by (clear hn hn0; omega)) fun ho hho => ?_
 have x2 := x1.more (o := .lst ((spl sp r0).map .str)) hho
 have r2 := (Ext.new (o := .lst ((spl sp r0).map .str)) hho) _ _ r1
 have o2 := upd_self H1 ho (.lst ((spl sp r0).map .str))
 generalize upd H1 ho (.lst ((spl sp r0).map .str)) = H2 at x2 r2 o2
 clear x1 r1
 refine SS_ife (c_tcmp (E_call (Std.n_len (by assumption)) callee_builtin (c_es1 rfl ?_)))
 refine cv_len_list (items_lst o2) (by rw [List.length_map]; (clear hn; omega)) ?_
 rw [List.length_map]
 refine E_ci (cmp_ne_int (tru_bool ?_))
 by_cases h4 : (spl sp r0).length = 4
 rotate_left
 ·rw [show (!(((spl sp r0).length : Int) == 4)) = true by simp; (clear hl hz hn h0 hn0; omega)]
  refine if_t (SS_app1 ?_)
  exact SS_raisa (us := []) (D.rt rfl (no (by rw [hrw]; unfold numsOk; rw [decide_eq_false (p := ((spl sp r0 :: Rs.map (spl sp)).headD []).length = 4) h4]; rfl) _ x2))
 rw [show (!(((spl sp r0).length : Int) == 4)) = false by rw [h4]; rfl]
 refine Vc.xa_4_1 (four h4) fun w0 w1 w2 w3 hw => ?_
 refine if_f (SS_app0 (SS_asg (E_lst (Es_nil ?_))))
 refine ⟨by decide, fun pl hpl => ?_⟩
 have x3 := x2.more (o := .lst []) hpl
 have hplH := x2.gone hpl
 have r3 := (Ext.new (o := .lst []) hpl) _ _ r2
 have o3 := (Ext.new (o := .lst []) hpl) _ _ o2
 have p3 := upd_self H2 pl (.lst [])
 have nro : ro ≠ pl := fun e => by rw [e, hpl] at r2; cases r2
 have nho : ho ≠ pl := fun e => by rw [e, hpl] at o2; cases o2
 generalize upd H2 pl (.lst []) = H3 at x3 r3 o3 p3
 clear x2 r2 o2
 refine SS_for ?_
 refine E_sli (E_nm rfl (E_ci (E_cn (E_cn ?_))))
 refine sli_list (items_lst r3) (by rw [List.length_map, List.length_cons]; (clear h0 hn0 h4 nro nho; omega)) (.int 1) .none fun sl hsl => ?_
 rw [show vsl ((r0 :: Rs).map V.str) (some 1) none = Rs.map V.str from vsl_tail _ _]
 have x4 := x3.more (o := .lst (Rs.map .str)) hsl
 have s4 := upd_self H3 sl (.lst (Rs.map .str))
 have o4 := (Ext.new (o := .lst (Rs.map .str)) hsl) _ _ o3
 have p4 := (Ext.new (o := .lst (Rs.map .str)) hsl) _ _ p3
 have nsl : sl ≠ pl := fun e => by rw [e] at hsl; rw [hsl] at p3; cases p3
 generalize upd H3 sl (.lst (Rs.map .str)) = H4 at x4 s4 o4 p4
 clear x3 r3 o3 p3
 refine ⟨_, ⟨.inl rfl, fun zz zz zz e => by cases e⟩, items_lst s4, ?_⟩
 refine for_inv (P := fun i ρ' H' => (∃ u u', ρ' = [some (.str t), some (.ref ro), some (.ref ho), some (.ref pl), u, u', none]) /\ Ext H H' /\ H' sl = some (.lst (Rs.map .str)) /\ H' ho = some (.lst ((spl sp r0).map .str)) /\ H' pl = some (.lst (((Rs.take i).map fun r => partOf (spl sp r)).map pv)) /\ (Rs.take i).all (fun r => (spl sp r).tail.all figs) = true)
  ⟨⟨_, _, rfl⟩, x4, s4, o4, p4, rfl⟩ (fun i z ρ' H' R hP hz' hRR => ?_) fun ρ' H' hP => ?_
 ·refine Vc.xa_0_6 hP fun ho162_0 hx hs' ho' hp' hf => ?_
  try clear hP
  obtain ⟨u, u', rfl⟩ := ho162_0
  rw [List.getElem?_map, Option.map_eq_some_iff] at hz'
  refine Vc.xa_1_2 hz' fun r hri hr164_2 => ?_
  try clear hz'
  subst hr164_2
  have hrm := List.mem_of_getElem? hri
  have hrl := hlr r (by simp [hrm])
  refine Vc.xa_0_2 (hs r hrm) fun sl1 sl2 => ?_
  have hil := (List.getElem?_eq_some_iff.mp hri).1
  refine ⟨items_lst hs', _, rfl, ?_⟩
  show wpSs C _ _ [some (.str t), some (.ref ro), some (.ref ho), some (.ref pl), some (.str r), u', none] _ _ _
  refine SS_asg (E_meth (E_nm rfl ?_))
  refine ⟨_, mget_split, callee_builtin, ?_⟩
  refine Es_cons (E_cs (Es_nil ?_))
  rw [str_sp]
  refine cv_split rfl (by (clear hn h0 hn0 h4 nro nho nsl sl1 hil; omega)) fun wo hwo => ?_
  have y1 : Ext H' (upd H' wo (.lst ((spl sp r).map .str))) := .new hwo
  have w1' := upd_self H' wo (.lst ((spl sp r).map .str))
  generalize upd H' wo (.lst ((spl sp r).map .str)) = H5 at y1 w1'
  obtain ⟨a0, as, ha⟩ : ∃ a0 as, spl sp r = a0 :: as := by
   cases e : spl sp r with
   | nil => exact (spl_ne sp r e).elim
   | cons a b => exact ⟨a, b, rfl⟩
  rw [ha] at w1' sl1 sl2
  rw [List.length_cons] at sl1
  have nwo : wo ≠ pl := fun e => by rw [e, hp'] at hwo; cases hwo
  refine SS_exp (E_meth (E_nm rfl ?_))
  refine ⟨_, mget_append (y1 _ _ hp'), callee_builtin, ?_⟩
  refine Es_cons (E_call (Std.n_tuple (by assumption)) callee_type (Es_cons (E_bin (E_lst (Es_cons (c_sub_nc rfl ?_))))))
  refine sub_at (i := 0) w1' (by rw [List.length_map, List.length_cons]; (clear hl hz hn h0 hn0 h4 nro nho nsl hrl hil nwo; omega)) rfl ?_
  refine Es_nil ?_
  refine ⟨show 1 <= sizeLine by decide, fun c1 hc1 => ?_⟩
  have y2 := y1.more (o := .lst [.str a0]) hc1
  have w2' := (Ext.new (o := .lst [.str a0]) hc1) _ _ w1'
  have c2 := upd_self H5 c1 (.lst [.str a0])
  generalize upd H5 c1 (.lst [.str a0]) = H6 at y2 w2' c2
  refine E_comp ?_
  refine E_sli (E_nm rfl (E_ci (E_cn (E_cn ?_))))
  refine sli_list (items_lst w2') (by rw [List.length_map, List.length_cons]; (clear hl hn h0 hn0 h4 nro nho nsl hrl hil nwo; omega)) (.int 1) .none fun s2 hs2 => ?_
  rw [show vsl ((a0 :: as).map V.str) (some 1) none = as.map V.str from vsl_tail _ _]
  have y3 := y2.more (o := .lst (as.map .str)) hs2
  have c3 := (Ext.new (o := .lst (as.map .str)) hs2) _ _ c2
  have s3 := upd_self H6 s2 (.lst (as.map .str))
  generalize upd H6 s2 (.lst (as.map .str)) = H7 at y3 c3 s3
  refine ⟨_, ⟨.inl rfl, fun zz zz zz e => by cases e⟩, items_lst s3, by rw [List.length_map]; (clear hl hn h0 hn0 h4 nro nho nsl hrl hil nwo; omega), ?_⟩
  refine comp_inv (P := fun j acc H'' => acc = ((as.take j).map numOf).map .int /\ Ext H7 H'' /\ (as.take j).all figs = true) ⟨rfl, .refl _, rfl⟩ (fun j z acc H'' R' hQ hzj hR2 => ?_) fun acc H'' hQ => ⟨?_, ?_⟩
  ·refine Vc.xa_0_3 hQ fun hr206_0 xq hfj => ?_
   try clear hQ
   subst hr206_0
   rw [List.getElem?_map, Option.map_eq_some_iff] at hzj
   refine Vc.xa_1_2 hzj fun y hyj hr208_2 => ?_
   try clear hzj
   subst hr208_2
   refine ⟨items_lst (xq _ _ s3), _, rfl, ?_⟩
   refine Ts_nil (if_t ?_)
   refine E_fn D.f.fn ?_
   refine c_es1 rfl ?_
   refine number_ct (n := n + 4) G S D.rt D.g4 D.g5 D.f (by have := sl2 y (by simp [List.mem_of_getElem? hyj]); (clear hl hz hn h0 hn0 h4 nro nho nsl hrl hil sl1 nwo; omega)) (fun hy H8 x8 => hR2 _ _ ⟨?_, xq.trans x8, ?_⟩) fun hy H8 x8 => ?_
   ·rw [List.take_add_one, hyj, List.map_append, List.map_append]; rfl
   ·rw [List.take_add_one, hyj, List.all_append, hfj]; show (true && (figs y && true)) = true; rw [hy]; rfl
   ·refine no ?_ _ (((hx.trans y3).trans xq).trans x8)
    rw [hrw]
    unfold numsOk
    have : ((spl sp r0 :: Rs.map (spl sp)).tail.all fun r => r.tail.all figs) = false := by
     rw [List.all_eq_false]
     refine ⟨spl sp r, List.mem_map.mpr ⟨r, hrm, rfl⟩, ?_⟩
     rw [ha]
     show ¬ (as.all figs) = true
     intro q
     have := List.all_eq_true.mp q y (List.mem_of_getElem? hyj)
     rw [hy] at this; cases this
    rw [this, Bool.and_false]; rfl
  ·refine Vc.xa_0_3 hQ fun hr228_0 xq hfj => ?_
   try clear hQ
   subst hr228_0
   exact items_lst (xq _ _ s3)
  refine Vc.xa_0_3 hQ fun hr230_0 xq hfj => ?_
  try clear hQ
  subst hr230_0
  rw [show (as.map V.str).length = as.length from List.length_map .., List.take_length] at hfj ⊢
  refine ⟨by simp; (clear hl hn h0 hn0 h4 nro nho nsl hrl hil nwo; omega), fun c4 hc4 => ?_⟩
  refine bin_cat (items_lst ((Ext.new hc4) _ _ (xq _ _ c3))) items_new (by simp; (clear hl hn h0 hn0 h4 nro nho nsl hrl hil nwo; omega)) fun c5 hc5 => ?_
  have y5 := ((y3.trans xq).more (o := .lst ((as.map numOf).map .int)) hc4).more (o := .lst ([.str a0] ++ (as.map numOf).map .int)) hc5
  have i5 : upd (upd H'' c4 (.lst ((as.map numOf).map .int))) c5 (.lst ([.str a0] ++ (as.map numOf).map .int)) c5 = some (.lst (.str a0 :: (as.map numOf).map .int)) := by rw [upd_self]; rfl
  generalize upd (upd H'' c4 (.lst ((as.map numOf).map .int))) c5 (.lst ([.str a0] ++ (as.map numOf).map .int)) = H9 at y5 i5
  refine Es_nil ?_
  refine cv_tuple (items_lst i5) (by simp; (clear hl hn h0 hn0 h4 nro nho nsl hrl hil nwo; omega)) ?_
  refine Es_nil ?_
  refine cv_append (y5 _ _ hp') (by rw [List.length_map, List.length_map, List.length_take]; (clear h0 hn0 h4 nro nho nsl hrl hil sl1 nwo; omega)) ?_
  refine SS_nil (hRR _ _ ⟨⟨_, _, rfl⟩, (hx.trans y5).mut hplH, (upd_ne nsl).trans (y5 _ _ hs'), (upd_ne nho).trans (y5 _ _ ho'), ?_, ?_⟩)
  ·rw [upd_self, List.take_add_one, hri, List.map_append, List.map_append]
   show _ = some (O.lst (_ ++ [pv (partOf (spl sp r))]))
   rw [ha]; rfl
  ·rw [List.take_add_one, hri, List.all_append, hf]; show (true && ((spl sp r).tail.all figs && true)) = true; rw [ha]; show (true && (as.all figs && true)) = true; rw [hfj]; rfl
 ·refine Vc.xa_0_6 hP fun ho247_0 hx hs' ho' hp' hf => ?_
  try clear hP
  obtain ⟨u, u', rfl⟩ := ho247_0
  rw [List.length_map, List.take_length] at hp' hf
  refine ⟨items_lst hs', ?_⟩
  rw [hw] at ho' hrw hl0
  refine SS_asg (E_tup (Es_cons ?_))
  refine E_fn D.f.fn ?_
  refine Es_cons (c_sub_nc rfl ?_)
  refine sub_at (i := 1) ho' (show 4 <= 5000 by decide) rfl ?_
  refine Es_nil ?_
  refine number_ct (n := n + 4) G S D.rt D.g4 D.g5 D.f (by have := hl0 w1 (by simp); (clear hz hn hn0 h4 nro nho nsl; omega)) (fun h1 H8 x8 => ?_) fun h1 H8 x8 => no (by rw [hrw]; unfold numsOk; rw [show figs (([w0, w1, w2, w3] :: Rs.map (spl sp)).headD [] |>.getD 1 (Str.ofString "")) = false from h1, Bool.and_false]; rfl) _ (hx.trans x8)
  refine Es_cons ?_
  refine E_fn D.f.fn ?_
  refine Es_cons (c_sub_nc rfl ?_)
  refine sub_at (i := 3) (x8 _ _ ho') (show 4 <= 5000 by decide) rfl ?_
  refine Es_nil ?_
  refine number_ct (n := n + 4) G S D.rt D.g4 D.g5 D.f (by have := hl0 w3 (by simp); (clear hz hn hn0 h4 nro nho nsl; omega)) (fun h3 H9 x9 => ?_) fun h3 H9 x9 => no (by rw [hrw]; unfold numsOk; rw [show figs (([w0, w1, w2, w3] :: Rs.map (spl sp)).headD [] |>.getD 3 (Str.ofString "")) = false from h3, Bool.and_false]) _ ((hx.trans x8).trans x9)
  have x10 := (hx.trans x8).trans x9
  have p10 := (x8.trans x9) _ _ hp'
  have etw : twOf (rws t) = ⟨numOf w1, numOf w3, Rs.map fun r => partOf (spl sp r)⟩ := by rw [hrw]; show (⟨numOf w1, numOf w3, (Rs.map (spl sp)).map partOf⟩ : Tw) = _; rw [List.map_map]; rfl
  have enm : numsOk (rws t) = true := by
   rw [hrw]; unfold numsOk
   have : ((([w0, w1, w2, w3] : List Str) :: Rs.map (spl sp)).tail.all fun r => r.tail.all figs) = true := by show (Rs.map (spl sp)).all _ = true; rw [List.all_map]; exact hf
   rw [this, show figs (([w0, w1, w2, w3] :: Rs.map (spl sp)).headD [] |>.getD 1 (Str.ofString "")) = true from h1, show figs (([w0, w1, w2, w3] :: Rs.map (spl sp)).headD [] |>.getD 3 (Str.ofString "")) = true from h3]; rfl
  have hpl' : H9 pl = some (.lst ((twOf (rws t)).ps.map pv)) := by rw [etw]; exact p10
  clear hf hs' ho' hx x8 x9 p10 hp'
  have hwl : (twOf (rws t)).ps.length <= 2000 := by rw [etw]; show (Rs.map _).length <= 2000; rw [List.length_map]; (clear hz h0 hn0 h4 nro nho nsl; omega)
  have hwl2 : ∀ p ∈ (twOf (rws t)).ps, p.2.length <= 2000 := fun p hp => by
   rw [etw] at hp
   refine Vc.xa_1_2 (List.mem_map.mp hp) fun r hr hr275_2 => ?_
   subst hr275_2
   show ((spl sp r).tail.map numOf).length <= 2000
   rw [List.length_map, List.length_tail]
   have := (hs r hr).1; (clear hl hz hn h0 hn0 h4 nro nho nsl hwl; omega)
  have e6 : (twOf (rws t)).r = numOf w1 /\ (twOf (rws t)).i = numOf w3 := by rw [etw]; exact ⟨rfl, rfl⟩
  rw [<- e6.1, <- e6.2]
  have eR : readT t = (workOk (twOf (rws t)) && (writ (twOf (rws t)) == t)) := by unfold readT; rw [enm, Bool.true_and]
  generalize twOf (rws t) = w at hpl' hwl hwl2 K1 eR
  rw [eR] at K1 K2
  clear eR enm etw e6 hrw
  refine c_es1 rfl ?_
  refine ⟨show 3 <= sizeLine by decide, ?_⟩
  refine SS_trr ?_
  refine SS_exp (E_fn D.n.fn ?_)
  refine c_es1 rfl ?_
  refine need14_ct (n := n + 2) (w := w) G S D.rw D.g1 D.g2 D.g3 D.a D.l D.p D.n hpl' hwl hwl2 (fun hk H11 x11 => ?_) fun hk H11 x11 => ⟨true, D.xm, ?_⟩
  rotate_left
  ·rw [if_pos rfl]
   exact ⟨by decide, D.rh (K2 (by rw [hk]; rfl) _ (x10.trans x11))⟩
  have x12 := x10.trans x11
  rw [hk, Bool.true_and] at K1 K2
  refine SS_nil ?_
  dsimp only
  refine SS_ife (c_tcmp ?_)
  refine E_fn D.w.fn ?_
  refine c_es1 rfl ?_
  refine written_ct (n := n + 4) (w := w) G S D.w (gp_of hk) (x11 _ _ hpl') fun H13 x13 => ?_
  refine E_nm rfl ?_
  refine cmp_ne_str ?_
  refine tru_bool ?_
  cases he : writ w == t with
  | false =>
   rw [show (writ w != t) = true by unfold bne; rw [he]; rfl]
   refine if_t (SS_app1 ?_)
   exact SS_raisa (us := []) (D.rt rfl (K2 he _ (x12.trans x13)))
  | true =>
   rw [show (writ w != t) = false by unfold bne; rw [he]; rfl]
   refine if_f (SS_app0 (c_ret_n rfl ?_))
   exact K1 he pl _ (x12.trans x13) hplH (x13 _ _ (x11 _ _ hpl'))
end
end Vc
end
section
set_option maxHeartbeats 2000000
set_option maxRecDepth 100000
namespace Vc
open PySem PyProof.Rows
noncomputable def law_text_vs : Vs := [locv "_law_work_here", locv "_law_rows", locv "_law_part_here", locv "_law_row", locv "_law_line"]
noncomputable def law_text_b : List St :=
  [.asg 1 (.lst [(.bin .Add (.bin .Add (.bin .Add (.cs "ring ") (.call "str" [(.sub (.nm 0) (.ci 0))])) (.cs " inputs ")) (.call "str" [(.sub (.nm 0) (.ci 1))]))]),
  .for [2] (.pl (.sub (.nm 0) (.ci 2))) [.asg 3 (.sub (.nm 2) (.ci 0)),
  .for [4] (.pl (.sli (.nm 2) (.ci 1) .cn .cn)) [.asg 3 (.bin .Add (.bin .Add (.nm 3) (.cs " ")) (.call "str" [(.nm 4)]))],
  .exp (.meth (.nm 1) "append" [(.nm 3)])],
  .ret (.meth (.cs "\n") "join" [(.nm 1)])]
noncomputable def law_sign_vs : Vs := [locv "_law_cell_here", locv "_law_some"]
noncomputable def law_sign_b : List St :=
  [.asg 1 (.cs " !\"#$&'()*+,-./0123456789:;<=>?@ABCDEFGHIJKLMNOPQRSTUVWXYZ[\\]^_`abcdefghijklmnopqrstuvwxyz{|}~\n"),
  .ife (.cmp .Eq (.bin .Mod (.nm 0) (.ci 3)) (.ci 0)) [.asg 1 (.cs " 0123456789\n")] [],
  .ret (.sub (.nm 1) (.bin .Mod (.bin .FloorDiv (.nm 0) (.ci 3)) (.call "len" [(.nm 1)])))]
noncomputable def law_changed_vs : Vs := [locv "_law_text_here", locv "_law_cell_here", locv "_law_at", locv "_law_sign_here", locv "_law_rows", locv "_law_place"]
noncomputable def law_changed_b : List St :=
  [.asg 2 (.bin .Mod (.bin .FloorDiv (.nm 1) (.ci 8)) (.call "len" [(.nm 0)])),
  .asg 3 (.call "_law_sign" [(.bin .FloorDiv (.nm 1) (.ci 4096))]),
  .asg 4 (.meth (.nm 0) "split" [(.cs "\n")]),
  .ife (.cmp .Eq (.bin .Mod (.nm 1) (.ci 8)) (.ci 0)) [.ret (.bin .Add (.bin .Add (.sli (.nm 0) .cn (.nm 2) .cn) (.nm 3)) (.sli (.nm 0) (.nm 2) .cn .cn))] [],
  .ife (.cmp .Eq (.bin .Mod (.nm 1) (.ci 8)) (.ci 1)) [.ret (.bin .Add (.sli (.nm 0) .cn (.nm 2) .cn) (.sli (.nm 0) (.bin .Add (.nm 2) (.ci 1)) .cn .cn))] [],
  .ife (.cmp .Eq (.bin .Mod (.nm 1) (.ci 8)) (.ci 2)) [.ret (.bin .Add (.bin .Add (.sli (.nm 0) .cn (.nm 2) .cn) (.nm 3)) (.sli (.nm 0) (.bin .Add (.nm 2) (.ci 1)) .cn .cn))] [],
  .ife (.cmp .Eq (.bin .Mod (.nm 1) (.ci 8)) (.ci 3)) [.ret (.meth (.cs "\n") "join" [(.bin .Add (.sli (.nm 4) .cn (.ci 1) .cn) (.sli (.sli (.nm 4) (.ci 1) .cn .cn) .cn .cn (.una .USub (.ci 1))))])] [],
  .ife (.cmp .Eq (.bin .Mod (.nm 1) (.ci 8)) (.ci 4)) [.ret (.bin .Add (.bin .Add (.nm 0) (.cs "\n")) (.sub (.nm 4) (.una .USub (.ci 1))))] [],
  .ife (.cmp .Eq (.bin .Mod (.nm 1) (.ci 8)) (.ci 5)) [.asg 5 (.meth (.nm 0) "rfind" [(.cs " ")]),
  .ret (.bin .Add (.bin .Add (.sli (.nm 0) .cn (.bin .Add (.nm 5) (.ci 1)) .cn) (.cs "0")) (.sli (.nm 0) (.bin .Add (.nm 5) (.ci 1)) .cn .cn))] [],
  .ret (.sub (.lst [(.bin .Add (.nm 0) (.cs "\n")), (.cs ""), (.bin .Add (.nm 0) (.cs " ")), (.bin .Add (.cs "\n") (.nm 0)), (.sub (.nm 4) (.ci 0)), (.meth (.nm 0) "upper" [])]) (.bin .Mod (.bin .FloorDiv (.nm 1) (.ci 8)) (.ci 6)))]
noncomputable def law_numbers_vs : Vs := [locv "_law_words", locv "_law_found", locv "_law_word_here"]
noncomputable def law_numbers_b : List St :=
  [.asg 1 (.lst []),
  .for [2] (.pl (.nm 0)) [.ife (.cmp .NotIn (.nm 2) (.comp 1 (.call "str" [(.nm 3)]) (.call "range" [(.ci 100)]) [])) [.ret .cn] [],
  .exp (.meth (.nm 1) "append" [(.call "int" [(.nm 2)])])],
  .ret (.nm 1)]
theorem jn_snoc (c : Nat) (y : Str) : ∀ (x : Str) (l : List Str), jn1 c (x :: l) ++ ⟨#[c]⟩ ++ y = jn1 c (x :: (l ++ [y]))
 | x, [] => rfl
 | x, z :: l => by
  rw [jn_cons, List.cons_append, jn_cons, <- jn_snoc c y z l]
  simp only [app_assoc]
section
variable {C : Cx} {d : Md} {ρ : Lo} {H : MH} {Q : V -> MH -> Prop} {X : XP} {n : Nat} {q : Bool}
theorem ltext_ct {w : Tw} {pl : Addr} (G : C.Good) (S : Std C) (D : Def C "_law_text" law_text_vs 1 law_text_b) (g : Gp w) (hp : H pl = some (.lst (w.ps.map pv))) (K : ∀ H', Ext H H' -> Q (.str (writ w)) H') : CallW C ⟨n + 1, true⟩ "_law_text" [twv w pl] H Q X := by
 have hz : 1000000 < sizeLine := by decide
 have hplen : (w.ps.map pv).length = w.ps.length := List.length_map ..
 have hn := g.n
 have hgr := g.r; have hgi := g.i
 have lr := nstr_len (i := w.r) (by (clear hz hplen hn hgi; omega)) (by (clear hz hplen hn hgi; omega))
 have li := nstr_len (i := w.i) (by (clear hz hplen hn hgr lr; omega)) (by (clear hz hplen hn hgr lr; omega))
 have c1 : (Str.ofString "ring ").length = 5 := by decide +kernel
 have c2 : (Str.ofString " inputs ").length = 8 := by decide +kernel
 refine D.call G rfl ?_
 unfold law_text_b twv
 refine SS_asg (E_lst (Es_cons (E_bin (E_bin (E_bin (E_cs (E_call (Std.n_str (by assumption)) callee_type (Es_cons (c_sub_nc rfl ?_)))))))))
 refine sub_t0 rfl ?_
 refine Es_nil ?_
 refine cv_stri (by (clear hz hplen hn hgi lr li c1 c2; omega)) (by (clear hz hplen hn hgi lr li c1 c2; omega)) ?_
 refine bin_sadd (by rw [c1]; show 5 + (nstr w.r).length <= _; (clear hplen hn hgr hgi li c1 c2; omega)) ?_
 refine E_cs ?_
 refine bin_sadd (by rw [len_app, c1, c2]; show 5 + (nstr w.r).length + 8 <= _; (clear hplen hn hgr hgi li c1 c2; omega)) ?_
 refine E_call (Std.n_str (by assumption)) callee_type (Es_cons (c_sub_nc rfl ?_))
 refine sub_t1 rfl ?_
 refine Es_nil ?_
 refine cv_stri (by (clear hz hplen hn hgr lr li c1 c2; omega)) (by (clear hz hplen hn hgr lr li c1 c2; omega)) ?_
 refine bin_sadd (by rw [len_app, len_app, c1, c2]; show 5 + (nstr w.r).length + 8 + (nstr w.i).length <= _; (clear hplen hn hgr hgi c1 c2; omega)) ?_
 rw [show Str.ofString "ring " ++ Str.ofString (toString w.r) ++ Str.ofString " inputs " ++ Str.ofString (toString w.i) = jn1 sp (headOf w) from head_row w]
 refine Es_nil ?_
 refine ⟨show 1 <= sizeLine by decide, fun ro hro => ?_⟩
 refine SS_for ?_
 refine c_sub_nc rfl ?_
 refine sub_t2 rfl ?_
 have x0 : Ext H (upd H ro (.lst [.str (jn1 sp (headOf w))])) := .new hro
 refine ⟨_, ⟨.inl rfl, fun zz zz zz e => by cases e⟩, items_lst (x0 _ _ hp), ?_⟩
 refine for_inv (P := fun i ρ' H' => (∃ u u' u'', ρ' = [some (.tup [.int w.r, .int w.i, .ref pl]), some (.ref ro), u, u', u'']) /\ Ext H H' /\ H' ro = some (.lst ((jn1 sp (headOf w) :: (w.ps.take i).map fun p => jn1 sp (wordsOf p)).map .str))) ⟨⟨_, _, _, rfl⟩, x0, upd_self ..⟩
  (fun i z ρ' H' R hP hz' hRR => ?_) fun ρ' H' hP => ?_
 ·refine Vc.xa_0_3 hP fun ho81_0 hx hr => ?_
  try clear hP
  obtain ⟨u, u', u'', rfl⟩ := ho81_0
  rw [List.getElem?_map, Option.map_eq_some_iff] at hz'
  refine Vc.xa_1_2 hz' fun p hpi hr83_2 => ?_
  try clear hz'
  subst hr83_2
  have hpm := List.mem_of_getElem? hpi
  refine Vc.xa_0_5 (g.p p hpm) fun q1 q2 q3 q4 q5 => ?_
  refine Vc.xa_0_2 (g.words hpm) fun wl wn => ?_
  have hlen : (V.str p.1 :: p.2.map V.int).length = p.2.length + 1 := by rw [List.length_cons, List.length_map]
  refine ⟨items_lst (hx _ _ hp), _, rfl, ?_⟩
  show wpSs C _ _ [some (.tup [.int w.r, .int w.i, .ref pl]), some (.ref ro), some (.tup (.str p.1 :: p.2.map .int)), u', u''] _ _ _
  refine SS_asg (c_sub_nc rfl ?_)
  refine sub_h (by rw [List.length_map]; (clear hz hplen hn hgr hgi lr li c1 c2 q1 q3 q4 wn hlen; omega)) ?_
  refine SS_for ?_
  refine E_sli (E_nm rfl (E_ci (E_cn (E_cn ?_))))
  refine sli_tup (lo := some 1) (hi := none) (a := 1) (b := (V.str p.1 :: p.2.map V.int).length) (.int 1) .none (adj_from1 (by rw [hlen]; (clear hz hplen hn hgr hgi lr li c1 c2 q1 q2 q3 q4 wn hlen; omega))) (Nat.le_refl _) (by rw [hlen]; (clear hplen hn hgr hgi lr li c1 c2 q1 q3 q4 wn hlen; omega)) ?_
  rw [show ((V.str p.1 :: p.2.map V.int).drop 1).take ((V.str p.1 :: p.2.map V.int).length - 1) = p.2.map V.int by rw [List.drop_one, List.tail_cons, hlen, Nat.add_sub_cancel]; exact List.take_of_length_le (by rw [List.length_map]; exact Nat.le_refl _)]
  refine ⟨_, ⟨.inl rfl, fun zz zz zz e => by cases e⟩, rfl, ?_⟩
  refine for_inv (P := fun j ρ' H'' => (∃ u, ρ' = [some (.tup [.int w.r, .int w.i, .ref pl]), some (.ref ro), some (.tup (.str p.1 :: p.2.map .int)), some (.str (jn1 sp (p.1 :: (p.2.take j).map nstr))), u]) /\ H' = H'') ⟨⟨_, rfl⟩, rfl⟩
   (fun j z ρ' H'' R' hQ hzj hR2 => ?_) fun ρ' H'' hQ => ?_
  ·refine Vc.xa_0_2 hQ fun ho100_0 hr100_1 => ?_
   try clear hQ
   obtain ⟨u, rfl⟩ := ho100_0
   subst hr100_1
   rw [List.getElem?_map, Option.map_eq_some_iff] at hzj
   refine Vc.xa_1_2 hzj fun y hyj hr102_2 => ?_
   try clear hzj
   subst hr102_2
   have hy := q5 y (List.mem_of_getElem? hyj)
   have hyl := nstr_len hy.1 hy.2
   have hjl : (jn1 sp (p.1 :: (p.2.take j).map nstr)).length <= 100 := by
    have h1 : ∀ x ∈ p.1 :: (p.2.take j).map nstr, x.length <= 4 := fun x hx => by
     rcases List.mem_cons.mp hx with rfl | hx
     ·exact q1
     ·refine Vc.xa_1_2 (List.mem_map.mp hx) fun l hl hr109_2 => ?_
      subst hr109_2
      have := nstr_len (q5 l (List.mem_of_mem_take hl)).1 (q5 l (List.mem_of_mem_take hl)).2
      (clear hz hplen hn hgr hgi lr li c1 c2 q1 q2 q3 q4 wn hlen hy hyl; omega)
    have h2 := jn_le (c := sp) h1
    have h3 : (p.1 :: (p.2.take j).map nstr).length <= 4 := by rw [List.length_cons, List.length_map, List.length_take]; (clear hz hplen hn hgr hgi lr li c1 c2 q1 q3 q4 wn hlen hy hyl h2; omega)
    have : (p.1 :: (p.2.take j).map nstr).length * 5 <= 20 := by (clear hz hplen hn hgr hgi lr li c1 c2 q1 q2 q3 q4 wn hlen hy hyl h2; omega)
    (clear hz hplen hn hgr hgi lr li c1 c2 q1 q2 q3 q4 wn hlen hy hyl h3; omega)
   have csp : (⟨#[sp]⟩ : Str).length = 1 := rfl
   refine ⟨rfl, _, rfl, ?_⟩
   show wpSs C _ _ [some (.tup [.int w.r, .int w.i, .ref pl]), some (.ref ro), some (.tup (.str p.1 :: p.2.map .int)), some (.str (jn1 sp (p.1 :: (p.2.take j).map nstr))), some (.int y)] _ _ _
   refine SS_asg (E_bin (E_bin (E_nm rfl (E_cs ?_))))
   rw [str_sp]
   refine bin_sadd (by rw [csp]; (clear hplen hn hgr hgi lr li c1 c2 q1 q2 q3 q4 wn hlen hy hyl csp; omega)) ?_
   refine E_call (Std.n_str (by assumption)) callee_type (c_es1 rfl ?_)
   refine cv_stri (by (clear hz hplen hn hgr hgi lr li c1 c2 q1 q2 q3 q4 wn hlen hyl hjl csp; omega)) (by (clear hz hplen hn hgr hgi lr li c1 c2 q1 q2 q3 q4 wn hlen hyl hjl csp; omega)) ?_
   refine bin_sadd (by rw [len_app, csp]; show _ + 1 + (nstr y).length <= _; (clear hplen hn hgr hgi lr li c1 c2 q1 q2 q3 q4 wn hlen hy csp; omega)) ?_
   refine SS_nil (hR2 _ _ ⟨⟨some (.int y), ?_⟩, rfl⟩)
   rw [List.take_add_one, hyj, List.map_append]
   show [_, _, _, some (V.str (jn1 sp (p.1 :: (p.2.take j).map nstr) ++ ⟨#[sp]⟩ ++ nstr y)), _] = _
   rw [jn_snoc]; rfl
  ·refine Vc.xa_0_2 hQ fun ho130_0 hr130_1 => ?_
   try clear hQ
   obtain ⟨u, rfl⟩ := ho130_0
   subst hr130_1
   rw [List.length_map, List.take_length]
   refine ⟨rfl, ?_⟩
   refine SS_exp (E_meth (E_nm rfl ?_))
   refine ⟨_, mget_append hr, callee_builtin, ?_⟩
   refine c_es1 rfl ?_
   refine cv_append hr (by rw [List.length_map, List.length_cons, List.length_map, List.length_take]; (clear hplen hgr hgi lr li c1 c2 q1 q2 q3 q4 wn hlen; omega)) ?_
   refine SS_nil (hRR _ _ ⟨⟨_, _, _, rfl⟩, hx.mut hro, ?_⟩)
   rw [upd_self, List.take_add_one, hpi]
   congr 2
   rw [List.map_append, <- List.cons_append, List.map_append]; rfl
 ·refine Vc.xa_0_3 hP fun ho142_0 hx hr => ?_
  try clear hP
  obtain ⟨u, u', u'', rfl⟩ := ho142_0
  rw [hplen, List.take_length] at hr
  refine ⟨items_lst (hx _ _ hp), ?_⟩
  refine SS_ret (E_meth (E_cs ?_))
  refine ⟨_, mget_join, callee_builtin, ?_⟩
  refine c_es1 rfl ?_
  have hr' : H' ro = some (.lst (((rowsOf w).map (jn1 sp)).map .str)) := by
   rw [hr]; show _ = some (O.lst ((jn1 sp (headOf w) :: (w.ps.map wordsOf).map (jn1 sp)).map V.str)); rw [List.map_map]; rfl
  have e : ((rowsOf w).map (jn1 sp)).length = w.ps.length + 1 := by rw [List.length_map]; show (headOf w :: w.ps.map wordsOf).length = _; rw [List.length_cons, List.length_map]
  rw [str_nl]
  refine cv_join (items_lst hr') (joinOk_of g.rows (by (clear hz hplen hgr hgi lr li c1 c2; omega))) ?_
  rw [join_is]
  exact K _ hx
noncomputable def signs1 : Str := Str.ofString " !\"#$&'()*+,-./0123456789:;<=>?@ABCDEFGHIJKLMNOPQRSTUVWXYZ[\\]^_`abcdefghijklmnopqrstuvwxyz{|}~\n"
noncomputable def signs2 : Str := Str.ofString " 0123456789\n"
theorem signs_ok : signs1.cps.toList.all (fun c => decide (c < 128)) = true /\ signs2.cps.toList.all (fun c => decide (c < 128)) = true /\ 1 <= signs1.length /\ signs1.length <= 200 /\ 1 <= signs2.length /\ signs2.length <= 200 := by decide +kernel
theorem sign_ct {c : Int} (G : C.Good) (D : Def C "_law_sign" law_sign_vs 1 law_sign_b) (S : Std C) (hc : 0 <= c) (K : ∀ x : Str, Asc x -> x.length = 1 -> Q (.str x) H) : CallW C ⟨n + 1, true⟩ "_law_sign" [.int c] H Q X := by
 have hz : 1000000 < sizeLine := by decide
 refine D.call G rfl ?_
 unfold law_sign_b
 refine SS_asg (E_cs ?_)
 refine SS_join (J := fun ρ' H' => ∃ x : Str, (Asc x /\ 1 <= x.length /\ x.length <= 200) /\ ρ' = [some (.int c), some (.str x)] /\ H' = H) (fun ρ' H' hJ => ?_) fun R hR => ?_
 rotate_left
 ·refine c_tcmp (c_bin_nc rfl ?_)
  refine bin_modp (by decide) ?_
  refine E_ci (cmp_eq_int (tru_bool ?_))
  split
  ·refine SS_asg (E_cs ?_)
   exact SS_nil (hR _ _ ⟨signs2, ⟨fun c hc => of_decide_eq_true (List.all_eq_true.mp signs_ok.2.1 c hc), signs_ok.2.2.2.2.1, signs_ok.2.2.2.2.2⟩, rfl, rfl⟩)
  ·exact SS_nil (hR _ _ ⟨signs1, ⟨fun c hc => of_decide_eq_true (List.all_eq_true.mp signs_ok.1 c hc), signs_ok.2.2.1, signs_ok.2.2.2.1⟩, rfl, rfl⟩)
 refine Vc.xa_1_3 hJ fun x ho174_1 hr174_2 hr174_3 => ?_
 try clear hJ
 obtain ⟨ha, hl1, hl2⟩ := ho174_1
 subst hr174_2
 subst hr174_3
 refine SS_ret (E_sub (E_nm rfl (E_bin (c_bin_nc rfl ?_))))
 refine bin_divp (by decide) (by decide) ?_
 refine E_call (Std.n_len (by assumption)) callee_builtin (c_es1 rfl ?_)
 refine cv_lens (by (clear hc hl1; omega)) ?_
 refine bin_modp (by (clear hc hz hl2; omega)) ?_
 have h1 := Int.emod_nonneg (c / 3) (show (x.length : Int) ≠ 0 by (clear hc hz hl2; omega))
 have h2 := Int.emod_lt_of_pos (c / 3) (show 0 < (x.length : Int) by (clear hc hz hl2 h1; omega))
 generalize c / 3 % (x.length : Int) = j at h1 h2
 refine Vc.xa_1_1 (Int.eq_ofNat_of_zero_le h1) fun k hr184_1 => ?_
 subst hr184_1
 have hk : k < x.cps.size := by show k < x.length; (clear hc hz hl1 hl2 h1; omega)
 refine sub_str (j := k) (c := x.cps[k]) ?_ (by (clear hc hz hl1 h1 hk; omega)) (by rw [Array.getElem?_eq_getElem hk]) (K _ (fun c hc => ?_) rfl)
 ·have e : ¬ ((k : Int) < 0) := by (clear hc hz hl1 hl2 h1 h2 hk; omega)
  simp only [seqIndex?, if_neg e]
  rw [if_pos (by simp; (clear hc hz hl1 hl2 h1 hk e; omega))]
  rfl
 ·rw [show (#[x.cps[k]] : Array Nat).toList = [x.cps[k]] from rfl, List.mem_singleton] at hc
  subst hc
  exact ha _ (by simp)
theorem sub_any {a : Addr} {l : List V} {i : Int} (h : H a = some (.lst l)) (hl : l.length <= 5000) (h0 : 0 <= i) (h1 : i < l.length) (q : ∀ x ∈ l, Q x H) : SubW C d (.ref a) (.int i) H Q X := by
 refine Vc.xa_1_1 (Int.eq_ofNat_of_zero_le h0) fun k hr196_1 => ?_
 subst hr196_1
 have hk : k < l.length := by (clear hl h0; omega)
 exact sub_at h hl (List.getElem?_eq_getElem hk) (q _ (List.getElem_mem hk))
theorem Asc.sub {x y : Str} (hx : Asc x) (h : ∀ c ∈ y.cps.toList, c ∈ x.cps.toList) : Asc y := fun c hc => hx c (h c hc)
theorem asc_nl : Asc ⟨#[nl]⟩ := fun c hc => by rw [show (#[nl] : Array Nat).toList = [nl] from rfl, List.mem_singleton] at hc; subst hc; decide
theorem asc_sp : Asc ⟨#[sp]⟩ := fun c hc => by rw [show (#[sp] : Array Nat).toList = [sp] from rfl, List.mem_singleton] at hc; subst hc; decide
theorem asc_0 : Asc (Str.ofString "0") /\ (Str.ofString "0").length = 1 /\ Asc (Str.ofString "") /\ (Str.ofString "").length = 0 := by
 refine ⟨fun c hc => ?_, by decide +kernel, fun c hc => ?_, by decide +kernel⟩
 ·have : (Str.ofString "0").cps.toList.all (fun c => decide (c < 128)) = true := by decide +kernel
  exact of_decide_eq_true (List.all_eq_true.mp this c hc)
 ·have : (Str.ofString "").cps.toList.all (fun c => decide (c < 128)) = true := by decide +kernel
  exact of_decide_eq_true (List.all_eq_true.mp this c hc)
theorem asc_spl {c : Nat} {x : Str} (hx : Asc x) : ∀ y ∈ spl c x, Asc y := fun y hy k hk => by
 have h : Str.join ⟨#[c]⟩ (spl c x) = x := StrLaws.join_split x ⟨#[c]⟩
 refine hx k ?_
 rw [<- h, join_jn]
 have go : ∀ (l : List (List Nat)) (p : List Nat), p ∈ l -> k ∈ p -> k ∈ jn c l := by
  intro l
  induction l with
  | nil => intro p hp; cases hp
  | cons a l ih =>
   intro p hp hk
   cases l with
   | nil =>
    rw [List.mem_singleton] at hp; subst hp; exact hk
   | cons b l =>
    show k ∈ a ++ c :: jn c (b :: l)
    rcases List.mem_cons.mp hp with rfl | hp
    ·exact List.mem_append_left _ hk
    ·exact List.mem_append_right _ (List.mem_cons_of_mem _ (ih p hp hk))
 exact go _ y.cps.toList (List.mem_map.mpr ⟨y, hy, rfl⟩) hk
theorem asc_jn {c : Nat} (hc : c < 128) {ws : List Str} (h : ∀ w ∈ ws, Asc w) : Asc (jn1 c ws) := fun k hk => by
 unfold jn1 at hk
 rw [join_jn] at hk
 rcases jn_mem hk with rfl | ⟨p, h1, h2⟩
 ·exact hc
 ·refine Vc.xa_1_2 (List.mem_map.mp h1) fun w hw hr232_2 => ?_
  subst hr232_2
  exact h w hw k h2
theorem seq_last' {n : Nat} (h : 0 < n) : seqIndex? (-1) n = some (n - 1) := by
 have e : (-1 : Int) < 0 := by decide
 simp only [seqIndex?, if_pos e]
 rw [if_pos (by simp; (clear e; omega))]
 congr 1; (clear h e; omega)
theorem fm_map (rs : List Str) : ∀ js : List Nat, js.filterMap ((rs.map V.str)[·]?) = (js.filterMap (rs[·]?)).map V.str
 | [] => rfl
 | j :: js => by
  rw [List.filterMap_cons, List.filterMap_cons, fm_map rs js, List.getElem?_map]
  cases rs[j]? <;> rfl
theorem vsl_one (a : V) (l : List V) : vsl (a :: l) none (some 1) = [a] := by
 unfold vsl
 simp only [Option.elim]
 rw [show (1 : Int) = ((1 : Nat) : Int) from rfl, clipAt_nat, show min 1 (a :: l).length = 1 by simp]
 rfl
theorem changed_ct {t : Str} {c : Int} (G : C.Good) (S : Std C) (Ds : Def C "_law_sign" law_sign_vs 1 law_sign_b) (D : Def C "_law_changed" law_changed_vs 2 law_changed_b) (hA : Asc t) (h1 : 1 <= t.length) (hl : t.length <= 500) (hB : (spl nl t).length <= 11 /\ ∀ y ∈ spl nl t, y.length <= 40) (hc : 0 <= c)
  (K : ∀ y H', Ext H H' -> Asc y -> y.length <= 1500 -> Q (.str y) H') : CallW C ⟨n + 2, true⟩ "_law_changed" [.str t, .int c] H Q X := by
 have hz : 1000000 < sizeLine := by decide
 have lnl : (⟨#[nl]⟩ : Str).length = 1 := rfl
 have lsp : (⟨#[sp]⟩ : Str).length = 1 := rfl
 refine Vc.xa_0_2 (spl_len nl t) fun hn hlr => ?_
 have har := asc_spl (c := nl) hA
 refine D.call G rfl ?_
 unfold law_changed_b
 refine SS_asg (E_bin (c_bin_nc rfl ?_))
 refine bin_divp (by decide) (by decide) ?_
 refine E_call (Std.n_len (by assumption)) callee_builtin (c_es1 rfl ?_)
 refine cv_lens (by (clear h1 hB hc lnl lsp hn; omega)) ?_
 refine bin_modp (by (clear hl hB hc hz lnl lsp hn; omega)) ?_
 have g1 := Int.emod_nonneg (c / 8) (show (t.length : Int) ≠ 0 by (clear hl hB hc hz lnl lsp hn; omega))
 have g2 := Int.emod_lt_of_pos (c / 8) (show 0 < (t.length : Int) by (clear hl hB hc hz lnl lsp hn g1; omega))
 generalize c / 8 % (t.length : Int) = j at g1 g2
 refine SS_asg ?_
 refine E_fn Ds.fn ?_
 refine Es_cons (c_bin_nc rfl ?_)
 refine bin_divp (by decide) (by decide) ?_
 refine Es_nil ?_
 refine sign_ct (n := n) G Ds S (by (clear h1 hl hB hz lnl lsp hn g1 g2; omega)) fun sg hsa hsl => ?_
 refine SS_asg (E_meth (E_nm rfl ?_))
 refine ⟨_, mget_split, callee_builtin, ?_⟩
 refine Es_cons (E_cs (Es_nil ?_))
 rw [str_nl]
 refine cv_split rfl (by (clear h1 hB hc lnl lsp hn g1 g2 hsl; omega)) fun ro hro => ?_
 have x1 : Ext H (upd H ro (.lst ((spl nl t).map .str))) := .new hro
 have r1 := upd_self H ro (.lst ((spl nl t).map .str))
 generalize upd H ro (.lst ((spl nl t).map .str)) = H1 at x1 r1
 have hrl : ((spl nl t).map V.str).length <= 5000 := by rw [List.length_map]; (clear h1 hl hc hz lnl lsp hn g1 g2 hsl; omega)
 have cut : ∀ {d : Md} {vl vu : V} {lo hi : Option Int} {Q : V -> MH -> Prop} {X : XP}, Prt vl lo -> Prt vu hi -> (∀ y, Asc y -> y.length <= t.length -> Q (.str y) H1) -> SliW C d (.str t) vl vu .none H1 Q X := fun pl pu k => sli_str pl pu (by (clear h1 hB hc lnl lsp hn g1 g2 hsl hrl; omega)) fun y hy hyl => k y (hA.sub hy) hyl
 refine SS_ife (c_tcmp (c_bin_nc rfl ?_))
 refine bin_modp (by decide) ?_
 refine E_ci (cmp_eq_int (tru_bool ?_))
 split
 ·refine SS_app1 (SS_ret (E_bin (E_bin (E_sli (E_nm rfl (E_cn (E_nm rfl (E_cn ?_))))))))
  refine cut .none (.int _) fun y1 a1 l1 => ?_
  refine E_nm rfl ?_
  refine bin_sadd (by (clear h1 hB hc lnl lsp hn g1 g2 hrl; omega)) ?_
  refine E_sli (E_nm rfl (E_nm rfl (E_cn (E_cn ?_))))
  refine cut (.int _) .none fun y2 a2 l2 => ?_
  refine bin_sadd (by rw [len_app]; (clear h1 hB hc lnl lsp hn g1 g2 hrl; omega)) ?_
  exact K _ _ x1 ((a1.app hsa).app a2) (by rw [len_app, len_app]; (clear h1 hB hc hz lnl lsp hn g1 g2 hrl; omega))
 refine SS_app0 (SS_ife (c_tcmp (c_bin_nc rfl ?_)))
 refine bin_modp (by decide) ?_
 refine E_ci (cmp_eq_int (tru_bool ?_))
 split
 ·refine SS_app1 (SS_ret (E_bin (E_sli (E_nm rfl (E_cn (E_nm rfl (E_cn ?_)))))))
  refine cut .none (.int _) fun y1 a1 l1 => ?_
  refine E_sli (E_nm rfl (c_bin_nc rfl (bin_add (E_cn (E_cn ?_)))))
  refine cut (.int _) .none fun y2 a2 l2 => ?_
  refine bin_sadd (by (clear h1 hB hc lnl lsp hn g1 g2 hsl hrl; omega)) ?_
  exact K _ _ x1 (a1.app a2) (by rw [len_app]; (clear h1 hB hc hz lnl lsp hn g1 g2 hsl hrl; omega))
 refine SS_app0 (SS_ife (c_tcmp (c_bin_nc rfl ?_)))
 refine bin_modp (by decide) ?_
 refine E_ci (cmp_eq_int (tru_bool ?_))
 split
 ·refine SS_app1 (SS_ret (E_bin (E_bin (E_sli (E_nm rfl (E_cn (E_nm rfl (E_cn ?_))))))))
  refine cut .none (.int _) fun y1 a1 l1 => ?_
  refine E_nm rfl ?_
  refine bin_sadd (by (clear h1 hB hc lnl lsp hn g1 g2 hrl; omega)) ?_
  refine E_sli (E_nm rfl (c_bin_nc rfl (bin_add (E_cn (E_cn ?_)))))
  refine cut (.int _) .none fun y2 a2 l2 => ?_
  refine bin_sadd (by rw [len_app]; (clear h1 hB hc lnl lsp hn g1 g2 hrl; omega)) ?_
  exact K _ _ x1 ((a1.app hsa).app a2) (by rw [len_app, len_app]; (clear h1 hB hc hz lnl lsp hn g1 g2 hrl; omega))
 refine SS_app0 (SS_ife (c_tcmp (c_bin_nc rfl ?_)))
 refine bin_modp (by decide) ?_
 refine E_ci (cmp_eq_int (tru_bool ?_))
 split
 ·obtain ⟨r0, Rs, hR⟩ : ∃ r0 Rs, spl nl t = r0 :: Rs := by
   cases e : spl nl t with
   | nil => exact (spl_ne nl t e).elim
   | cons a b => exact ⟨a, b, rfl⟩
  rw [hR] at r1 hn hlr har hB
  rw [List.length_cons] at hn hB
  refine SS_app1 (SS_ret (E_meth (E_cs ?_)))
  refine ⟨_, mget_join, callee_builtin, ?_⟩
  refine Es_cons (E_bin (E_sli (E_nm rfl (E_cn (E_ci (E_cn ?_))))))
  refine sli_list (items_lst r1) (by rw [List.length_map, List.length_cons]; (clear h1 hl hc lnl lsp g1 g2 hsl hrl hn; omega)) .none (.int 1) fun c1 hc1 => ?_
  rw [show vsl ((r0 :: Rs).map V.str) none (some 1) = [.str r0] from vsl_one _ _]
  have x2 := x1.more (o := .lst [.str r0]) hc1
  have r2 := (Ext.new (o := .lst [.str r0]) hc1) _ _ r1
  have i2 := upd_self H1 c1 (.lst [.str r0])
  generalize upd H1 c1 (.lst [.str r0]) = H2 at x2 r2 i2
  refine E_sli (E_sli (E_nm rfl (E_ci (E_cn (E_cn ?_)))))
  refine sli_list (items_lst r2) (by rw [List.length_map, List.length_cons]; (clear h1 hl hc lnl lsp g1 g2 hsl hrl hn; omega)) (.int 1) .none fun c2 hc2 => ?_
  rw [show vsl ((r0 :: Rs).map V.str) (some 1) none = Rs.map V.str from vsl_tail _ _]
  have x3 := x2.more (o := .lst (Rs.map .str)) hc2
  have i3 := (Ext.new (o := .lst (Rs.map .str)) hc2) _ _ i2
  have j3 := upd_self H2 c2 (.lst (Rs.map .str))
  generalize upd H2 c2 (.lst (Rs.map .str)) = H3 at x3 i3 j3
  refine E_cn (E_cn (E_una (E_ci (una_neg ?_))))
  refine sli_rev (items_lst j3) (by rw [List.length_map]; (clear h1 hl hc lnl lsp g1 g2 hsl hrl hn; omega)) fun c3 js hc3 hjl => ?_
  rw [fm_map] at hjl ⊢
  rw [List.length_map, List.length_map] at hjl
  have hsub : ∀ y ∈ js.filterMap (Rs[·]?), y ∈ r0 :: Rs := fun y hy => by
   refine Vc.xa_1_2 (List.mem_filterMap.mp hy) fun k zz e => ?_
   exact List.mem_cons_of_mem _ (List.mem_of_getElem? e)
  generalize js.filterMap (Rs[·]?) = Rv at hjl hsub
  refine bin_cat (items_lst ((Ext.new hc3) _ _ i3)) items_new (by simp; (clear h1 hl hc lnl lsp g1 g2 hsl hrl hn; omega)) fun c4 hc4 => ?_
  have x4 := (x3.more (o := .lst (Rv.map .str)) hc3).more (o := .lst ([.str r0] ++ Rv.map .str)) hc4
  have i4 : upd (upd H3 c3 (.lst (Rv.map .str))) c4 (.lst ([.str r0] ++ Rv.map .str)) c4 = some (.lst ((r0 :: Rv).map .str)) := by rw [upd_self]; rfl
  generalize upd (upd H3 c3 (.lst (Rv.map .str))) c4 (.lst ([.str r0] ++ Rv.map .str)) = H4 at x4 i4
  refine Es_nil ?_
  rw [str_nl]
  have hb : ∀ y ∈ r0 :: Rv, y.length <= t.length := fun y hy => by
   rcases List.mem_cons.mp hy with rfl | hy
   ·exact hlr _ (by simp)
   ·exact hlr y (hsub y hy)
  have hsum : (jn1 nl (r0 :: Rv)).length <= 1500 := by
   have h2 := jn_le (c := nl) (B := 40) (ws := r0 :: Rv) fun y hy => by
    rcases List.mem_cons.mp hy with rfl | hy
    ·exact hB.2 _ (by simp)
    ·exact hB.2 y (hsub y hy)
   have h3 : (r0 :: Rv).length <= 11 := by rw [List.length_cons]; (clear h1 hl hc hz lnl lsp g1 g2 hsl hrl hn h2; omega)
   have h4 := Nat.mul_le_mul_right 41 h3
   (clear h1 hl hc hz lnl lsp g1 g2 hsl hrl hB hn hjl h3; omega)
  refine cv_join (items_lst i4) (joinOk_of (B := 500) (fun y hy => by have := hb y hy; (clear h1 hc hz lnl lsp g1 g2 hsl hrl hB hn hjl hsum; omega)) (by rw [List.length_cons]; (clear h1 hl hc hz lnl lsp g1 g2 hsl hrl hn hsum; omega))) ?_
  rw [join_is]
  refine K _ _ x4 (asc_jn (by decide) fun y hy => ?_) hsum
  rcases List.mem_cons.mp hy with rfl | hy
  ·exact har _ (by simp)
  ·exact har y (hsub y hy)
 refine SS_app0 (SS_ife (c_tcmp (c_bin_nc rfl ?_)))
 refine bin_modp (by decide) ?_
 refine E_ci (cmp_eq_int (tru_bool ?_))
 split
 ·refine SS_app1 (SS_ret (E_bin (E_bin (E_nm rfl (E_cs ?_)))))
  rw [str_nl]
  refine bin_sadd (by (clear h1 hB hc lsp hn g1 g2 hsl hrl; omega)) ?_
  refine E_sub (E_nm rfl (E_una (E_ci (una_neg ?_))))
  have hne : 0 < (spl nl t).length := List.length_pos_iff.mpr (spl_ne nl t)
  have hlt : (spl nl t).length - 1 < (spl nl t).length := by (clear h1 hl hB hc hz lnl lsp hn g1 g2 hsl hrl; omega)
  refine sub_list (items_lst r1) (by rw [List.length_map]; (clear h1 hl hc lnl lsp hn g1 g2 hsl hrl hne hlt; omega)) (j := (spl nl t).length - 1) (x := .str (spl nl t)[(spl nl t).length - 1]) (by rw [List.length_map]; exact seq_last' hne) (by rw [List.getElem?_map, List.getElem?_eq_getElem hlt]; rfl) ?_
  have hm := List.getElem_mem hlt
  generalize (spl nl t)[(spl nl t).length - 1] = y at hm
  have := hlr y hm
  refine bin_sadd (by rw [len_app, lnl]; (clear h1 hB hc lnl lsp hn g1 g2 hsl hrl hne hlt; omega)) ?_
  exact K _ _ x1 ((hA.app asc_nl).app (har y hm)) (by rw [len_app, len_app, lnl]; (clear h1 hB hc hz lnl lsp hn g1 g2 hsl hrl hne hlt; omega))
 refine SS_app0 (SS_ife (c_tcmp (c_bin_nc rfl ?_)))
 refine bin_modp (by decide) ?_
 refine E_ci (cmp_eq_int (tru_bool ?_))
 split
 ·refine SS_app1 (SS_asg (E_meth (E_nm rfl ?_)))
  refine ⟨_, mget_rfind, callee_builtin, ?_⟩
  refine Es_cons (E_cs (Es_nil ?_))
  refine cv_rfind fun i hi1 hi2 => ?_
  refine SS_app1 (SS_ret (E_bin (E_bin (E_sli (E_nm rfl (E_cn (c_bin_nc rfl (bin_add (E_cn ?_)))))))))
  refine cut .none (.int _) fun y1 a1 l1 => ?_
  refine E_cs ?_
  refine bin_sadd (by rw [asc_0.2.1]; (clear h1 hB hc lnl lsp hn g1 g2 hsl hrl hi1 hi2; omega)) ?_
  refine E_sli (E_nm rfl (c_bin_nc rfl (bin_add (E_cn (E_cn ?_)))))
  refine cut (.int _) .none fun y2 a2 l2 => ?_
  refine bin_sadd (by rw [len_app, asc_0.2.1]; (clear h1 hB hc lnl lsp hn g1 g2 hsl hrl hi1 hi2; omega)) ?_
  exact K _ _ x1 ((a1.app asc_0.1).app a2) (by rw [len_app, len_app, asc_0.2.1]; (clear h1 hB hc hz lnl lsp hn g1 g2 hsl hrl hi1 hi2; omega))
 refine SS_app0 (SS_ret (E_sub (E_lst (Es_cons (E_bin (E_nm rfl (E_cs ?_)))))))
 rw [str_nl]
 refine bin_sadd (by (clear h1 hB hc lsp hn g1 g2 hsl hrl; omega)) ?_
 refine Es_cons (E_cs (Es_cons (E_bin (E_nm rfl (E_cs ?_)))))
 rw [str_sp]
 refine bin_sadd (by (clear h1 hB hc lnl hn g1 g2 hsl hrl; omega)) ?_
 refine Es_cons (E_bin (E_cs (E_nm rfl ?_)))
 rw [str_nl]
 refine bin_sadd (by (clear h1 hB hc lsp hn g1 g2 hsl hrl; omega)) ?_
 refine Es_cons (c_sub_nc rfl ?_)
 obtain ⟨r0, Rs, hR⟩ : ∃ r0 Rs, spl nl t = r0 :: Rs := by
  cases e : spl nl t with
  | nil => exact (spl_ne nl t e).elim
  | cons a b => exact ⟨a, b, rfl⟩
 rw [hR] at r1 hn hlr har hrl
 refine sub_at (i := 0) r1 hrl rfl ?_
 refine Es_cons (E_meth (E_nm rfl ?_))
 refine ⟨_, mget_upper, callee_builtin, ?_⟩
 refine Es_nil ?_
 refine cv_upper hA (by (clear h1 hB hc hz lnl lsp g1 g2 hsl hrl hn; omega)) fun u hu hul => ?_
 refine Es_nil ?_
 refine ⟨show 6 <= sizeLine by decide, fun c1 hc1 => ?_⟩
 refine E_bin (c_bin_nc rfl ?_)
 refine bin_divp (by decide) (by decide) ?_
 refine E_ci ?_
 refine bin_modp (by decide) ?_
 have k1 := Int.emod_nonneg (c / 8) (show (6 : Int) ≠ 0 by decide)
 have k2 := Int.emod_lt_of_pos (c / 8) (show (0 : Int) < 6 by decide)
 refine sub_any (upd_self ..) (show 6 <= 5000 by decide) k1 k2 fun z hz' => ?_
 have x2 := x1.more (o := .lst [.str (t ++ ⟨#[nl]⟩), .str (Str.ofString ""), .str (t ++ ⟨#[sp]⟩), .str (⟨#[nl]⟩ ++ t), .str r0, .str u]) hc1
 have h0 := hlr r0 (by simp)
 simp only [List.mem_cons, List.not_mem_nil, or_false] at hz'
 rcases hz' with rfl | rfl | rfl | rfl | rfl | rfl
 ·exact K _ _ x2 (hA.app asc_nl) (by rw [len_app, lnl]; (clear h1 hB hc hz lnl lsp g1 g2 hsl hrl hn hul k1 k2 h0; omega))
 ·exact K _ _ x2 asc_0.2.2.1 (by rw [asc_0.2.2.2]; (clear h1 hl hB hc hz lnl lsp g1 g2 hsl hrl hn hul k1 k2 h0; omega))
 ·exact K _ _ x2 (hA.app asc_sp) (by rw [len_app, lsp]; (clear h1 hB hc hz lnl lsp g1 g2 hsl hrl hn hul k1 k2 h0; omega))
 ·exact K _ _ x2 (asc_nl.app hA) (by rw [len_app, lnl]; (clear h1 hB hc hz lnl lsp g1 g2 hsl hrl hn hul k1 k2 h0; omega))
 ·exact K _ _ x2 (har r0 (by simp)) (by (clear h1 hB hc hz lnl lsp g1 g2 hsl hrl hn hul k1 k2; omega))
 ·exact K _ _ x2 hu (by (clear h1 hB hc hz lnl lsp g1 g2 hsl hrl hn k1 k2 h0; omega))
end
end Vc
end
section
set_option maxHeartbeats 2000000
set_option maxRecDepth 100000
namespace Vc
open PySem PyProof.Rows
noncomputable def law_look_at_vs : Vs := [locv "_law_text_here", locv "_law_rows", locv "_law_first", locv "_law_parts", locv "_law_k", locv "_law_takes", locv "_law_lines"]
noncomputable def law_look_at_b : List St :=
  [.asg 1 (.comp 1 (.meth (.nm 7) "split" [(.cs " ")]) (.meth (.nm 0) "split" [(.cs "\n")]) []),
  .ife (.bop .Or [(.cmp .NotEq (.call "len" [(.sub (.nm 1) (.ci 0))]) (.ci 4)), (.cmp .NotEq (.sub (.sub (.nm 1) (.ci 0)) (.ci 0)) (.cs "ring")), (.cmp .NotEq (.sub (.sub (.nm 1) (.ci 0)) (.ci 2)) (.cs "inputs")), (.una .Not (.cmp2 .LtE .LtE (.ci 2) (.call "len" [(.nm 1)]) (.ci 11)))]) [.ret .cn] [],
  .asg 2 (.call "_law_numbers" [(.lst [(.sub (.sub (.nm 1) (.ci 0)) (.ci 1)), (.sub (.sub (.nm 1) (.ci 0)) (.ci 3))])]),
  .ife (.bop .Or [(.cmp .Is (.nm 2) .cn), (.una .Not (.cmp2 .LtE .LtE (.ci 2) (.sub (.nm 2) (.ci 0)) (.ci 5))), (.una .Not (.cmp2 .LtE .LtE (.ci 1) (.sub (.nm 2) (.ci 1)) (.ci 6)))]) [.ret .cn] [],
  .asg 3 (.lst []),
  .for [4] (.pl (.call "range" [(.ci 1), (.call "len" [(.nm 1)])])) [.asg 5 (.meth (.dct ["sum", "stop", "pick", "not"] [(.ci 2), (.ci 2), (.ci 3), (.ci 1)]) "get" [(.sub (.sub (.nm 1) (.nm 4)) (.ci 0)), (.una .USub (.ci 1))]),
  .asg 6 (.call "_law_numbers" [(.sli (.sub (.nm 1) (.nm 4)) (.ci 1) .cn .cn)]),
  .ife (.bop .Or [(.cmp .Is (.nm 6) .cn), (.cmp .NotEq (.call "len" [(.nm 6)]) (.nm 5)), (.cmp .GtE (.call "max" [(.nm 6)]) (.bin .Sub (.bin .Add (.sub (.nm 2) (.ci 1)) (.nm 4)) (.ci 1)))]) [.ret .cn] [],
  .exp (.meth (.nm 3) "append" [(.call "tuple" [(.bin .Add (.sli (.sub (.nm 1) (.nm 4)) .cn (.ci 1) .cn) (.nm 6))])])],
  .ret (.tup [(.sub (.nm 2) (.ci 0)), (.sub (.nm 2) (.ci 1)), (.nm 3)])]
theorem asc_ok {x : Str} (h : Asc x) : PyData.strOk x = true := by
 unfold PyData.strOk
 rw [<- Array.all_toList, List.all_eq_true]
 exact fun c hc => decide_eq_true (by have := h c hc; omega)
theorem fig_asc {x : Str} (h : figs x = true) : Asc x := fun c hc => by
 unfold figs at h
 simp only [Bool.and_eq_true, List.all_eq_true] at h
 refine Vc.xa_1_2 (isFig_e (h.2 c hc)) fun k hk e => ?_
 (clear h; omega)
theorem vds_strs {H : MH} : ∀ l : List Str, VDs H (l.map .str) (l.map .str)
 | [] => .nil
 | x :: l => .cons (.str x) (vds_strs l)
theorem lay_strs : ∀ {l : List Str}, (∀ x ∈ l, Asc x) -> PyData.canLayAll0 (l.map .str) = true
 | [], _ => rfl
 | x :: l, h => by
  show (PyData.canLay0 (.str x) && PyData.canLayAll0 (l.map .str)) = true
  rw [lay_strs fun y hy => h y (by simp [hy]), Bool.and_true, PyData.canLay0]
  exact asc_ok (h x (by simp))
section
variable {C : Cx} {d : Md} {ρ : Lo} {H : MH} {Q : V -> MH -> Prop} {X : XP} {n : Nat} {q : Bool}
theorem mget_dcs {a : Addr} {l : List (Str × V)} (h : H a = some (.dcs l)) : MGet C d (.ref a) "get" (.builtin "dict.get") H := fun A s co pl Q E ok r q => by
 dsimp only [VR] at r; subst r
 obtain ⟨_, _, kvs, ⟨o, es, ep, ho, hc, hd, _⟩, _⟩ := ok.rel _ _ h
 exact getMethod_builtin (T := "dict") ⟨_, ho, hc.1⟩ PySem.F.plainAttrs_dict PySem.F.slot_dict_get PySem.F.type_dict_get (fun a e => by cases e; exact ⟨_, ho, hc.2.1⟩) q
theorem cv_gets {a : Addr} {l : List (Str × V)} {k : Str} {x : V} (h : H a = some (.dcs l)) (q : Q ((dget l k).getD x) H) : CallV C d (.builtin "dict.get") [.ref a, .str k, x] H Q X := fun A s cs ok rs => by
 refine Vc.xa_3_4 (args3 rs) fun c e f hr47_3 r r' r'' => ?_
 subst hr47_3
 dsimp only [VR] at r; dsimp only [VR] at r'; subst r; obtain ⟨t, rfl⟩ := r'
 obtain ⟨h0, hs, kvs, hD, hm, rs⟩ := ok.rel _ _ h
 refine call_meetsIn PySem.F.slot_dict_get hD.typeIs PySem.F.entry_dict_get (PySem.F.args_dict_get_3 _ _ _) (meets_dict_get_default (PySem.strKind C.prog C.w) (k := k) a (by simp [PySem.strKind, Value.isStrOf]) (ne_mod hs) _) ⟨_, hD.mapOf, qp (ok.toks _) ?_ q⟩
 cases e : dget l k with
 | none => rw [valueAt_none hm e]; exact r''
 | some y => obtain ⟨v, hv, ry⟩ := valueAt_get hm rs e; rw [hv]; exact ry
theorem numbers_ct {ws : List Str} {wl : Addr} (G : C.Good) (S : Std C) (D : Def C "_law_numbers" law_numbers_vs 1 law_numbers_b) (hw : H wl = some (.lst (ws.map .str))) (hl : ws.length <= 5000) (hA : ∀ x ∈ ws, Asc x)
  (K1 : ws.all isNum = true -> ∀ rl H', Ext H H' -> H rl = none -> H' rl = some (.lst ((ws.map numOf).map .int)) -> Q (.ref rl) H') (K2 : ws.all isNum = false -> ∀ H', Ext H H' -> Q .none H') : CallW C ⟨n + 1, true⟩ "_law_numbers" [.ref wl] H Q X := by
 have hz : 1000000 < sizeLine := by decide
 refine D.call G rfl ?_
 unfold law_numbers_b
 refine SS_asg (E_lst (Es_nil ?_))
 refine ⟨by decide, fun rl hrl => ?_⟩
 refine SS_for ?_
 refine E_nm rfl ?_
 have x0 : Ext H (upd H rl (.lst [])) := .new hrl
 refine ⟨_, ⟨.inl rfl, fun zz zz zz e => by cases e⟩, items_lst (x0 _ _ hw), ?_⟩
 refine for_inv (P := fun i ρ' H' => (∃ u, ρ' = [some (.ref wl), some (.ref rl), u]) /\ Ext H H' /\ H' rl = some (.lst (((ws.take i).map numOf).map .int)) /\ (ws.take i).all isNum = true) ⟨⟨_, rfl⟩, x0, upd_self .., rfl⟩
  (fun i z ρ' H' R hP hz' hRR => ?_) fun ρ' H' hP => ?_
 ·refine Vc.xa_0_4 hP fun ho68_0 hx hr hf => ?_
  try clear hP
  obtain ⟨u, rfl⟩ := ho68_0
  rw [List.getElem?_map, Option.map_eq_some_iff] at hz'
  refine Vc.xa_1_2 hz' fun y hyi hr70_2 => ?_
  try clear hz'
  subst hr70_2
  have hym := List.mem_of_getElem? hyi
  refine ⟨items_lst (hx _ _ hw), _, rfl, ?_⟩
  show wpSs C _ _ [some (.ref wl), some (.ref rl), some (.str y)] _ _ _
  refine SS_ife (c_tcmp (E_nm rfl ?_))
  refine E_comp ?_
  refine E_call (Std.n_range (by assumption)) callee_type (c_esc1 ?_)
  refine cv_range1 ?_
  refine ⟨_, itq_rng rfl (by (clear hl hz; omega)) (by (clear hl hz; omega)) (by (clear hl hz; omega)) (by (clear hl hz; omega)), rfl, by rw [rng_len]; (clear hl; omega), ?_⟩
  refine comp_inv (P := fun j acc H'' => acc = ((List.range j).map fun (k : Nat) => nstr k).map .str /\ H' = H'') ⟨rfl, rfl⟩ (fun j z acc H'' R' hQ hzj hR2 => ?_) fun acc H'' hQ => ⟨rfl, ?_⟩
  ·refine Vc.xa_0_2 hQ fun hr80_0 hr80_1 => ?_
   try clear hQ
   subst hr80_0
   subst hr80_1
   refine Vc.xa_0_2 (rng_get hzj) fun hr81_0 hj => ?_
   subst hr81_0
   rw [Int.zero_add]
   refine ⟨rfl, _, rfl, ?_⟩
   refine Ts_nil (if_t (E_call (Std.n_str (by assumption)) callee_type (c_es1 rfl ?_)))
   refine cv_stri (by (clear hl hz hj; omega)) (by (clear hl hz; omega)) (hR2 _ _ ⟨?_, rfl⟩)
   rw [List.range_succ, List.map_append, List.map_append]; rfl
  refine Vc.xa_0_2 hQ fun hr87_0 hr87_1 => ?_
  try clear hQ
  subst hr87_0
  subst hr87_1
  rw [rng_len, show ((100 : Int) - 0).toNat = 100 from rfl]
  refine ⟨by rw [List.length_map, List.length_map, List.length_range]; (clear hl; omega), fun c hc => ?_⟩
  have y1 : Ext H' (upd H' c (.lst (((List.range 100).map fun (k : Nat) => nstr k).map .str))) := .new hc
  have i1 := upd_self H' c (.lst (((List.range 100).map fun (k : Nat) => nstr k).map .str))
  generalize upd H' c (.lst (((List.range 100).map fun (k : Nat) => nstr k).map .str)) = H1 at y1 i1
  refine cmp_nin (.str y) (.lst i1 (vds_strs _)) (.inl rfl) (by rw [PyData.canLay0]; exact asc_ok (hA y hym)) (lay_strs fun x hx' => ?_) (by simp [PyData.depth]) ?_
  ·refine Vc.xa_1_2 (List.mem_map.mp hx') fun k hk hr94_2 => ?_
   subst hr94_2
   exact fig_asc (num_figs k (List.mem_range.mp hk)).1
  have ey : ((((List.range 100).map fun (k : Nat) => nstr k).map PyData.str).any fun z => PyData.eqv z (.str y)) = isNum y := by
   rw [List.map_map, List.any_map]; unfold isNum
   congr 1
  rw [ey]
  cases hn : isNum y with
  | false =>
   refine tru_bool (if_nf (SS_app1 (SS_ret (E_cn ?_))))
   refine K2 ?_ _ (hx.trans y1)
   rw [List.all_eq_false]
   exact ⟨y, hym, by rw [hn]; decide⟩
  | true =>
   refine tru_bool (if_nt (SS_app0 (SS_exp (E_meth (E_nm rfl ?_)))))
   refine ⟨_, mget_append (y1 _ _ hr), callee_builtin, ?_⟩
   refine Es_cons (E_call (Std.n_int (by assumption)) callee_type (c_es1 rfl ?_))
   have hfy := (isNum_e hn).1
   have hyl : y.length <= 2 := by unfold figs at hfy; simp only [Bool.and_eq_true, decide_eq_true_eq] at hfy; exact hfy.1.2
   refine cv_ints (figs_num hfy).1 (by (clear hl hz; omega)) ?_
   refine Es_nil ?_
   refine cv_append (y1 _ _ hr) (by rw [List.length_map, List.length_map, List.length_take]; (clear hyl; omega)) ?_
   refine SS_nil (hRR _ _ ⟨⟨_, rfl⟩, (hx.trans y1).mut hrl, ?_, ?_⟩)
   ·rw [upd_self, List.take_add_one, hyi, List.map_append, List.map_append]; rfl
   ·rw [List.take_add_one, hyi, List.all_append, hf]; show (true && (isNum y && true)) = true; rw [hn]; rfl
 ·refine Vc.xa_0_4 hP fun ho119_0 hx hr hf => ?_
  try clear hP
  obtain ⟨u, rfl⟩ := ho119_0
  rw [List.length_map, List.take_length] at hr hf
  refine ⟨items_lst (hx _ _ hw), ?_⟩
  refine c_ret_n rfl ?_
  exact K1 hf rl _ hx hrl hr
theorem look_iff {hd : List Str} {R : List (List Str)} : lookT (hd :: R) = true ↔ hd.length = 4 /\ hd.getD 0 (Str.ofString "") = Str.ofString "ring" /\ hd.getD 2 (Str.ofString "") = Str.ofString "inputs" /\ (2 <= R.length + 1 /\ R.length + 1 <= 11) /\ (isNum (hd.getD 1 (Str.ofString "")) = true /\ isNum (hd.getD 3 (Str.ofString "")) = true) /\
  (2 <= numOf (hd.getD 1 (Str.ofString "")) /\ numOf (hd.getD 1 (Str.ofString "")) <= 5) /\ (1 <= numOf (hd.getD 3 (Str.ofString "")) /\ numOf (hd.getD 3 (Str.ofString "")) <= 6) /\ lookP (numOf (hd.getD 3 (Str.ofString ""))) R = true := by
 show (decide (hd.length = 4) && (hd.getD 0 (Str.ofString "") == Str.ofString "ring") && (hd.getD 2 (Str.ofString "") == Str.ofString "inputs") && decide (2 <= R.length + 1) && decide (R.length + 1 <= 11) && isNum (hd.getD 1 (Str.ofString "")) && isNum (hd.getD 3 (Str.ofString ""))
  && decide (2 <= numOf (hd.getD 1 (Str.ofString ""))) && decide (numOf (hd.getD 1 (Str.ofString "")) <= 5) && decide (1 <= numOf (hd.getD 3 (Str.ofString ""))) && decide (numOf (hd.getD 3 (Str.ofString "")) <= 6) && lookP (numOf (hd.getD 3 (Str.ofString ""))) R) = true ↔ _
 simp only [Bool.and_eq_true, decide_eq_true_eq, beq_iff_eq]
 constructor
 ·rintro ⟨⟨⟨⟨⟨⟨⟨⟨⟨⟨⟨h1, h2⟩, h3⟩, h4⟩, h5⟩, h6⟩, h7⟩, h8⟩, h9⟩, h10⟩, h11⟩, h12⟩
  exact ⟨h1, h2, h3, ⟨h4, h5⟩, ⟨h6, h7⟩, ⟨h8, h9⟩, ⟨h10, h11⟩, h12⟩
 ·rintro ⟨h1, h2, h3, ⟨h4, h5⟩, ⟨h6, h7⟩, ⟨h8, h9⟩, ⟨h10, h11⟩, h12⟩
  exact ⟨⟨⟨⟨⟨⟨⟨⟨⟨⟨⟨h1, h2⟩, h3⟩, h4⟩, h5⟩, h6⟩, h7⟩, h8⟩, h9⟩, h10⟩, h11⟩, h12⟩
noncomputable def tk (s : Str) : Int := if takes s = 0 then -1 else takes s
theorem tk_get (s : Str) : (dget ((["sum", "stop", "pick", "not"].map Str.ofString).zip [V.int 2, .int 2, .int 3, .int 1]) s).getD (.int (-1)) = .int (tk s) := by
 by_cases h1 : s = Str.ofString "sum"
 ·subst h1; rfl
 by_cases h2 : s = Str.ofString "stop"
 ·subst h2; rfl
 by_cases h3 : s = Str.ofString "pick"
 ·subst h3; rfl
 by_cases h4 : s = Str.ofString "not"
 ·subst h4; rfl
 have e : takes s = 0 := by
  unfold takes
  rw [if_neg (by simpa using h4), if_neg (by simpa using h3), if_neg (by simp [h1, h2])]
 unfold tk
 rw [if_pos e]
 simp [dget, Ne.symm h1, Ne.symm h2, Ne.symm h3, Ne.symm h4]
noncomputable def rowOk (i : Int) (q : List Str × Nat) : Bool := decide (1 <= q.1.length) && q.1.tail.all isNum && decide ((q.1.tail.length : Int) = takes (q.1.headD (Str.ofString ""))) && decide (1 <= q.1.tail.length) && (q.1.tail.map numOf).all fun l => decide (l <= i + (q.2 : Int) - 1)
theorem row_no {i : Int} {a : Str} {as : List Str} {k : Nat} (h : ¬ (as.all isNum = true /\ (as.length : Int) = tk a /\ ∀ l ∈ as.map numOf, l <= i + (k : Int) - 1)) : ¬ rowOk i (a :: as, k) = true := fun q => by
 unfold rowOk at q
 simp only [Bool.and_eq_true] at q
 refine Vc.xa_0_2 q fun ho156_0 q5 => ?_
 try clear q
 obtain ⟨⟨⟨_, q2⟩, q3⟩, q4⟩ := ho156_0
 have q3 : (as.length : Int) = takes a := of_decide_eq_true q3
 have q4 : 1 <= as.length := of_decide_eq_true q4
 refine h ⟨q2, ?_, fun l hl => of_decide_eq_true (List.all_eq_true.mp q5 l hl)⟩
 unfold tk
 rw [if_neg (by (clear h; omega))]; exact q3
theorem row_yes {i : Int} {a : Str} {as : List Str} {k : Nat} (h1 : as.all isNum = true) (h2 : (as.length : Int) = tk a) (h3 : ∀ l ∈ as.map numOf, l <= i + (k : Int) - 1) : rowOk i (a :: as, k) = true /\ 1 <= as.length := by
 have : takes a ≠ 0 := fun e => by unfold tk at h2; rw [if_pos e] at h2; (clear e; omega)
 unfold tk at h2
 rw [if_neg this] at h2
 have h4 : 1 <= as.length := by omega
 refine ⟨?_, h4⟩
 unfold rowOk
 simp only [Bool.and_eq_true]
 exact ⟨⟨⟨⟨decide_eq_true (by simp), h1⟩, decide_eq_true h2⟩, decide_eq_true h4⟩, List.all_eq_true.mpr fun l hl => decide_eq_true (h3 l hl)⟩
noncomputable def Rr (H : MH) (vs : List V) (L : List Str) : Prop := vs.length = L.length /\ ∀ (j : Nat) (r : Str), L[j]? = some r -> ∃ a, vs[j]? = some (.ref a) /\ H a = some (.lst ((spl sp r).map .str))
theorem Rr.ext {H H' : MH} {vs : List V} {L : List Str} (h : Rr H vs L) (x : Ext H H') : Rr H' vs L := ⟨h.1, fun j r e => by obtain ⟨a, h1, h2⟩ := h.2 j r e; exact ⟨a, h1, x _ _ h2⟩⟩
theorem look_at_ct {t : Str} (G : C.Good) (S : Std C) (Dn : Def C "_law_numbers" law_numbers_vs 1 law_numbers_b) (D : Def C "_law_look_at" law_look_at_vs 1 law_look_at_b) (hA : Asc t) (hl : t.length <= 1500)
  (K1 : lookT (rws t) = true -> ∀ pl H', Ext H H' -> H pl = none -> H' pl = some (.lst ((twOf (rws t)).ps.map pv)) -> Q (twv (twOf (rws t)) pl) H')
  (K2 : lookT (rws t) = false -> ∀ H', Ext H H' -> Q .none H') : CallW C ⟨n + 2, true⟩ "_law_look_at" [.str t] H Q X := by
 have hz : 1000000 < sizeLine := by decide
 obtain ⟨hn, hlr⟩ := spl_len nl t
 have har := asc_spl (c := nl) hA
 obtain ⟨r0, Rs, hR⟩ : ∃ r0 Rs, spl nl t = r0 :: Rs := by
  cases e : spl nl t with
  | nil => exact (spl_ne nl t e).elim
  | cons a b => exact ⟨a, b, rfl⟩
 have hrw := rws_e hR
 rw [hR] at hn hlr har
 rw [List.length_cons] at hn
 have hs : ∀ r ∈ r0 :: Rs, (spl sp r).length <= 1501 /\ ∀ y ∈ spl sp r, Asc y := fun r hr => by
  have h1 := hlr r hr
  obtain ⟨a, b⟩ := spl_len sp r
  exact ⟨by (clear hz hn; omega), asc_spl (har r hr)⟩
 have no : ¬ lookT (spl sp r0 :: Rs.map (spl sp)) = true -> ∀ H', Ext H H' -> Q .none H' := fun h => K2 (by rw [hrw]; simpa using h)
 refine D.call G rfl ?_
 unfold law_look_at_b
 refine SS_asg (E_comp ?_)
 refine E_meth (E_nm rfl ?_)
 refine ⟨_, mget_split, callee_builtin, ?_⟩
 refine Es_cons (E_cs (Es_nil ?_))
 rw [str_nl]
 refine cv_split rfl (by (clear hn; omega)) fun lo hlo => ?_
 rw [show Txt.split t ⟨#[nl]⟩ = r0 :: Rs from hR]
 have x1 : Ext H (upd H lo (.lst ((r0 :: Rs).map .str))) := .new hlo
 have l1 := upd_self H lo (.lst ((r0 :: Rs).map .str))
 generalize upd H lo (.lst ((r0 :: Rs).map .str)) = H1 at x1 l1
 refine ⟨_, ⟨.inl rfl, fun zz zz zz e => by cases e⟩, items_lst l1, by rw [List.length_map, List.length_cons]; omega, ?_⟩
 refine comp_inv (P := fun i acc H' => Ext H1 H' /\ Rr H' acc ((r0 :: Rs).take i)) ⟨.refl _, rfl, fun j r e => by simp at e⟩ (fun i z acc H' R hP hz' hRR => ?_) fun acc H' hP => ⟨items_lst (hP.1 _ _ l1), ?_⟩
 ·obtain ⟨hx, hr⟩ := hP
  rw [List.getElem?_map, Option.map_eq_some_iff] at hz'
  obtain ⟨r, hri, rfl⟩ := hz'
  have hrm := List.mem_of_getElem? hri
  refine ⟨items_lst (hx _ _ l1), _, rfl, ?_⟩
  refine Ts_nil (if_t (E_meth (E_nm rfl ?_)))
  refine ⟨_, mget_split, callee_builtin, ?_⟩
  refine Es_cons (E_cs (Es_nil ?_))
  rw [str_sp]
  refine cv_split rfl (by have := hlr r hrm; (clear hn; omega)) fun wo hwo => ?_
  have hil := (List.getElem?_eq_some_iff.mp hri).1
  have hacc : acc.length = i := by rw [hr.1, List.length_take]; (clear hl hz hn; omega)
  refine hRR _ _ ⟨hx.more hwo, by rw [List.length_append, hacc, List.length_take]; show i + 1 = _; (clear hl hz hn hacc; omega), fun j r' e => ?_⟩
  rw [List.getElem?_take] at e
  by_cases hj : j = i
  ·subst hj
   rw [if_pos (by (clear hl hz hn hil hacc; omega)), hri] at e; cases e
   exact ⟨wo, by rw [<- hacc, List.getElem?_concat_length], upd_self ..⟩
  ·by_cases hj2 : j < i
   ·rw [if_pos (by (clear hl hz hn hil hacc hj; omega))] at e
    obtain ⟨a, h1, h2⟩ := hr.2 j r' (by rw [List.getElem?_take, if_pos hj2]; exact e)
    exact ⟨a, by rw [List.getElem?_append_left (by (clear hl hz hn hil hj; omega))]; exact h1, (Ext.new hwo) _ _ h2⟩
   ·rw [if_neg (by (clear hl hz hn hil hacc; omega))] at e; cases e
 obtain ⟨hx, hr⟩ := hP
 rw [List.length_map, List.take_length] at hr
 have hal : acc.length = Rs.length + 1 := by rw [hr.1, List.length_cons]
 refine ⟨by omega, fun ro hro => ?_⟩
 have x2 := (x1.trans hx).more (o := .lst acc) hro
 have rr := hr.ext (Ext.new (o := .lst acc) hro)
 have o2 := upd_self H' ro (.lst acc)
 generalize upd H' ro (.lst acc) = H2 at x2 rr o2
 clear hr hx x1 l1 hro hlo
 obtain ⟨a0, ha0, hh0⟩ := rr.2 0 r0 rfl
 have g0 : ∀ {d : Md} {Q : V -> MH -> Prop} {X : XP} {H' : MH}, Ext H2 H' -> Q (.ref a0) H' -> SubW C d (.ref ro) (.int 0) H' Q X := fun x k => sub_at (i := 0) (x _ _ o2) (by (clear hz; omega)) ha0 k
 obtain ⟨s0, s0a⟩ := hs r0 (by simp)
 refine SS_ife (T_bop (A_or (c_tcmp (E_call (Std.n_len (by assumption)) callee_builtin (Es_cons (c_sub_nc rfl ?_))))))
 refine g0 (.refl _) ?_
 refine Es_nil ?_
 refine cv_len_list (items_lst hh0) (by rw [List.length_map]; (clear hl hn hal; omega)) ?_
 rw [List.length_map]
 refine E_ci (cmp_ne_int (tru_bool ?_))
 by_cases h4 : (spl sp r0).length = 4
 rotate_left
 ·rw [show (!(((spl sp r0).length : Int) == 4)) = true by simp; (clear hl hz hn hal s0; omega)]
  refine if_t (if_t (SS_app1 (SS_ret (E_cn ?_))))
  exact no (fun h => h4 (look_iff.mp h).1) _ x2
 rw [show (!(((spl sp r0).length : Int) == 4)) = false by rw [h4]; rfl]
 obtain ⟨w0, w1, w2, w3, hw⟩ := four h4
 rw [hw] at hh0 hrw no s0a
 have no : ¬ lookT ([w0, w1, w2, w3] :: Rs.map (spl sp)) = true -> ∀ H', Ext H H' -> Q .none H' := no
 refine if_f (A_or (c_tcmp (E_sub (c_sub_nc rfl ?_))))
 refine g0 (.refl _) ?_
 refine E_ci ?_
 refine sub_at (i := 0) hh0 (show 4 <= 5000 by decide) rfl ?_
 refine E_cs ?_
 refine cmp_ne_str ?_
 refine tru_bool ?_
 by_cases h5 : w0 = Str.ofString "ring"
 rotate_left
 ·rw [show (w0 != Str.ofString "ring") = true from bne_iff_ne.mpr h5]
  refine if_t (if_t (SS_app1 (SS_ret (E_cn ?_))))
  exact no (fun h => h5 (look_iff.mp h).2.1) _ x2
 rw [show (w0 != Str.ofString "ring") = false by rw [h5]; exact bne_self_eq_false _]
 refine if_f (A_or (c_tcmp (E_sub (c_sub_nc rfl ?_))))
 refine g0 (.refl _) ?_
 refine E_ci ?_
 refine sub_at (i := 2) hh0 (show 4 <= 5000 by decide) rfl ?_
 refine E_cs ?_
 refine cmp_ne_str ?_
 refine tru_bool ?_
 by_cases h6 : w2 = Str.ofString "inputs"
 rotate_left
 ·rw [show (w2 != Str.ofString "inputs") = true from bne_iff_ne.mpr h6]
  refine if_t (if_t (SS_app1 (SS_ret (E_cn ?_))))
  exact no (fun h => h6 (look_iff.mp h).2.2.1) _ x2
 rw [show (w2 != Str.ofString "inputs") = false by rw [h6]; exact bne_self_eq_false _]
 refine if_f (A_or (T_not (T_cmp2 (E_ci (E_call (Std.n_len (by assumption)) callee_builtin (c_es1 rfl ?_))))))
 refine cv_len_list (items_lst o2) (by (clear s0 h4; omega)) ?_
 rw [hal]
 refine cmp_le (tru_bool ?_)
 by_cases h7 : 2 <= Rs.length + 1
 rotate_left
 ·rw [show decide ((2 : Int) <= ((Rs.length + 1 : Nat) : Int)) = false from decide_eq_false (by (clear hl hz hn hal s0 h4; omega))]
  refine if_f (if_nf (if_t (SS_app1 (SS_ret (E_cn ?_)))))
  exact no (fun h => by have := (look_iff.mp h).2.2.2.1.1; rw [List.length_map] at this; exact h7 this) _ x2
 rw [show decide ((2 : Int) <= ((Rs.length + 1 : Nat) : Int)) = true from decide_eq_true (by (clear hl hz hn hal s0 h4; omega))]
 refine if_t (E_ci (cmp_le (tru_bool ?_)))
 by_cases h8 : Rs.length + 1 <= 11
 rotate_left
 ·rw [show decide (((Rs.length + 1 : Nat) : Int) <= 11) = false from decide_eq_false (by (clear hl hz hn hal s0 h4 h7; omega))]
  refine if_nf (if_t (SS_app1 (SS_ret (E_cn ?_))))
  exact no (fun h => by have := (look_iff.mp h).2.2.2.1.2; rw [List.length_map] at this; exact h8 this) _ x2
 rw [show decide (((Rs.length + 1 : Nat) : Int) <= 11) = true from decide_eq_true (by (clear hl hz hn hal s0 h4 h7; omega))]
 refine if_nt (A_nil_or (if_f (SS_app0 (SS_asg ?_))))
 refine E_fn Dn.fn ?_
 refine Es_cons (E_lst (Es_cons (E_sub (c_sub_nc rfl ?_))))
 refine g0 (.refl _) ?_
 refine E_ci ?_
 refine sub_at (i := 1) hh0 (show 4 <= 5000 by decide) rfl ?_
 refine Es_cons (E_sub (c_sub_nc rfl ?_))
 refine g0 (.refl _) ?_
 refine E_ci ?_
 refine sub_at (i := 3) hh0 (show 4 <= 5000 by decide) rfl ?_
 refine Es_nil ?_
 refine ⟨show 2 <= sizeLine by decide, fun c1 hc1 => ?_⟩
 have x3 : Ext H2 (upd H2 c1 (.lst [.str w1, .str w3])) := .new hc1
 have i3 := upd_self H2 c1 (.lst [.str w1, .str w3])
 generalize upd H2 c1 (.lst [.str w1, .str w3]) = H3 at x3 i3
 refine numbers_ct (n := n) (ws := [w1, w3]) G S Dn i3 (show 2 <= 5000 by decide) (fun x hx => s0a x (by simp only [List.mem_cons, List.not_mem_nil, or_false] at hx ⊢; rcases hx with rfl | rfl <;> simp)) (fun hnm fl H4 x4 hfl f4 => ?_) fun hnm H4 x4 => ?_
 rotate_left
 ·refine SS_ife (T_bop (A_or (c_tcmp (E_nm rfl (E_cn ?_)))))
  refine is_none_none' ?_
  refine tru_bool (if_t (if_t (SS_app1 (SS_ret (E_cn ?_)))))
  refine no (fun h => ?_) _ ((x2.trans x3).trans x4)
  obtain ⟨n1, n3⟩ := (look_iff.mp h).2.2.2.2.1
  replace n1 : isNum w1 = true := n1
  replace n3 : isNum w3 = true := n3
  rw [show [w1, w3].all isNum = (isNum w1 && (isNum w3 && true)) from rfl, n1, n3] at hnm
  cases hnm
 have x24 := x3.trans x4
 have X4 := x2.trans x24
 have hn1 : isNum w1 = true /\ isNum w3 = true := by
  rw [show [w1, w3].all isNum = (isNum w1 && (isNum w3 && true)) from rfl] at hnm
  simp only [Bool.and_eq_true] at hnm; exact ⟨hnm.1, hnm.2.1⟩
 replace f4 : H4 fl = some (.lst [.int (numOf w1), .int (numOf w3)]) := f4
 clear x3 x4 i3
 have f0 : ∀ {d : Md} {Q : V -> MH -> Prop} {X : XP} {H' : MH}, Ext H4 H' -> Q (.int (numOf w1)) H' -> SubW C d (.ref fl) (.int 0) H' Q X := fun x k => sub_at (i := 0) (x _ _ f4) (show 2 <= 5000 by decide) rfl k
 have f1 : ∀ {d : Md} {Q : V -> MH -> Prop} {X : XP} {H' : MH}, Ext H4 H' -> Q (.int (numOf w3)) H' -> SubW C d (.ref fl) (.int 1) H' Q X := fun x k => sub_at (i := 1) (x _ _ f4) (show 2 <= 5000 by decide) rfl k
 refine SS_ife (T_bop (A_or (c_tcmp (E_nm rfl (E_cn ?_)))))
 refine is_none_ref ?_
 refine tru_bool (if_f (A_or (T_not (T_cmp2 (E_ci (c_sub_nc rfl ?_))))))
 refine f0 (.refl _) ?_
 refine cmp_le (tru_bool ?_)
 by_cases k1 : 2 <= numOf w1
 rotate_left
 ·rw [decide_eq_false k1]
  refine if_f (if_nf (if_t (SS_app1 (SS_ret (E_cn ?_)))))
  exact no (fun h => k1 (look_iff.mp h).2.2.2.2.2.1.1) _ X4
 rw [decide_eq_true k1]
 refine if_t (E_ci (cmp_le (tru_bool ?_)))
 by_cases k2 : numOf w1 <= 5
 rotate_left
 ·rw [decide_eq_false k2]
  refine if_nf (if_t (SS_app1 (SS_ret (E_cn ?_))))
  exact no (fun h => k2 (look_iff.mp h).2.2.2.2.2.1.2) _ X4
 rw [decide_eq_true k2]
 refine if_nt (A_or (T_not (T_cmp2 (E_ci (c_sub_nc rfl ?_)))))
 refine f1 (.refl _) ?_
 refine cmp_le (tru_bool ?_)
 by_cases k3 : 1 <= numOf w3
 rotate_left
 ·rw [decide_eq_false k3]
  refine if_f (if_nf (if_t (SS_app1 (SS_ret (E_cn ?_)))))
  exact no (fun h => k3 (look_iff.mp h).2.2.2.2.2.2.1.1) _ X4
 rw [decide_eq_true k3]
 refine if_t (E_ci (cmp_le (tru_bool ?_)))
 by_cases k4 : numOf w3 <= 6
 rotate_left
 ·rw [decide_eq_false k4]
  refine if_nf (if_t (SS_app1 (SS_ret (E_cn ?_))))
  exact no (fun h => k4 (look_iff.mp h).2.2.2.2.2.2.1.2) _ X4
 rw [decide_eq_true k4]
 refine if_nt (A_nil_or (if_f (SS_app0 (SS_asg (E_lst (Es_nil ?_))))))
 refine ⟨by decide, fun pl hpl => ?_⟩
 have x5 := Ext.new (o := .lst []) hpl
 have p5 := upd_self H4 pl (.lst [])
 have hplH := X4.gone hpl
 have npl : ∀ {b : Addr} {o : O}, H4 b = some o -> b ≠ pl := fun h e => by rw [e, hpl] at h; cases h
 refine SS_for ?_
 refine E_call (Std.n_range (by assumption)) callee_type (c_esc (Es_cons (E_call (Std.n_len (by assumption)) callee_builtin (c_es1 rfl ?_))))
 refine cv_len_list (items_lst (x5 _ _ (x24 _ _ o2))) (by (clear hl hn s0 h4 h7 hn1 k1 k2 k3 k4; omega)) ?_
 rw [hal]
 refine Es_nil ?_
 refine cv_range2 ?_
 refine ⟨_, itq_rng rfl (by (clear hl hz hn hal s0 h4 h7 h8 hn1 k1 k2 k3 k4; omega)) (by (clear hl hz hn hal s0 h4 h7 h8 hn1 k1 k2 k3 k4; omega)) (by (clear hl hz hn hal s0 h4 h7 h8 hn1 k1 k2 k3 k4; omega)) (by (clear hl hz hn hal s0 h4 h7 hn1 k1 k2 k3 k4; omega)), rfl, ?_⟩
 refine for_inv (P := fun i ρ' H' => (∃ u u' u'', ρ' = [some (.str t), some (.ref ro), some (.ref fl), some (.ref pl), u, u', u'']) /\ Ext H4 H' /\ H' pl = some (.lst (((Rs.take i).map fun r => partOf (spl sp r)).map pv)) /\ ∀ (k : Nat) (r : Str), k < i -> Rs[k]? = some r -> rowOk (numOf w3) (spl sp r, k) = true)
  ⟨⟨_, _, _, rfl⟩, x5, p5, fun zz zz h => by (clear hl hz hn hal s0 h4 h7 h8 hn1 k1 k2 k3 k4; omega)⟩ (fun i z ρ' H' R hP hz' hRR => ?_) fun ρ' H' hP => ⟨rfl, ?_⟩
 ·obtain ⟨⟨u, u', u'', rfl⟩, hx, hp, hok⟩ := hP
  obtain ⟨hz2, hi'⟩ := rng_get hz'
  rw [show (1 : Int) + (i : Int) = ((i + 1 : Nat) : Int) by (clear hl hz hn hal s0 h4 h7 h8 hn1 k1 k2 k3 k4 hi'; omega)] at hz2
  subst hz2
  have hil : i < Rs.length := by (clear hl hz hn hal s0 h4 h7 h8 hn1 k1 k2 k3 k4; omega)
  obtain ⟨r, hri⟩ : ∃ r, Rs[i]? = some r := ⟨_, List.getElem?_eq_getElem hil⟩
  have hrm : r ∈ r0 :: Rs := List.mem_cons_of_mem _ (List.mem_of_getElem? hri)
  obtain ⟨b, hb, hbr⟩ := rr.2 (i + 1) r (by rw [List.getElem?_cons_succ]; exact hri)
  obtain ⟨sr, sra⟩ := hs r hrm
  have no' : ¬ rowOk (numOf w3) (spl sp r, i) = true -> ∀ H', Ext H H' -> Q .none H' := fun h => no fun q => h (by
   have := zall.mp (look_iff.mp q).2.2.2.2.2.2.2 i (spl sp r) (by rw [List.getElem?_map, hri]; rfl)
   exact this)
  obtain ⟨e0, es, he⟩ : ∃ a0 as, spl sp r = a0 :: as := by
   cases e : spl sp r with
   | nil => exact (spl_ne sp r e).elim
   | cons a b => exact ⟨a, b, rfl⟩
  rw [he] at hbr sr sra no'
  rw [List.length_cons] at sr
  have gk : ∀ {d : Md} {Q : V -> MH -> Prop} {X : XP} {H' : MH}, Ext H2 H' -> Q (.ref b) H' -> SubW C d (.ref ro) (.int ((i + 1 : Nat) : Int)) H' Q X := fun x k => sub_at (x _ _ o2) (by (clear hl hz hn s0 h4 h7 hn1 k1 k2 k3 k4 hi' hil sr; omega)) hb k
  refine ⟨rfl, _, rfl, ?_⟩
  show wpSs C _ _ [some (.str t), some (.ref ro), some (.ref fl), some (.ref pl), some (.int ((i + 1 : Nat) : Int)), u', u''] _ _ _
  have X5 := x24.trans hx
  refine SS_asg (E_meth (E_dct (c_esc (c_esc (c_esc (c_esc1 ?_))))))
  refine ⟨rfl, by decide, by decide +kernel, fun dc hdc => ?_⟩
  have y1 := hx.more (o := .dcs ((["sum", "stop", "pick", "not"].map Str.ofString).zip [V.int 2, .int 2, .int 3, .int 1])) hdc
  have p1 := (Ext.new (o := .dcs ((["sum", "stop", "pick", "not"].map Str.ofString).zip [V.int 2, .int 2, .int 3, .int 1])) hdc) _ _ hp
  have d1 := upd_self H' dc (.dcs ((["sum", "stop", "pick", "not"].map Str.ofString).zip [V.int 2, .int 2, .int 3, .int 1]))
  generalize upd H' dc (.dcs ((["sum", "stop", "pick", "not"].map Str.ofString).zip [V.int 2, .int 2, .int 3, .int 1])) = H5 at y1 p1 d1
  refine ⟨_, mget_dcs d1, callee_builtin, ?_⟩
  refine Es_cons (E_sub (c_sub_nn rfl rfl ?_))
  refine gk (x24.trans y1) ?_
  refine E_ci ?_
  refine sub_at (i := 0) ((x24.trans y1) _ _ hbr) (by rw [List.length_map, List.length_cons]; (clear hl hz hn hal s0 h4 h7 h8 hn1 k1 k2 k3 k4 hi' hil; omega)) rfl ?_
  refine Es_cons (E_una (E_ci (una_neg (Es_nil ?_))))
  refine cv_gets d1 ?_
  rw [tk_get]
  refine SS_asg ?_
  refine E_fn Dn.fn ?_
  refine Es_cons (E_sli (c_sub_nn rfl rfl ?_))
  refine gk (x24.trans y1) ?_
  refine E_ci (E_cn (E_cn ?_))
  refine sli_list (items_lst ((x24.trans y1) _ _ hbr)) (by rw [List.length_map, List.length_cons]; (clear hl hn hal s0 h4 h7 h8 hn1 k1 k2 k3 k4 hi' hil; omega)) (.int 1) .none fun s2 hs2 => ?_
  rw [show vsl ((e0 :: es).map V.str) (some 1) none = es.map V.str from vsl_tail _ _]
  have y2 := y1.more (o := .lst (es.map .str)) hs2
  have p2 := (Ext.new (o := .lst (es.map .str)) hs2) _ _ p1
  have s2' := upd_self H5 s2 (.lst (es.map .str))
  generalize upd H5 s2 (.lst (es.map .str)) = H6 at y2 p2 s2'
  refine numbers_ct (n := n) (ws := es) G S Dn s2' (by (clear hl hz hn hal s0 h4 h7 h8 hn1 k1 k2 k3 k4 hi' hil; omega)) (fun x hx => sra x (List.mem_cons_of_mem _ hx)) (fun hnm ll H7 x7 hll l7 => ?_) fun hnm H7 x7 => ?_
  rotate_left
  ·refine SS_ife (T_bop (A_or (c_tcmp (E_nm rfl (E_cn ?_)))))
   refine is_none_none' ?_
   refine tru_bool (if_t (if_t (SS_app1 (SS_ret (E_cn ?_)))))
   exact no' (row_no fun q => by rw [q.1] at hnm; cases hnm) _ ((X4.trans y2).trans x7)
  have y3 := y2.trans x7
  have p3 := x7 _ _ p2
  refine SS_ife (T_bop (A_or (c_tcmp (E_nm rfl (E_cn ?_)))))
  refine is_none_ref ?_
  refine tru_bool (if_f (A_or (c_tcmp (E_call (Std.n_len (by assumption)) callee_builtin (c_es1 rfl ?_)))))
  refine cv_len_list (items_lst l7) (by rw [List.length_map, List.length_map]; (clear hl hn hal s0 h4 h7 h8 hn1 k1 k2 k3 k4 hi' hil; omega)) ?_
  rw [List.length_map, List.length_map]
  refine E_nm rfl (cmp_ne_int (tru_bool ?_))
  by_cases m1 : (es.length : Int) = tk e0
  rotate_left
  ·rw [show (!((es.length : Int) == tk e0)) = true by simpa using m1]
   refine if_t (if_t (SS_app1 (SS_ret (E_cn ?_))))
   exact no' (row_no fun q => m1 q.2.1) _ (X4.trans y3)
  rw [show (!((es.length : Int) == tk e0)) = false by rw [m1]; simp]
  have hes : 0 < es.length := by
   unfold tk at m1
   split at m1
   ·(clear hl hz hn hal s0 h4 h7 h8 hn1 k1 k2 k3 k4 hi' hil sr; omega)
   ·rename_i h
    cases hc : es.length with
    | zero => rw [hc] at m1; exact (h m1.symm).elim
    | succ k => (clear hl hz hn hal s0 h4 h7 h8 hn1 k1 k2 k3 k4 hi' hil sr h m1 hc; omega)
  refine if_f (A_or (c_tcmp (E_call (Std.n_max (by assumption)) callee_builtin (c_es1 rfl ?_))))
  refine cv_maxl rfl (items_lst l7) (by rw [List.length_map]; exact hes) fun M hM hMx => ?_
  refine E_bin (E_bin (c_sub_nc rfl ?_))
  refine f1 y3 ?_
  refine E_nm rfl (bin_add (E_ci (bin_sub (cmp_ge (tru_bool ?_)))))
  by_cases m2 : M ≥ numOf w3 + ((i + 1 : Nat) : Int) - 1
  ·rw [decide_eq_true m2]
   refine if_t (if_t (SS_app1 (SS_ret (E_cn ?_))))
   exact no' (row_no fun q => by have := q.2.2 M hM; (clear hl hz hn hal s0 h4 h7 h8 hn1 k1 k2 k3 k4 hi' hil sr m1 hes q; omega)) _ (X4.trans y3)
  rw [decide_eq_false m2]
  have hro := row_yes (i := numOf w3) (k := i) hnm m1 fun l hl => by have := hMx l hl; (clear hz hn hal s0 h4 h7 h8 hn1 k1 k2 k3 k4 hi' hil sr m1 hes; omega)
  refine if_f (A_nil_or (if_f (SS_app0 (SS_exp (E_meth (E_nm rfl ?_))))))
  refine ⟨_, mget_append p3, callee_builtin, ?_⟩
  refine Es_cons (E_call (Std.n_tuple (by assumption)) callee_type (Es_cons (E_bin (E_sli (c_sub_nn rfl rfl ?_)))))
  refine gk (x24.trans y3) ?_
  refine E_cn (E_ci (E_cn ?_))
  refine sli_list (items_lst ((x24.trans y3) _ _ hbr)) (by rw [List.length_map, List.length_cons]; (clear hl hn hal s0 h4 h7 h8 hn1 k1 k2 k3 k4 hi' hil m1 hes m2 hro; omega)) .none (.int 1) fun c4 hc4 => ?_
  rw [show vsl ((e0 :: es).map V.str) none (some 1) = [.str e0] from vsl_one _ _]
  refine E_nm rfl ?_
  refine bin_cat (l := [.str e0]) (m := (es.map numOf).map .int) items_new (items_lst ((Ext.new hc4) _ _ l7)) (by rw [List.length_map, List.length_map]; show 1 + _ <= _; (clear hl hn hal s0 h4 h7 h8 hn1 k1 k2 k3 k4 hi' hil m1 hes m2 hro; omega)) fun c5 hc5 => ?_
  have y5 := (y3.more (o := .lst [.str e0]) hc4).more (o := .lst ([.str e0] ++ (es.map numOf).map .int)) hc5
  have p5 := (Ext.new (o := .lst ([.str e0] ++ (es.map numOf).map .int)) hc5) _ _ ((Ext.new (o := .lst [.str e0]) hc4) _ _ p3)
  have i5 : upd (upd H7 c4 (.lst [.str e0])) c5 (.lst ([.str e0] ++ (es.map numOf).map .int)) c5 = some (.lst (.str e0 :: (es.map numOf).map .int)) := by rw [upd_self]; rfl
  generalize upd (upd H7 c4 (.lst [.str e0])) c5 (.lst ([.str e0] ++ (es.map numOf).map .int)) = H9 at y5 p5 i5
  refine Es_nil ?_
  refine cv_tuple (items_lst i5) (by simp; (clear hl hn hal s0 h4 h7 h8 hn1 k1 k2 k3 k4 hi' hil m1 hes m2 hro; omega)) ?_
  refine Es_nil ?_
  refine cv_append p5 (by rw [List.length_map, List.length_map, List.length_take]; (clear hl hn hal s0 h4 h7 hn1 k1 k2 k3 k4 hi' hil sr m1 hes m2 hro; omega)) ?_
  refine SS_nil (hRR _ _ ⟨⟨_, _, _, rfl⟩, y5.mut hpl, ?_, fun k d hk hd => ?_⟩)
  ·rw [upd_self, List.take_add_one, hri, List.map_append, List.map_append]
   show _ = some (O.lst (_ ++ [pv (partOf (spl sp r))]))
   rw [he]; rfl
  ·by_cases hki : k = i
   ·subst hki; rw [hri] at hd; cases hd; rw [he]; exact hro.1
   ·exact hok k d (by (clear hl hz hn hal s0 h4 h7 h8 hn1 k1 k2 k3 k4 hi' hil sr m1 hes m2 hro; omega)) hd
 ·obtain ⟨⟨u, u', u'', rfl⟩, hx, hp, hok⟩ := hP
  rw [rng_len, show (((Rs.length + 1 : Nat) : Int) - 1).toNat = Rs.length by (clear hl hz hn hal s0 h4 h7 h8 hn1 k1 k2 k3 k4; omega)] at hp hok
  rw [List.take_length] at hp
  refine SS_ret (E_tup (Es_cons (c_sub_nc rfl ?_)))
  refine f0 hx ?_
  refine Es_cons (c_sub_nc rfl ?_)
  refine f1 hx ?_
  refine c_es1 rfl ?_
  refine ⟨show 3 <= sizeLine by decide, ?_⟩
  have etw : twOf (rws t) = ⟨numOf w1, numOf w3, Rs.map fun r => partOf (spl sp r)⟩ := by rw [hrw]; show (⟨numOf w1, numOf w3, (Rs.map (spl sp)).map partOf⟩ : Tw) = _; rw [List.map_map]; rfl
  have := K1 (by
   rw [hrw]
   refine look_iff.mpr ⟨rfl, h5, h6, ⟨by rw [List.length_map]; exact h7, by rw [List.length_map]; exact h8⟩, hn1, ⟨k1, k2⟩, ⟨k3, k4⟩, ?_⟩
   refine zall.mpr fun k r e => ?_
   rw [List.getElem?_map, Option.map_eq_some_iff] at e
   obtain ⟨r', e, rfl⟩ := e
   exact hok k r' (List.getElem?_eq_some_iff.mp e).1 e) pl H' (X4.trans hx) hplH (by rw [etw]; exact hp)
  rw [etw] at this
  exact this
end
end Vc
end
section
set_option maxHeartbeats 2000000
set_option maxRecDepth 100000
namespace Vc
open PySem PyProof.Rows
noncomputable def law_word_vs : Vs := [locv "_law_e", locv "_law_names", locv "_law_found"]
noncomputable def law_word_b : List St :=
  [.asg 1 (.lst [(.tup [(.cs "work"), (.call "isinstance" [(.nm 0), (.gl "BadWork")])]), (.tup [(.cs "given"), (.call "isinstance" [(.nm 0), (.gl "BadGiven")])]), (.tup [(.cs "look"), (.call "isinstance" [(.nm 0), (.gl "BadLook")])])]),
  .asg 1 (.bin .Add (.nm 1) (.lst [(.tup [(.cs "set"), (.call "isinstance" [(.nm 0), (.gl "BadSet")])]), (.tup [(.cs "room"), (.call "isinstance" [(.nm 0), (.gl "HasRoom")])]), (.tup [(.cs "line"), (.call "isinstance" [(.nm 0), (.gl "NoLine")])])])),
  .asg 1 (.bin .Add (.nm 1) (.lst [(.tup [(.cs "none"), (.call "isinstance" [(.nm 0), (.gl "NoLook")])]), (.tup [(.cs "text"), (.call "isinstance" [(.nm 0), (.gl "BadText")])])])),
  .asg 2 (.comp 2 (.nm 3) (.nm 1) [(.nm 4)]),
  .ife (.una .Not (.call "isinstance" [(.nm 0), (.gl "ValueError")])) [.exp (.meth (.nm 2) "append" [(.cs "bare")])] [],
  .ret (.call "tuple" [(.nm 2)])]
noncomputable def law_same_vs : Vs := [locv "_law_found", locv "_law_due", locv "_law_part_here"]
noncomputable def law_same_b : List St :=
  [.ife (.bop .Or [(.una .Not (.call "isinstance" [(.nm 0), (.gl "tuple")])), (.cmp .NotEq (.call "len" [(.nm 0)]) (.ci 3)), (.una .Not (.call "isinstance" [(.sub (.nm 0) (.ci 2)), (.gl "list")])), (.cmp .NotEq (.nm 0) (.nm 1))]) [.ret (.cb false)] [],
  .ife (.bop .Or [(.una .Not (.call "_law_whole" [(.sub (.nm 0) (.ci 0))])), (.una .Not (.call "_law_whole" [(.sub (.nm 0) (.ci 1))]))]) [.ret (.cb false)] [],
  .for [2] (.pl (.sub (.nm 0) (.ci 2))) [.ife (.bop .Or [(.una .Not (.call "isinstance" [(.nm 2), (.gl "tuple")])), (.cmp .NotEq (.comp 1 (.nm 3) (.sli (.nm 2) (.ci 1) .cn .cn) [(.una .Not (.call "_law_whole" [(.nm 3)]))]) (.lst []))]) [.ret (.cb false)] []],
  .ret (.cb true)]
noncomputable def pd (p : Str × List Int) : PyData := .tuple (.str p.1 :: p.2.map .int)
noncomputable def twd (w : Tw) : PyData := .tuple [.int w.r, .int w.i, .list (w.ps.map pd)]
theorem vds_pvs {H : MH} : ∀ l : List (Str × List Int), VDs H (l.map pv) (l.map pd)
 | [] => .nil
 | p :: l => .cons (.tup (.cons (.str p.1) (vds_ints p.2))) (vds_pvs l)
theorem twv_d {H : MH} {w : Tw} {pl : Addr} (h : H pl = some (.lst (w.ps.map pv))) : VD H (twv w pl) (twd w) :=
 .tup (.cons (.int _) (.cons (.int _) (.cons (.lst h (vds_pvs _)) .nil)))
theorem lay_pds : ∀ {l : List (Str × List Int)}, (∀ p ∈ l, PyData.strOk p.1 = true) -> PyData.canLayAll0 (l.map pd) = true
 | [], _ => rfl
 | p :: l, h => by
  show (PyData.canLay0 (pd p) && PyData.canLayAll0 (l.map pd)) = true
  rw [lay_pds fun y hy => h y (by simp [hy]), Bool.and_true]
  show PyData.canLay0 (.tuple (.str p.1 :: p.2.map .int)) = true
  rw [PyData.canLay0]
  show (PyData.canLay0 (.str p.1) && PyData.canLayAll0 (p.2.map .int)) = true
  rw [lay_ints, Bool.and_true, PyData.canLay0]
  exact h p (by simp)
theorem dep_pds : ∀ l : List (Str × List Int), PyData.depthAll (l.map pd) <= 1
 | [] => Nat.zero_le _
 | p :: l => by
  have := dep_pds l
  simp only [List.map_cons, PyData.depthAll, pd, PyData.depth, dep_ints]
  omega
theorem takes_ok {s : Str} (h : takes s ≠ 0) : Asc s := by
 have key : ∀ x : String, (Str.ofString x).cps.toList.all (fun c => decide (c < 128)) = true -> Asc (Str.ofString x) := fun x q c hc => of_decide_eq_true (List.all_eq_true.mp q c hc)
 unfold takes at h
 by_cases h1 : (s == Str.ofString "not") = true
 ·rw [eq_of_beq h1]; exact key _ (by decide +kernel)
 ·rw [if_neg h1] at h
  by_cases h2 : (s == Str.ofString "pick") = true
  ·rw [eq_of_beq h2]; exact key _ (by decide +kernel)
  ·rw [if_neg h2] at h
   by_cases h3 : (s == Str.ofString "sum" || s == Str.ofString "stop") = true
   ·rcases Bool.or_eq_true_iff.mp h3 with h3 | h3
    ·rw [eq_of_beq h3]; exact key _ (by decide +kernel)
    ·rw [eq_of_beq h3]; exact key _ (by decide +kernel)
   ·rw [if_neg h3] at h; exact (h rfl).elim
theorem Gp.lay {w : Tw} (g : Gp w) : (twd w).canLay0 = true /\ (PyData.list (w.ps.map pd)).canLay0 = true := by
 have h : PyData.canLayAll0 (w.ps.map pd) = true := lay_pds fun p hp => asc_ok (takes_ok (g.p p hp).2.2.2.1)
 refine ⟨?_, by rw [PyData.canLay0]; exact h⟩
 unfold twd
 simp only [PyData.canLay0, PyData.canLayAll0, h, Bool.and_true]
theorem twd_dep (w : Tw) : (twd w).depth <= 3 /\ (PyData.list (w.ps.map pd)).depth <= 2 := by
 have := dep_pds w.ps
 unfold twd
 simp only [PyData.depth, PyData.depthAll]
 omega
noncomputable def IsE (C : Cx) (x : String) (b : Bool) : Prop := (∃ cv, C.G x cv) /\ ∀ {d : Md} {H : MH} {Q : V -> MH -> Prop} {X : XP}, Q (.bool b) H -> CallV C d (.builtin "isinstance") [.exc "BadText", .glb x] H Q X
structure WdK (C : Cx) : Prop where
 work : IsE C "BadWork" false
 given : IsE C "BadGiven" false
 look : IsE C "BadLook" false
 set : IsE C "BadSet" false
 room : IsE C "HasRoom" false
 line : IsE C "NoLine" false
 no : IsE C "NoLook" false
 text : IsE C "BadText" true
 val : IsE C "ValueError" true
section
variable {C : Cx} {d : Md} {ρ : Lo} {H : MH} {Q : V -> MH -> Prop} {X : XP} {n : Nat} {q : Bool}
theorem E_isx {x : String} {b : Bool} {i : Nat} (S : Std C) (h : IsE C x b) (hl : lk ρ i = some (.exc "BadText")) (K : Q (.bool b) H) : wpE C d (.call "isinstance" [.nm i, .gl x]) ρ H Q X := by
 refine E_call (Std.n_isinstance S) callee_builtin (Es_cons (E_nm hl (Es_cons ?_)))
 refine Vc.xa_0_2 h fun ho87_0 h2 => ?_
 try clear h
 obtain ⟨cv, hG⟩ := ho87_0
 exact E_gl hG (Es_nil (h2 K))
theorem T_isx {x : String} {b : Bool} {i : Nat} {P : Bool -> MH -> Prop} (S : Std C) (h : IsE C x b) (hl : lk ρ i = some (.exc "BadText")) (K : P b H) : wpT C d (.call "isinstance" [.nm i, .gl x]) ρ H P X :=
 T_call (E_isx S h hl (tru_bool K))
theorem SS_tre {K : KP} {X : XS} {body hb el ts : List St} {c : String} {as : Option Nat} (h : wpSs C d body ρ H (fun f ρ' H' => match f with | .next => wpSs C d el ρ' H' (fun f ρ' H' => match f with | .next => wpSs C d ts ρ' H' K X | .ret v => K (.ret v) ρ' H') X | .ret v => K (.ret v) ρ' H')
   (fun c' ρ' H' => ∃ b, Exm C c' c b /\ if b = true then wpSs C d.in hb (asV as ρ' c') H' (fun f ρ2 H2 => match f with | .next => wpSs C d ts (asO as ρ2) H2 K X | .ret v => K (.ret v) (asO as ρ2) H2) (fun zz zz zz => False) else X c' ρ' H')) : wpSs C d (.tre body c as hb el :: ts) ρ H K X := by
 dsimp only [wpSs, wpS]; exact h
theorem word_ct (G : C.Good) (S : Std C) (W : WdK C) (D : Def C "_law_word" law_word_vs 1 law_word_b) (K : ∀ H', Ext H H' -> Q (.tup [.str (Str.ofString "text")]) H') : CallW C ⟨n + 1, q⟩ "_law_word" [.exc "BadText"] H Q X := by
 have hz : 1000 < sizeLine := by decide
 refine D.call G rfl ?_
 unfold law_word_b
 refine SS_asg (E_lst (Es_cons (E_tup (Es_cons (E_cs (Es_cons (E_isx S W.work rfl (Es_nil ⟨by decide, ?_⟩))))))))
 refine Es_cons (E_tup (Es_cons (E_cs (Es_cons (E_isx S W.given rfl (Es_nil ⟨by decide, ?_⟩))))))
 refine Es_cons (E_tup (Es_cons (E_cs (Es_cons (E_isx S W.look rfl (Es_nil ⟨by decide, Es_nil ⟨by decide, fun a ha => ?_⟩⟩))))))
 refine SS_asg (E_bin (E_nm rfl (E_lst (Es_cons (E_tup (Es_cons (E_cs (Es_cons (E_isx S W.set rfl (Es_nil ⟨by decide, ?_⟩))))))))))
 refine Es_cons (E_tup (Es_cons (E_cs (Es_cons (E_isx S W.room rfl (Es_nil ⟨by decide, ?_⟩))))))
 refine Es_cons (E_tup (Es_cons (E_cs (Es_cons (E_isx S W.line rfl (Es_nil ⟨by decide, Es_nil ⟨by decide, fun b hb => ?_⟩⟩))))))
 refine bin_cat ((Ext.new hb).items items_new) items_new (by decide) fun c hc => ?_
 refine SS_asg (E_bin (E_nm rfl (E_lst (Es_cons (E_tup (Es_cons (E_cs (Es_cons (E_isx S W.no rfl (Es_nil ⟨by decide, ?_⟩))))))))))
 refine Es_cons (E_tup (Es_cons (E_cs (Es_cons (E_isx S W.text rfl (Es_nil ⟨by decide, Es_nil ⟨by decide, fun e he => ?_⟩⟩))))))
 refine bin_cat ((Ext.new he).items items_new) items_new (by decide) fun f hf => ?_
 generalize hH : upd _ f _ = H6
 have x6 : Ext H H6 := by rw [<- hH]; exact (((((Ext.refl H).more ha).more hb).more hc).more he).more hf
 have hit : itemsOf H6 (.ref f) = some [V.tup [.str (Str.ofString "work"), .bool false], .tup [.str (Str.ofString "given"), .bool false], .tup [.str (Str.ofString "look"), .bool false], .tup [.str (Str.ofString "set"), .bool false], .tup [.str (Str.ofString "room"), .bool false], .tup [.str (Str.ofString "line"), .bool false], .tup [.str (Str.ofString "none"), .bool false], .tup [.str (Str.ofString "text"), .bool true]] := by rw [<- hH]; exact items_new
 refine SS_asg (E_comp (E_nm rfl ?_))
 refine ⟨_, ⟨.inr (.inl ⟨f, rfl⟩), fun zz zz zz e => by cases e⟩, hit, by decide, ?_⟩
 refine ⟨hit, _, rfl, ?_⟩
 refine Ts_cons (T_nm (E_nm rfl (tru_bool (if_f (if_f ?_)))))
 refine ⟨hit, _, rfl, ?_⟩
 refine Ts_cons (T_nm (E_nm rfl (tru_bool (if_f (if_f ?_)))))
 refine ⟨hit, _, rfl, ?_⟩
 refine Ts_cons (T_nm (E_nm rfl (tru_bool (if_f (if_f ?_)))))
 refine ⟨hit, _, rfl, ?_⟩
 refine Ts_cons (T_nm (E_nm rfl (tru_bool (if_f (if_f ?_)))))
 refine ⟨hit, _, rfl, ?_⟩
 refine Ts_cons (T_nm (E_nm rfl (tru_bool (if_f (if_f ?_)))))
 refine ⟨hit, _, rfl, ?_⟩
 refine Ts_cons (T_nm (E_nm rfl (tru_bool (if_f (if_f ?_)))))
 refine ⟨hit, _, rfl, ?_⟩
 refine Ts_cons (T_nm (E_nm rfl (tru_bool (if_f (if_f ?_)))))
 refine ⟨hit, _, rfl, ?_⟩
 refine Ts_cons (T_nm (E_nm rfl (tru_bool (if_t (Ts_nil (if_t (E_nm rfl ?_)))))))
 refine ⟨hit, by decide, fun g hg => ?_⟩
 refine SS_ife (T_not (T_isx S W.val rfl ?_))
 refine if_nt (SS_app0 (SS_ret (E_call (Std.n_tuple (by assumption)) callee_type (c_es1 rfl ?_))))
 refine cv_tuple items_new (by decide) ?_
 exact K _ (x6.more hg)
theorem same_ct {w : Tw} {pl pm : Addr} (G : C.Good) (S : Std C) (Dw : Def C "_law_whole" law_whole_vs 1 law_whole_b) (D : Def C "_law_same" law_same_vs 2 law_same_b) (g : Gp w) (h1 : H pl = some (.lst (w.ps.map pv))) (h2 : H pm = some (.lst (w.ps.map pv)))
  (K : ∀ H', Ext H H' -> Q (.bool true) H') : CallW C ⟨n + 2, true⟩ "_law_same" [twv w pl, twv w pm] H Q X := by
 have hz : 1000000 < sizeLine := by decide
 refine D.call G rfl ?_
 unfold law_same_b
 have v1 := twv_d h1
 have v2 := twv_d h2
 unfold twv at v1 v2 ⊢
 refine SS_ife (T_bop (A_or (T_not (T_call (E_call (Std.n_isinstance (by assumption)) callee_builtin (c_ess rfl (Es_cons (E_gl (Std.n_tuple (by assumption)) (Es_nil ?_)))))))))
 refine cv_isi (k := true) S.n_tuple (by rfl) ?_
 refine tru_bool (if_nt (A_or (c_tcmp (E_call (Std.n_len (by assumption)) callee_builtin (c_es1 rfl ?_)))))
 refine cv_len_tup (show 3 <= sizeLine by decide) ?_
 refine E_ci (cmp_ne_int (tru_bool ?_))
 rw [show (!((([V.int w.r, V.int w.i, V.ref pl].length : Nat) : Int) == 3)) = false from rfl]
 refine if_f (A_or (T_not (T_call (E_call (Std.n_isinstance (by assumption)) callee_builtin (Es_cons (c_sub_nc rfl ?_))))))
 refine sub_t2 rfl ?_
 refine Es_cons (E_gl (Std.n_list (by assumption)) (Es_nil ?_))
 refine cv_isi_list (k := true) S.n_list (items_lst h1) (by simp) ?_
 refine tru_bool (if_nt (A_or (c_tcmp_nn rfl rfl ?_)))
 refine cmp_ne v1 v2 g.lay.1 g.lay.1 (by have := twd_dep w; (clear hz; omega)) ?_
 rw [SeqAt.eqv_refl _ g.lay.1]
 refine tru_bool (if_nt (A_nil_or (if_f (SS_app0 (SS_ife (T_bop (A_or (T_not (T_call ?_)))))))))
 refine E_fn Dw.fn ?_
 refine Es_cons (c_sub_nc rfl ?_)
 refine sub_t0 rfl ?_
 refine Es_nil ?_
 refine whole_ct_int G S Dw ?_
 refine tru_bool (if_nt (A_or (T_not (T_call ?_))))
 refine E_fn Dw.fn ?_
 refine Es_cons (c_sub_nc rfl ?_)
 refine sub_t1 rfl ?_
 refine Es_nil ?_
 refine whole_ct_int G S Dw ?_
 refine tru_bool (if_nt (A_nil_or (if_f (SS_app0 ?_))))
 refine SS_for ?_
 refine c_sub_nc rfl ?_
 refine sub_t2 rfl ?_
 refine ⟨_, ⟨.inl rfl, fun zz zz zz e => by cases e⟩, items_lst h1, ?_⟩
 refine for_inv (P := fun i ρ' H' => (∃ u, ρ' = [some (.tup [.int w.r, .int w.i, .ref pl]), some (.tup [.int w.r, .int w.i, .ref pm]), u]) /\ Ext H H') ⟨⟨_, rfl⟩, .refl _⟩
  (fun i z ρ' H' R hP hz' hRR => ?_) fun ρ' H' hP => ?_
 ·refine Vc.xa_0_2 hP fun ho175_0 hx => ?_
  try clear hP
  obtain ⟨u, rfl⟩ := ho175_0
  rw [List.getElem?_map, Option.map_eq_some_iff] at hz'
  refine Vc.xa_1_2 hz' fun p hpi hr177_2 => ?_
  try clear hz'
  subst hr177_2
  refine Vc.xa_0_5 (g.p p (List.mem_of_getElem? hpi)) fun q1 q2 q3 q4 q5 => ?_
  have hlen : (V.str p.1 :: p.2.map V.int).length = p.2.length + 1 := by rw [List.length_cons, List.length_map]
  refine ⟨items_lst (hx _ _ h1), _, rfl, ?_⟩
  show wpSs C _ _ [some (.tup [.int w.r, .int w.i, .ref pl]), some (.tup [.int w.r, .int w.i, .ref pm]), some (.tup (.str p.1 :: p.2.map .int))] _ _ _
  refine SS_ife (T_bop (A_or (T_not (T_call (E_call (Std.n_isinstance (by assumption)) callee_builtin (c_ess rfl (Es_cons (E_gl (Std.n_tuple (by assumption)) (Es_nil ?_)))))))))
  refine cv_isi (k := true) S.n_tuple (by rfl) ?_
  refine tru_bool (if_nt (A_or (c_tcmp ?_)))
  refine E_comp ?_
  refine E_sli (E_nm rfl (E_ci (E_cn (E_cn ?_))))
  refine sli_tup (lo := some 1) (hi := none) (a := 1) (b := (V.str p.1 :: p.2.map V.int).length) (.int 1) .none (adj_from1 (by rw [hlen]; (clear hz q1 q2 q3 q4 hlen; omega))) (Nat.le_refl _) (by rw [hlen]; (clear q1 q3 q4 hlen; omega)) ?_
  rw [show ((V.str p.1 :: p.2.map V.int).drop 1).take ((V.str p.1 :: p.2.map V.int).length - 1) = p.2.map V.int by rw [List.drop_one, List.tail_cons, hlen, Nat.add_sub_cancel]; exact List.take_of_length_le (by rw [List.length_map]; exact Nat.le_refl _)]
  refine ⟨_, ⟨.inl rfl, fun zz zz zz e => by cases e⟩, rfl, by rw [List.length_map]; (clear q1 q3 q4 hlen; omega), ?_⟩
  refine comp_inv (P := fun i acc H'' => acc = [] /\ H' = H'') ⟨rfl, rfl⟩ (fun j x acc H'' R' hQ hxi hR2 => ?_) fun acc H'' hQ => ⟨rfl, ?_⟩
  ·refine Vc.xa_0_2 hQ fun hr191_0 hr191_1 => ?_
   try clear hQ
   subst hr191_0
   subst hr191_1
   rw [List.getElem?_map, Option.map_eq_some_iff] at hxi
   refine Vc.xa_1_2 hxi fun y hyi hr193_2 => ?_
   try clear hxi
   subst hr193_2
   refine ⟨rfl, _, rfl, ?_⟩
   refine Ts_cons (T_not (T_call ?_))
   refine E_fn Dw.fn ?_
   refine c_es1 rfl ?_
   refine whole_ct_int G S Dw ?_
   refine tru_bool (if_nt (if_f ?_))
   exact hR2 _ _ ⟨rfl, rfl⟩
  refine Vc.xa_0_2 hQ fun hr201_0 hr201_1 => ?_
  try clear hQ
  subst hr201_0
  subst hr201_1
  refine ⟨by decide, fun r hr => ?_⟩
  refine E_lst (Es_nil ?_)
  refine ⟨by decide, fun r2 hr2 => ?_⟩
  refine cmp_ne (.lst ((Ext.new hr2) _ _ (upd_self ..)) .nil) (.lst (upd_self ..) .nil) rfl rfl (by decide) ?_
  rw [SeqAt.eqv_refl _ rfl]
  refine tru_bool (if_nt (A_nil_or (if_f (SS_app0 ?_))))
  exact hRR _ _ ⟨⟨_, rfl⟩, (hx.more hr).more hr2⟩
 ·refine Vc.xa_0_2 hP fun ho209_0 hx => ?_
  try clear hP
  obtain ⟨u, rfl⟩ := ho209_0
  refine ⟨items_lst (hx _ _ h1), ?_⟩
  refine c_ret_b ?_
  exact K _ hx
end
end Vc
end
section
set_option maxHeartbeats 2000000
set_option maxRecDepth 100000
namespace Vc
open PySem PyProof.Rows
noncomputable def law14_vs : Vs := [locv "_law_script", locv "_law_work_here", locv "_law_kept", locv "_law_text_here", locv "_law_due", locv "_law_turn", locv "_law_found", locv "_law_e"]
noncomputable def law14_b : List St :=
  [.asg 1 (.call "_law_work" [(.nm 0), (.ci 10)]),
  .asg 2 (.call "list" [(.sub (.nm 1) (.ci 2))]),
  .asg 3 (.call "written" [(.nm 1)]),
  .ife (.bop .Or [(.una .Not (.call "isinstance" [(.nm 3), (.gl "str")])), (.cmp .NotEq (.nm 3) (.call "_law_text" [(.nm 1)])), (.cmp .NotEq (.sub (.nm 1) (.ci 2)) (.nm 2))]) [.ret (.cb false)] [],
  .ife (.cmp .Gt (.bin .Mod (.call "_law_mixed" [(.nm 0), (.ci 20)]) (.ci 3)) (.ci 0)) [.asg 3 (.call "_law_changed" [(.nm 3), (.call "_law_mixed" [(.nm 0), (.ci 21)])])] [],
  .asg 4 (.call "_law_look_at" [(.nm 3)]),
  .for [5] (.pl (.call "range" [(.ci 2)])) [.tre [.asg 6 (.call "read" [(.nm 3)])] "WorkError" (some 7) [.ife (.bop .Or [(.cmp .IsNot (.nm 4) .cn), (.cmp .NotEq (.call "_law_word" [(.nm 7)]) (.tup [(.cs "text")]))]) [.ret (.cb false)] []] [.ife (.bop .Or [(.cmp .Is (.nm 4) .cn), (.una .Not (.call "_law_same" [(.nm 6), (.nm 4)]))]) [.ret (.cb false)] [],
  .exp (.meth (.sub (.nm 6) (.ci 2)) "clear" [])]],
  .ret (.cmp .Eq (.call "read" [(.call "_law_text" [(.nm 1)])]) (.nm 1))]
noncomputable def twk (w : Wk) : Tw := ⟨w.ring, (w.inp : Int), w.ps.map fun p => (Str.ofString p.w.name, p.ls.map fun (l : Nat) => (l : Int))⟩
theorem twk_ps (w : Wk) : (twk w).ps.map pv = w.ps.map Pt.v := by
 show (w.ps.map fun p => (Str.ofString p.w.name, p.ls.map fun (l : Nat) => (l : Int))).map pv = _
 rw [List.map_map]
 refine List.map_congr_left fun p zz => ?_
 show V.tup (.str (Str.ofString p.w.name) :: (p.ls.map fun (l : Nat) => (l : Int)).map V.int) = V.tup (.str (Str.ofString p.w.name) :: p.ls.map fun (l : Nat) => V.int l)
 rw [List.map_map]; rfl
theorem takes_ar (w : Wd) : takes (Str.ofString w.name) = (w.ar : Int) /\ 1 <= w.ar := by cases w <;> decide +kernel
theorem twk_ok {w : Wk} (h : w.Ok 10) : workOk (twk w) = true := by
 unfold workOk
 have hl : (twk w).ps.length = w.ps.length := List.length_map ..
 have h1 := h.r1; have h2 := h.r2; have h3 := h.i1; have h4 := h.i2; have h5 := h.p1; have h6 := h.p2
 simp only [Bool.and_eq_true, decide_eq_true_eq]
 refine ⟨⟨⟨⟨⟨⟨h1, h2⟩, by show (1 : Int) <= (w.inp : Int); (clear hl h1 h2 h4 h5 h6; omega)⟩, by show (w.inp : Int) <= 6; (clear hl h1 h2 h3 h5 h6; omega)⟩, by (clear h1 h2 h3 h4 h6; omega)⟩, by (clear h1 h2 h3 h4 h5; omega)⟩, ?_⟩
 refine zall.mpr fun k p hk => ?_
 replace hk : (w.ps.map fun p => (Str.ofString p.w.name, p.ls.map fun (l : Nat) => (l : Int)))[k]? = some p := hk
 rw [List.getElem?_map, Option.map_eq_some_iff] at hk
 obtain ⟨p, hk, rfl⟩ := hk
 obtain ⟨q1, q2⟩ := h.pt k p hk
 refine Vc.xa_0_2 (takes_ar p.w) fun t1 t2 => ?_
 unfold partOk
 simp only [Bool.and_eq_true, List.all_eq_true]
 refine ⟨⟨decide_eq_true (by rw [List.length_map]; (clear hl h1 h2 h3 h4 h5 h6 t1; omega)), decide_eq_true (by rw [List.length_map, t1, q1])⟩, fun l hl' => ?_⟩
 refine Vc.xa_1_2 (List.mem_map.mp hl') fun m hm hr43_2 => ?_
 subst hr43_2
 have := q2 m hm
 exact ⟨decide_eq_true (by (clear hl h1 h2 h3 h4 h5 h6 q1 t1 t2 this; omega)), decide_eq_true (by show (m : Int) <= (w.inp : Int) + (k : Int) - 1; (clear hl h1 h2 h3 h4 h5 h6 q1 t1 t2; omega))⟩
theorem Gp.free {w : Tw} (g : Gp w) : ∀ r ∈ rowsOf w, r ≠ [] /\ ∀ x ∈ r, Fre x /\ Asc x := fun r hr => by
 have key : ∀ x : String, (Str.ofString x).cps.toList.all (fun c => decide (c < 128)) = true -> Asc (Str.ofString x) := fun x q c hc => of_decide_eq_true (List.all_eq_true.mp q c hc)
 have num : ∀ i : Int, 0 <= i -> i < 100 -> Fre (nstr i) /\ Asc (nstr i) := fun i h0 h1 => ⟨nstr_fre h0 h1, fig_asc (num_is h0 h1).2.2⟩
 have hr1 := g.r; have hi1 := g.i
 rcases List.mem_cons.mp hr with rfl | hr
 ·refine ⟨(by intro q; cases q), fun x hx => ?_⟩
  unfold headOf at hx
  simp only [List.mem_cons, List.not_mem_nil, or_false] at hx
  rcases hx with rfl | rfl | rfl | rfl
  ·exact ⟨⟨by decide, by decide⟩, key _ (by decide +kernel)⟩
  ·exact num _ (by (clear hi1; omega)) (by (clear hi1; omega))
  ·exact ⟨⟨by decide, by decide⟩, key _ (by decide +kernel)⟩
  ·exact num _ (by (clear hr1; omega)) (by (clear hr1; omega))
 ·refine Vc.xa_1_2 (List.mem_map.mp hr) fun p hp1 hr59_2 => ?_
  subst hr59_2
  refine Vc.xa_0_5 (g.p p hp1) fun q1 q2 q3 q4 q5 => ?_
  refine ⟨(by intro q; cases q), fun x hx => ?_⟩
  rcases List.mem_cons.mp hx with rfl | hx
  ·exact ⟨takes_fre q4, takes_ok q4⟩
  ·refine Vc.xa_1_2 (List.mem_map.mp hx) fun l hl hr64_2 => ?_
   subst hr64_2
   exact num l (q5 l hl).1 (q5 l hl).2
theorem Gp.spl {w : Tw} (g : Gp w) : Vc.spl nl (Vc.writ w) = (rowsOf w).map (jn1 sp) :=
 split_of (fun p hp => by obtain ⟨r, h1, rfl⟩ := List.mem_map.mp hp; exact row_free fun x hx => ((g.free r h1).2 x hx).1) (by intro q; cases q) rfl
theorem Gp.asc {w : Tw} (g : Gp w) : Asc (Vc.writ w) := asc_jn (by decide) fun y hy => by
 refine Vc.xa_1_2 (List.mem_map.mp hy) fun r h1 hr69_2 => ?_
 subst hr69_2
 exact asc_jn (by decide) fun x hx => ((g.free r h1).2 x hx).2
theorem jn_ge (c : Nat) (x : Str) : ∀ l : List Str, x.length <= (jn1 c (x :: l)).length
 | [] => Nat.le_refl _
 | y :: l => by rw [jn_cons, len_app, len_app]; omega
theorem Gp.one {w : Tw} (g : Gp w) : 1 <= (Vc.writ w).length := by
 have h1 := jn_ge nl (jn1 sp (headOf w)) ((w.ps.map wordsOf).map (jn1 sp))
 have h2 := jn_ge sp (Str.ofString "ring") [nstr w.r, Str.ofString "inputs", nstr w.i]
 have h3 : (Str.ofString "ring").length = 4 := by decide +kernel
 have h1 : (jn1 sp (headOf w)).length <= (Vc.writ w).length := h1
 have h2 : (Str.ofString "ring").length <= (jn1 sp (headOf w)).length := h2
 omega
section
variable {C : Cx} {d : Md} {H : MH} {Q : V -> MH -> Prop} {X : XP}
theorem is_none_tup {l : List V} (q : Q (.bool false) H) : CmpW C d .Is (.tup l) .none H Q X := fun A s ca cb ok ra rb => by
 dsimp only [VR] at ra; dsimp only [VR] at rb; obtain ⟨a, items, ⟨rfl, _⟩, _⟩ := ra; subst rb
 exact is_none_ne (by simp) (qp ok.refl .bool_ q)
end
theorem text_lay : (PyData.tuple [.str (Str.ofString "text")]).canLay0 = true := by decide +kernel
section
variable {C : Cx} {X : XP} {a : Addr} {ns : List Int}
theorem law14 {vp : Vs} (R : RdD C) (E : WdK C) (hE : Exm C "BadText" "WorkError" true)
  (Dc : Def C "_law_cell" law_cell_vs 2 law_cell_b) (Dm : Def C "_law_mixed" law_mixed_vs 2 law_mixed_b) (Dwh : Def C "_law_whole" law_whole_vs 1 law_whole_b) (Dp : Def C "_law_part" vp 2 law_part_b) (hvp : vp.length = 6) (Dk : Def C "_law_work" law_work_vs 2 law_work_b)
  (Dwd : Def C "_law_word" law_word_vs 1 law_word_b) (Dt : Def C "_law_text" law_text_vs 1 law_text_b) (Ds : Def C "_law_sign" law_sign_vs 1 law_sign_b) (Dch : Def C "_law_changed" law_changed_vs 2 law_changed_b) (Dn : Def C "_law_numbers" law_numbers_vs 1 law_numbers_b)
  (Dla : Def C "_law_look_at" law_look_at_vs 1 law_look_at_b) (Dsm : Def C "_law_same" law_same_vs 2 law_same_b) (D : Def C "law" law14_vs 1 law14_b) (hl : ns.length <= 63) :
  CallW C ⟨60, true⟩ "law" [.ref a] (H0 a ns) (fun v zz => v = .bool true) X := by
 have hz : 1000000 < sizeLine := by decide
 have G := R.G; have S := R.S
 refine D.call G rfl ?_
 unfold law14_b
 have h0 : H0 a ns a = some (.fro (ns.map .int)) := if_pos rfl
 generalize H0 a ns = H at h0
 refine SS_asg ?_
 refine E_fn Dk.fn ?_
 refine c_ess rfl (c_esc1 ?_)
 refine work_ct (n := 56) (most := 10) G S Dc Dm Dp hvp Dk h0 hl (by decide) (by decide) fun w0 pa H1 hw x1 hpa0 p1 => ?_
 have a1 := x1 _ _ h0
 clear x1 h0
 have hok := twk_ok hw
 rw [<- twk_ps] at p1
 rw [show w0.v pa = twv (twk w0) pa from rfl]
 generalize twk w0 = w at p1 hok
 have g := gp_of hok
 have gn := g.n
 clear hw hpa0
 refine SS_asg (E_call (Std.n_list (by assumption)) callee_type (Es_cons (c_sub_nc rfl ?_)))
 unfold twv
 refine sub_t2 rfl ?_
 refine Es_nil ?_
 refine cv_list (.inl ⟨_, rfl⟩) (items_lst p1) (by rw [List.length_map]; (clear hvp hl; omega)) fun kl hkl => ?_
 have a2 := (Ext.new (o := .lst (w.ps.map pv)) hkl) _ _ a1
 have p2 := (Ext.new (o := .lst (w.ps.map pv)) hkl) _ _ p1
 have k2 := upd_self H1 kl (.lst (w.ps.map pv))
 generalize upd H1 kl (.lst (w.ps.map pv)) = H2 at a2 p2 k2
 clear a1 p1 hkl
 refine SS_asg ?_
 refine E_fn R.w.fn ?_
 refine c_es1 rfl ?_
 refine written_ct (n := 58) (w := w) G S R.w g p2 fun H3 x3 => ?_
 refine SS_ife (T_bop (A_or (T_not (T_call (E_call (Std.n_isinstance (by assumption)) callee_builtin (c_ess rfl (Es_cons (E_gl (Std.n_str (by assumption)) (Es_nil ?_)))))))))
 refine cv_isi (k := true) S.n_str (by rfl) ?_
 refine tru_bool (if_nt (A_or (c_tcmp (E_nm rfl ?_))))
 refine E_fn Dt.fn ?_
 refine c_es1 rfl ?_
 refine ltext_ct (n := 58) (w := w) G S Dt g (x3 _ _ p2) fun H4 x4 => ?_
 have a4 := (x3.trans x4) _ _ a2
 have p4 := (x3.trans x4) _ _ p2
 have k4 := (x3.trans x4) _ _ k2
 clear a2 p2 k2 x3 x4
 refine cmp_ne_str ?_
 rw [show (writ w != writ w) = false from bne_self_eq_false _]
 refine tru_bool (if_f (A_or (c_tcmp (c_sub_nc rfl ?_))))
 refine sub_t2 rfl ?_
 refine E_nm rfl ?_
 refine cmp_ne (.lst p4 (vds_pvs _)) (.lst k4 (vds_pvs _)) g.lay.2 g.lay.2 (by have := twd_dep w; (clear hvp hl hz gn; omega)) ?_
 rw [SeqAt.eqv_refl _ g.lay.2]
 refine tru_bool (if_nt (A_nil_or (if_f (SS_app0 ?_))))
 refine SS_join (J := fun ρ' H' => ∃ y : Str, (Asc y /\ y.length <= 1500) /\ ρ' = [some (.ref a), some (.tup [.int w.r, .int w.i, .ref pa]), some (.ref kl), some (.str y), none, none, none, none] /\ Ext H4 H') (fun ρ' H' hJ => ?_) fun R' hR => ?_
 rotate_left
 ·refine c_tcmp (E_bin ?_)
  refine E_fn Dm.fn ?_
  refine c_ess rfl (c_esc1 ?_)
  refine mixed_ct (n := 57) G Dc Dm a4 hl (by decide) fun H5 x5 => ?_
  refine E_ci ?_
  refine bin_modp (by decide) ?_
  refine E_ci (cmp_gt (tru_bool ?_))
  split
  ·refine SS_asg ?_
   refine E_fn Dch.fn ?_
   refine c_ess rfl (Es_cons ?_)
   refine E_fn Dm.fn ?_
   refine c_ess rfl (c_esc1 ?_)
   refine mixed_ct (n := 57) G Dc Dm (x5 _ _ a4) hl (by decide) fun H6 x6 => ?_
   refine Es_nil ?_
   have hBs := g.spl
   refine changed_ct (n := 57) G S Ds Dch g.asc g.one g.writ ⟨by rw [hBs, List.length_map]; show (headOf w :: w.ps.map wordsOf).length <= 11; rw [List.length_cons, List.length_map]; (clear hvp hl hz; omega), by rw [hBs]; exact g.rows⟩ (mixed_ge ..) fun y H7 x7 hy hyl => ?_
   exact SS_nil (hR _ _ ⟨y, ⟨hy, hyl⟩, rfl, (x5.trans x6).trans x7⟩)
  ·exact SS_nil (hR _ _ ⟨writ w, ⟨g.asc, by have := g.writ; (clear hvp hl hz gn; omega)⟩, rfl, x5⟩)
 refine Vc.xa_1_3 hJ fun y ho170_1 hr170_2 x5 => ?_
 try clear hJ
 obtain ⟨hy, hyl⟩ := ho170_1
 subst hr170_2
 have p5 := x5 _ _ p4
 generalize H' = H5 at p5
 clear x5 p4 k4 a4
 have fin : ∀ {u5 u6 u7 u4 : Option V} {H' : MH}, Ext H5 H' -> wpSs C ⟨59, true⟩ [.ret (.cmp .Eq (.call "read" [(.call "_law_text" [(.nm 1)])]) (.nm 1))] [some (.ref a), some (.tup [.int w.r, .int w.i, .ref pa]), some (.ref kl), some (.str y), u4, u5, u6, u7] H' (kRt (fun v zz => v = .bool true)) (kXt X) := by
  intro u5 u6 u7 u4 H' x
  refine SS_ret (E_cmp ?_)
  refine E_fn R.r.fn ?_
  refine Es_cons ?_
  refine E_fn Dt.fn ?_
  refine c_es1 rfl ?_
  refine ltext_ct (n := 58) (w := w) G S Dt g (x _ _ p5) fun H6 x6 => ?_
  refine Es_nil ?_
  refine Vc.xa_0_2 (read_back hok) fun b1 b2 => ?_
  have gw := g.writ
  refine read_ct (n := 53) R (by (clear hvp hl hz gn hyl; omega)) (fun zz pl H7 x7 hpl p7 => ?_) fun e => by rw [b1] at e; cases e
  rw [b2] at p7 ⊢
  refine E_nm rfl ?_
  refine cmp_eq (twv_d p7) (twv_d (x7 _ _ (x6 _ _ (x _ _ p5)))) g.lay.1 g.lay.1 (by have := twd_dep w; (clear hvp hl hz gn hyl gw; omega)) ?_
  rw [SeqAt.eqv_refl _ g.lay.1]
 refine SS_asg ?_
 refine E_fn Dla.fn ?_
 refine c_es1 rfl ?_
 have hrd := read_is y
 refine look_at_ct (n := 57) G S Dn Dla hy hyl (fun hk dl H6 x6 hdl d6 => ?_) fun hk H6 x6 => ?_
 ·have hok2 : workOk (twOf (rws y)) = true := by
   rw [hk] at hrd; unfold readT at hrd; simp only [Bool.and_eq_true] at hrd; exact hrd.1.2
  have g2 := gp_of hok2
  have gn2 := g2.n
  generalize hv : twOf (rws y) = v at *
  refine SS_for ?_
  refine E_call (Std.n_range (by assumption)) callee_type (c_esc1 ?_)
  refine cv_range1 ?_
  refine ⟨_, itq_rng rfl (by (clear hvp hl hz gn hyl gn2; omega)) (by (clear hvp hl hz gn hyl gn2; omega)) (by (clear hvp hl hz gn hyl gn2; omega)) (by (clear hvp hl hz gn hyl gn2; omega)), rfl, ?_⟩
  refine for_inv (P := fun i ρ' H' => (∃ u5 u6 u7, ρ' = [some (.ref a), some (.tup [.int w.r, .int w.i, .ref pa]), some (.ref kl), some (.str y), some (twv v dl), u5, u6, u7]) /\ Ext H6 H') ⟨⟨_, _, _, rfl⟩, .refl _⟩
   (fun i z ρ' H' R' hP hz' hRR => ?_) fun ρ' H' hP => ⟨rfl, ?_⟩
  ·refine Vc.xa_0_2 hP fun ho207_0 hx => ?_
   try clear hP
   obtain ⟨u5, u6, u7, rfl⟩ := ho207_0
   refine Vc.xa_0_2 (rng_get hz') fun hr208_0 hi' => ?_
   subst hr208_0
   refine ⟨rfl, _, rfl, ?_⟩
   show wpSs C _ _ [some (.ref a), some (.tup [.int w.r, .int w.i, .ref pa]), some (.ref kl), some (.str y), some (twv v dl), some (.int (0 + i)), u6, u7] _ _ _
   refine SS_tre ?_
   refine SS_asg ?_
   refine E_fn R.r.fn ?_
   refine c_es1 rfl ?_
   refine read_ct (n := 53) R hyl (fun zz pl H7 x7 hpl p7 => ?_) fun e => by rw [hrd, hk] at e; cases e
   rw [hv] at p7 ⊢
   refine SS_nil ?_
   dsimp only
   unfold twv
   refine SS_ife (T_bop (A_or (c_tcmp (E_nm rfl (E_cn ?_)))))
   refine is_none_tup ?_
   refine tru_bool (if_f (A_or (T_not (T_call ?_))))
   refine E_fn Dsm.fn ?_
   refine c_es2 rfl rfl ?_
   refine same_ct (n := 57) (w := v) (pl := pl) (pm := dl) G S Dwh Dsm g2 p7 (x7 _ _ (hx _ _ d6)) fun H8 x8 => ?_
   refine tru_bool (if_nt (A_nil_or (if_f (SS_app0 (SS_exp (E_meth (c_sub_nc rfl ?_)))))))
   refine sub_t2 rfl ?_
   refine ⟨_, mget_l (x8 _ _ p7) PySem.F.slot_list_clear PySem.F.type_list_clear, callee_builtin, ?_⟩
   refine Es_nil ?_
   refine cv_clear (x8 _ _ p7) (by rw [List.length_map]; (clear hvp hl gn hyl hi'; omega)) ?_
   exact SS_nil (hRR _ _ ⟨⟨_, _, _, rfl⟩, hx.trans ((x7.trans x8).mut hpl)⟩)
  ·refine Vc.xa_0_2 hP fun ho234_0 hx => ?_
   try clear hP
   obtain ⟨u5, u6, u7, rfl⟩ := ho234_0
   exact fin (x6.trans hx)
 ·rw [hk] at hrd
  refine SS_for ?_
  refine E_call (Std.n_range (by assumption)) callee_type (c_esc1 ?_)
  refine cv_range1 ?_
  refine ⟨_, itq_rng rfl (by (clear hvp hl hz gn hyl; omega)) (by (clear hvp hl hz gn hyl; omega)) (by (clear hvp hl hz gn hyl; omega)) (by (clear hvp hl hz gn hyl; omega)), rfl, ?_⟩
  refine for_inv (P := fun i ρ' H' => (∃ u5 u6 u7, ρ' = [some (.ref a), some (.tup [.int w.r, .int w.i, .ref pa]), some (.ref kl), some (.str y), some .none, u5, u6, u7]) /\ Ext H6 H') ⟨⟨_, _, _, rfl⟩, .refl _⟩
   (fun i z ρ' H' R' hP hz' hRR => ?_) fun ρ' H' hP => ⟨rfl, ?_⟩
  ·refine Vc.xa_0_2 hP fun ho244_0 hx => ?_
   try clear hP
   obtain ⟨u5, u6, u7, rfl⟩ := ho244_0
   refine Vc.xa_0_2 (rng_get hz') fun hr245_0 hi' => ?_
   subst hr245_0
   refine ⟨rfl, _, rfl, ?_⟩
   show wpSs C _ _ [some (.ref a), some (.tup [.int w.r, .int w.i, .ref pa]), some (.ref kl), some (.str y), some .none, some (.int (0 + i)), u6, u7] _ _ _
   refine SS_tre ?_
   refine SS_asg ?_
   refine E_fn R.r.fn ?_
   refine c_es1 rfl ?_
   refine read_ct (n := 53) R hyl (fun e => by rw [hrd] at e; cases e) fun zz H7 x7 => ⟨true, hE, ?_⟩
   refine if_t ?_
   show wpSs C _ _ [some (.ref a), some (.tup [.int w.r, .int w.i, .ref pa]), some (.ref kl), some (.str y), some .none, some (.int (0 + i)), u6, some (.exc "BadText")] _ _ _
   refine SS_ife (T_bop (A_or (c_tcmp (E_nm rfl (E_cn ?_)))))
   refine isnot_none_none' ?_
   refine tru_bool (if_f (A_or (c_tcmp ?_)))
   refine E_fn Dwd.fn ?_
   refine c_es1 rfl ?_
   refine word_ct (n := 58) (q := false) G S E Dwd fun H8 x8 => ?_
   refine E_tup (Es_cons (E_cs (Es_nil ?_)))
   refine ⟨show 1 <= sizeLine by decide, ?_⟩
   refine cmp_ne (.tup (.cons (.str _) .nil)) (.tup (.cons (.str _) .nil)) text_lay text_lay (by simp [PyData.depth, PyData.depthAll]) ?_
   rw [SeqAt.eqv_refl _ text_lay]
   refine tru_bool (if_nt (A_nil_or (if_f (SS_app0 ?_))))
   exact SS_nil (hRR _ _ ⟨⟨_, _, _, rfl⟩, (hx.trans x7).trans x8⟩)
  ·refine Vc.xa_0_2 hP fun ho267_0 hx => ?_
   try clear hP
   obtain ⟨u5, u6, u7, rfl⟩ := ho267_0
   exact fin (x6.trans hx)
end
end Vc
end
open PySem PySem.W PyProof.Rows
set_option Elab.async false
set_option maxRecDepth 100000
set_option maxHeartbeats 8000000
namespace Vc
noncomputable def law14_part_vs : Vs := [locv "_law_cell_here", locv "_law_lines", locv "_law_word_here", locv "_law_taken", locv "_law_k", locv "_law_near"]
end Vc
namespace Mine
section
variable {C : Vc.Cx} {P : Params} {mean : ExcName -> Option Value} (G : C.Good) (S : Vc.Std C) (T : Top (Vc.view PySem.Challenge.pw_uf020014_14) [] mean C.mg C.mb C.h0) (KX : (K14 P).In C.h0)
theorem gs_const {p : Program} {mean : ExcName -> Option Value} {C : Vc.Cx} (T : Top p [] mean C.mg C.mb C.h0) {x : String} {i : Str} (h : valOf p (Str.ofString x) = some (.str i)) : Vc.GS C x i := by
 refine Vc.xa_1_2 (T.const _ _ h) fun v h1 h2 => ?_
 have := h2 C.h0
 cases this with
 | str _ t => exact ⟨t, .inl h1⟩
include G KX
theorem gText : C.G "BadText" (.ref 121) := Vc.own_g G KX (by kernel_rfl)
theorem gWork : C.G "BadWork" (.ref 37) := Vc.own_g G KX (by kernel_rfl)
theorem isOwn {x : String} {r : Addr} {b : Bool} (g : nsIn (K14 P) mainGlobals (Str.ofString x) = some (some (.ref r))) (k : kitOne (K14 P) (.ref 121) (.ref r) = some b) : Vc.IsE C x b :=
 ⟨⟨_, Vc.own_g G KX g⟩, fun q => Vc.isx KX (gText G KX) (Vc.own_g G KX g) (by kernel_rfl) k q⟩
include T
theorem isVal : Vc.IsE C "ValueError" true :=
 have g : C.G "ValueError" (.type "ValueError") := Vc.g_blt T (by kernel_rfl)
 ⟨⟨_, g⟩, fun q => Vc.isx KX (gText G KX) g (by kernel_rfl) (by kernel_rfl) q⟩
theorem wdk : Vc.WdK C where
 work := isOwn G KX (r := 37) (by kernel_rfl) (by kernel_rfl)
 given := isOwn G KX (r := 49) (by kernel_rfl) (by kernel_rfl)
 look := isOwn G KX (r := 61) (by kernel_rfl) (by kernel_rfl)
 set := isOwn G KX (r := 73) (by kernel_rfl) (by kernel_rfl)
 room := isOwn G KX (r := 85) (by kernel_rfl) (by kernel_rfl)
 line := isOwn G KX (r := 97) (by kernel_rfl) (by kernel_rfl)
 no := isOwn G KX (r := 109) (by kernel_rfl) (by kernel_rfl)
 text := isOwn G KX (r := 121) (by kernel_rfl) (by kernel_rfl)
 val := isVal G T KX
omit T in theorem exmW : Vc.Exm C "BadText" "WorkError" true := Vc.exm_of KX (gText G KX) (Vc.own_g G KX (D := 24) (by kernel_rfl)) (by kernel_rfl)
omit T in theorem exmB : Vc.Exm C "BadWork" "BadWork" true := Vc.exm_of KX (gWork G KX) (gWork G KX) (by kernel_rfl)
include S
theorem rdd : Vc.RdD C where
 G := G
 S := S
 rw := fun hq hX => Vc.rai_of G T (by kernel_rfl) (by decide +kernel) hq hX
 rt := fun hq hX => Vc.rai_of G T (by kernel_rfl) (by decide +kernel) hq hX
 rh := fun hX => Vc.rai_h G T (by kernel_rfl) hX
 xm := exmB G KX
 g1 := Vc.gi_const T (by kernel_rfl)
 g2 := Vc.gi_const T (by kernel_rfl)
 g3 := Vc.gi_const T (by kernel_rfl)
 g4 := Vc.gi_const T (by kernel_rfl)
 g5 := gs_const T (by kernel_rfl)
 a := Vc.def_of T (by kernel_rfl)
 l := Vc.def_of T (by kernel_rfl)
 p := Vc.def_of T (by kernel_rfl)
 n := Vc.def_of T (by kernel_rfl)
 w := Vc.def_of T (by kernel_rfl)
 f := Vc.def_of T (by kernel_rfl)
 r := Vc.def_of T (by kernel_rfl)
end
theorem main {w : World} {s₁ : Shared} {mg mb : Str -> Option Value} {mean : ExcName -> Option Value} {fa a : Addr} {vs : List Value} {ns : List Int} (T : Top (Vc.view PySem.Challenge.pw_uf020014_14) [] mean mg mb s₁.heap) (KX : (K14 w.params).In s₁.heap)
  (hL : s₁.heap.IsList a vs.toArray) (hI : IntsAre vs ns) (hg : s₁.gens = #[]) (hmg : mg "law" = some (.ref fa)) (hlen : ns.length <= 63) :
  wpAny (Vc.Cx.M ⟨PySem.Challenge.pw_uf020014_14, w, s₁.heap, mg, mb⟩) callerA (call (.ref fa) [.ref a]) (fun v s' => v = .bool true /\ (∀ b o, s₁.heap.get? b = some o -> s'.heap.get? b = some o) /\ s'.gens = #[] /\ s'.os = s₁.os) (fun zz zz => False) s₁ := by
 have GD : Vc.Cx.Good ⟨PySem.Challenge.pw_uf020014_14, w, s₁.heap, mg, mb⟩ := Vc.good_of T
 have SD : Vc.Std ⟨PySem.Challenge.pw_uf020014_14, w, s₁.heap, mg, mb⟩ := Vc.std_of T (by kernel_rfl)
 exact Vc.start (p := PySem.Challenge.pw_uf020014_14) (w := w) (mb := mb) hL hI hg hmg (Vc.law14 (vp := Vc.law14_part_vs) (rdd GD SD T KX) (wdk GD T KX) (exmW GD KX)
  (Vc.def_of T (by kernel_rfl)) (Vc.def_of T (by kernel_rfl)) (Vc.def_of T (by kernel_rfl)) (Vc.def_of T (by kernel_rfl)) rfl (Vc.def_of T (by kernel_rfl)) (Vc.def_of T (by kernel_rfl)) (Vc.def_of T (by kernel_rfl)) (Vc.def_of T (by kernel_rfl)) (Vc.def_of T (by kernel_rfl)) (Vc.def_of T (by kernel_rfl)) (Vc.def_of T (by kernel_rfl)) (Vc.def_of T (by kernel_rfl)) (Vc.def_of T (by kernel_rfl)) hlen)
end Mine
theorem PySem.Challenge.cw_uf020014_14_holds : PySem.Challenge.rw_uf020014_14.Holds := by
 w_on
 refine holds_law Mine.said fun said => ?_
 refine holds_open (q := Vc.view PySem.Challenge.pw_uf020014_14) (loose := []) (Xt := Mine.xt14) (XP := XL (Vc.view PySem.Challenge.pw_uf020014_14) []) (Yf := Hook.obs Mine.hk14) (Ya := Hook.val Mine.hk14) (YP := Hook.says Mine.hk14) (N := 5236) Mine.left (Hook.of Mine.hk14) (Hook.keeps Mine.hk14) (fun s e => xl_of s (Bool.and_eq_true_iff.mp e).1) XL.keeps (by rfl) (by rfl) (by rfl) (fun s e => recFacts_of (Bool.and_eq_true_iff.mp e).2) (by rfl) said (by kernel_rfl) ⟨rfl, rfl, rfl, rfl, rfl, by decide +kernel⟩ ?hw ?hc
 case hw => w_witness2
 intro w s₀ s₁ mg mb G Y fa o pm cd doc dV kV ho hd hcd hD hmg hg args vals as hpre hlay hrd hwl hlo
 have KX := kIn_of Y
 refine Ground.open G ?_
 intro T B D TE TW
 wrow_args hpre hlay hrd hwl hlo
 clear ho hd hcd hD
 rename_i ns _ _ _ _ _ _ _ a vs _ hL _ _ _ hI _ hlen _
 refine wpAny_mono (Mine.main T KX hL hI hg hmg (by omega)) (fun v s' h => ?_) fun zz zz h => h.elim
 refine Vc.xa_0_4 h fun hr96_0 k g os => ?_
 try clear h
 subst hr96_0
 exact Vc.good_true k g os (by intro cls; rfl) (by first | rfl | wrow_post)
