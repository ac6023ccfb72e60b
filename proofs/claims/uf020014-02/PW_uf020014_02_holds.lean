import PyProof.Rows.All
import Wide.All
import Open.Line
import Wide.FinOn
import OpenK.KWalk
import PyProof.TupleIter
import PyProof.RulesTry
import PyProof.CompFree
import PyProof.CompMap
import PyProof.Cells
import PyProof.DefCall
import PyProof.ForAny
import PyProof.RaisesMany
import PyProof.RangeIter
import PyProof.DictKinds
import PyProof.DictList
import PyProof.RulesAssignMore
import PyProof.WalksMore
import PyProof.StrWalks
import PyProof.EnumMake
import PyProof.WalksPairs
import PyProof.DictTable
import PyProof.LetGo
import PyProof.Rules2
import PyProof.Rules3
import PyProof.EvalArms
import PyProof.DictStraight
import PyProof.EnumFor
import PyProof.RulesAs
import PyProof.AssignAttr
import KE.KTryMore
import OpenK.KMake
import PyProof.ExcBaseAll.ValueError
import PyProof.ExcClass2
import KE.KDictOf
import OpenK.KCall
import PySem.Challenge.RW_uf020014_02
set_option Elab.async false
section
set_option autoImplicit false
set_option linter.unusedVariables false
namespace Vc
open PySem PyProof.Rows

noncomputable def isNm : Stmt → Bool
  | .Assign [.Name x _] _ _ => x == Str.ofString "__name__"
  | _ => false
noncomputable def view (p : Program) : Program := { p with main := { p.main with body := p.main.body.filter (fun t => !isNm t) } }

noncomputable def methIn (m : String) : List Stmt → Option (Arguments × List Stmt × Scope)
  | [] => none
  | .FunctionDef name a b _ _ _ sc _ _ _ :: r => if name == Str.ofString m then some (a, b, sc) else methIn m r
  | _ :: r => methIn m r
noncomputable def methAt (c m : String) : List Stmt → Option (Arguments × List Stmt × Scope)
  | [] => none
  | .ClassDef name _ _ body _ _ _ _ _ _ _ :: r => if name == Str.ofString c then methIn m body else methAt c m r
  | _ :: r => methAt c m r
noncomputable def noArgs : Arguments := { posonlyargs := [], args := [], vararg := none, kwonlyargs := [], kw_defaults := [], kwarg := none, defaults := [] }
noncomputable def methP (p : Program) (c m : String) : Arguments := match methAt c m p.main.body with | some (a, _, _) => a | none => noArgs
noncomputable def methB (p : Program) (c m : String) : List Stmt := match methAt c m p.main.body with | some (_, b, _) => b | none => []
noncomputable def methS (p : Program) (c m : String) : Scope := match methAt c m p.main.body with | some (_, _, s) => s | none => { kind := .function, names := [], isGenerator := false, isCoroutine := false }
end Vc
end

section
open PySem PySem.W PyProof.Rows
set_option maxRecDepth 100000
set_option maxHeartbeats 8000000
namespace Mine
noncomputable def K02 (P : Params) : Frag := [
  (3, { cls := Value.type "dict", data := Data.dict #[{ hash := PyData.keyHash P (Str.ofString "__name__"), key := Value.str (Str.ofString "__name__") 165, val := Value.str (Str.ofString "law_uf020014_02") 603 }, { hash := PyData.keyHash P (Str.ofString "__doc__"), key := Value.str (Str.ofString "__doc__") 166, val := Value.none }, { hash := PyData.keyHash P (Str.ofString "__package__"), key := Value.str (Str.ofString "__package__") 167, val := Value.none }, { hash := PyData.keyHash P (Str.ofString "__loader__"), key := Value.str (Str.ofString "__loader__") 168, val := Value.builtin "__main__.__loader__#opaque" }, { hash := PyData.keyHash P (Str.ofString "__spec__"), key := Value.str (Str.ofString "__spec__") 169, val := Value.none }, { hash := PyData.keyHash P (Str.ofString "__annotations__"), key := Value.str (Str.ofString "__annotations__") 170, val := Value.ref 6 }, { hash := PyData.keyHash P (Str.ofString "__builtins__"), key := Value.str (Str.ofString "__builtins__") 171, val := Value.ref 4 }, { hash := PyData.keyHash P (Str.ofString "__file__"), key := Value.str (Str.ofString "__file__") 173, val := Value.str (Str.ofString "/claim/cut.py") 172 }, { hash := PyData.keyHash P (Str.ofString "__cached__"), key := Value.str (Str.ofString "__cached__") 174, val := Value.none }, { hash := PyData.keyHash P (Str.ofString "_wall"), key := Value.str (Str.ofString "_wall") 193, val := Value.ref 21 }, { hash := PyData.keyHash P (Str.ofString "WorkError"), key := Value.str (Str.ofString "WorkError") 213, val := Value.ref 31 }, { hash := PyData.keyHash P (Str.ofString "BadWork"), key := Value.str (Str.ofString "BadWork") 229, val := Value.ref 44 }, { hash := PyData.keyHash P (Str.ofString "BadGiven"), key := Value.str (Str.ofString "BadGiven") 245, val := Value.ref 56 }, { hash := PyData.keyHash P (Str.ofString "BadLook"), key := Value.str (Str.ofString "BadLook") 261, val := Value.ref 68 }, { hash := PyData.keyHash P (Str.ofString "BadSet"), key := Value.str (Str.ofString "BadSet") 277, val := Value.ref 80 }, { hash := PyData.keyHash P (Str.ofString "HasRoom"), key := Value.str (Str.ofString "HasRoom") 293, val := Value.ref 92 }, { hash := PyData.keyHash P (Str.ofString "NoLine"), key := Value.str (Str.ofString "NoLine") 309, val := Value.ref 104 }, { hash := PyData.keyHash P (Str.ofString "NoLook"), key := Value.str (Str.ofString "NoLook") 325, val := Value.ref 116 }, { hash := PyData.keyHash P (Str.ofString "BadText"), key := Value.str (Str.ofString "BadText") 341, val := Value.ref 128 }, { hash := PyData.keyHash P (Str.ofString "MOST_RING"), key := Value.str (Str.ofString "MOST_RING") 345, val := Value.int 5 344 }, { hash := PyData.keyHash P (Str.ofString "MOST_INPUTS"), key := Value.str (Str.ofString "MOST_INPUTS") 347, val := Value.int 6 346 }, { hash := PyData.keyHash P (Str.ofString "MOST_PARTS"), key := Value.str (Str.ofString "MOST_PARTS") 349, val := Value.int 10 348 }, { hash := PyData.keyHash P (Str.ofString "is_among"), key := Value.str (Str.ofString "is_among") 358, val := Value.ref 137 }, { hash := PyData.keyHash P (Str.ofString "lines_of"), key := Value.str (Str.ofString "lines_of") 365, val := Value.ref 144 }, { hash := PyData.keyHash P (Str.ofString "is_part"), key := Value.str (Str.ofString "is_part") 371, val := Value.ref 149 }, { hash := PyData.keyHash P (Str.ofString "need_work"), key := Value.str (Str.ofString "need_work") 383, val := Value.ref 156 }, { hash := PyData.keyHash P (Str.ofString "given_of"), key := Value.str (Str.ofString "given_of") 394, val := Value.ref 163 }, { hash := PyData.keyHash P (Str.ofString "is_given"), key := Value.str (Str.ofString "is_given") 400, val := Value.ref 168 }, { hash := PyData.keyHash P (Str.ofString "need_look"), key := Value.str (Str.ofString "need_look") 410, val := Value.ref 175 }, { hash := PyData.keyHash P (Str.ofString "wanted_from"), key := Value.str (Str.ofString "wanted_from") 424, val := Value.ref 182 }, { hash := PyData.keyHash P (Str.ofString "Walk"), key := Value.str (Str.ofString "Walk") 471, val := Value.ref 209 }, { hash := PyData.keyHash P (Str.ofString "least_digits"), key := Value.str (Str.ofString "least_digits") 480, val := Value.ref 220 }, { hash := PyData.keyHash P (Str.ofString "has_room"), key := Value.str (Str.ofString "has_room") 486, val := Value.ref 225 }, { hash := PyData.keyHash P (Str.ofString "sets_of"), key := Value.str (Str.ofString "sets_of") 494, val := Value.ref 230 }, { hash := PyData.keyHash P (Str.ofString "is_within"), key := Value.str (Str.ofString "is_within") 500, val := Value.ref 235 }, { hash := PyData.keyHash P (Str.ofString "least_sets"), key := Value.str (Str.ofString "least_sets") 506, val := Value.ref 240 }, { hash := PyData.keyHash P (Str.ofString "Search"), key := Value.str (Str.ofString "Search") 602, val := Value.ref 313 }, { hash := PyData.keyHash P (Str.ofString "_law_cell"), key := Value.str (Str.ofString "_law_cell") 612, val := Value.ref 324 }, { hash := PyData.keyHash P (Str.ofString "_law_mixed"), key := Value.str (Str.ofString "_law_mixed") 620, val := Value.ref 331 }, { hash := PyData.keyHash P (Str.ofString "_law_part"), key := Value.str (Str.ofString "_law_part") 632, val := Value.ref 338 }, { hash := PyData.keyHash P (Str.ofString "_law_work"), key := Value.str (Str.ofString "_law_work") 638, val := Value.ref 343 }, { hash := PyData.keyHash P (Str.ofString "_law_word"), key := Value.str (Str.ofString "_law_word") 644, val := Value.ref 348 }, { hash := PyData.keyHash P (Str.ofString "_law_odd"), key := Value.str (Str.ofString "_law_odd") 652, val := Value.ref 355 }, { hash := PyData.keyHash P (Str.ofString "_law_bad_part"), key := Value.str (Str.ofString "_law_bad_part") 664, val := Value.ref 362 }, { hash := PyData.keyHash P (Str.ofString "_law_spoilt"), key := Value.str (Str.ofString "_law_spoilt") 677, val := Value.ref 369 }, { hash := PyData.keyHash P (Str.ofString "_law_said"), key := Value.str (Str.ofString "_law_said") 685, val := Value.ref 376 }, { hash := PyData.keyHash P (Str.ofString "law"), key := Value.str (Str.ofString "law") 697, val := Value.ref 383 }] 47 }),
  (30, { cls := Value.type "dict", data := Data.dict #[{ hash := PyData.keyHash P (Str.ofString "__module__"), key := Value.str (Str.ofString "__module__") 203, val := Value.str (Str.ofString "whichbroke.errors") 194 }, { hash := PyData.keyHash P (Str.ofString "__firstlineno__"), key := Value.str (Str.ofString "__firstlineno__") 207, val := Value.int 5 206 }, { hash := PyData.keyHash P (Str.ofString "__static_attributes__"), key := Value.str (Str.ofString "__static_attributes__") 208, val := Value.ref 29 }, { hash := PyData.keyHash P (Str.ofString "__weakref__"), key := Value.str (Str.ofString "__weakref__") 210, val := Value.ref 32 }, { hash := PyData.keyHash P (Str.ofString "__doc__"), key := Value.str (Str.ofString "__doc__") 211, val := Value.none }] 3 }),
  (31, { cls := Value.type "type", data := Data.cls { name := Str.ofString "WorkError", bases := [Value.type "ValueError"], mro := [Value.ref 31, Value.type "ValueError", Value.type "Exception", Value.type "BaseException", Value.type "object"], ns := 30, qualname := Str.ofString "WorkError", subclasses := [Value.ref 44, Value.ref 56, Value.ref 68, Value.ref 80, Value.ref 92, Value.ref 104, Value.ref 116, Value.ref 128] }, slots := #[some (Value.ref 22), none, some (Value.str (Str.ofString "WorkError") 196), some (Value.str (Str.ofString "WorkError") 204), some (Value.builtin "ValueError.__new__"), some (Value.bool true)] }),
  (43, { cls := Value.type "dict", data := Data.dict #[{ hash := PyData.keyHash P (Str.ofString "__module__"), key := Value.str (Str.ofString "__module__") 221, val := Value.str (Str.ofString "whichbroke.errors") 194 }, { hash := PyData.keyHash P (Str.ofString "__firstlineno__"), key := Value.str (Str.ofString "__firstlineno__") 225, val := Value.int 7 224 }, { hash := PyData.keyHash P (Str.ofString "__static_attributes__"), key := Value.str (Str.ofString "__static_attributes__") 226, val := Value.ref 42 }, { hash := PyData.keyHash P (Str.ofString "__doc__"), key := Value.str (Str.ofString "__doc__") 227, val := Value.none }] 2 }),
  (44, { cls := Value.type "type", data := Data.cls { name := Str.ofString "BadWork", bases := [Value.ref 31], mro := [Value.ref 44, Value.ref 31, Value.type "ValueError", Value.type "Exception", Value.type "BaseException", Value.type "object"], ns := 43, qualname := Str.ofString "BadWork" }, slots := #[some (Value.ref 35), none, some (Value.str (Str.ofString "BadWork") 214), some (Value.str (Str.ofString "BadWork") 222), some (Value.builtin "ValueError.__new__"), some (Value.bool true)] }),
  (56, { cls := Value.type "type", data := Data.cls { name := Str.ofString "BadGiven", bases := [Value.ref 31], mro := [Value.ref 56, Value.ref 31, Value.type "ValueError", Value.type "Exception", Value.type "BaseException", Value.type "object"], ns := 55, qualname := Str.ofString "BadGiven" }, slots := #[some (Value.ref 47), none, some (Value.str (Str.ofString "BadGiven") 230), some (Value.str (Str.ofString "BadGiven") 238), some (Value.builtin "ValueError.__new__"), some (Value.bool true)] }),
  (68, { cls := Value.type "type", data := Data.cls { name := Str.ofString "BadLook", bases := [Value.ref 31], mro := [Value.ref 68, Value.ref 31, Value.type "ValueError", Value.type "Exception", Value.type "BaseException", Value.type "object"], ns := 67, qualname := Str.ofString "BadLook" }, slots := #[some (Value.ref 59), none, some (Value.str (Str.ofString "BadLook") 246), some (Value.str (Str.ofString "BadLook") 254), some (Value.builtin "ValueError.__new__"), some (Value.bool true)] }),
  (80, { cls := Value.type "type", data := Data.cls { name := Str.ofString "BadSet", bases := [Value.ref 31], mro := [Value.ref 80, Value.ref 31, Value.type "ValueError", Value.type "Exception", Value.type "BaseException", Value.type "object"], ns := 79, qualname := Str.ofString "BadSet" }, slots := #[some (Value.ref 71), none, some (Value.str (Str.ofString "BadSet") 262), some (Value.str (Str.ofString "BadSet") 270), some (Value.builtin "ValueError.__new__"), some (Value.bool true)] }),
  (92, { cls := Value.type "type", data := Data.cls { name := Str.ofString "HasRoom", bases := [Value.ref 31], mro := [Value.ref 92, Value.ref 31, Value.type "ValueError", Value.type "Exception", Value.type "BaseException", Value.type "object"], ns := 91, qualname := Str.ofString "HasRoom" }, slots := #[some (Value.ref 83), none, some (Value.str (Str.ofString "HasRoom") 278), some (Value.str (Str.ofString "HasRoom") 286), some (Value.builtin "ValueError.__new__"), some (Value.bool true)] }),
  (104, { cls := Value.type "type", data := Data.cls { name := Str.ofString "NoLine", bases := [Value.ref 31], mro := [Value.ref 104, Value.ref 31, Value.type "ValueError", Value.type "Exception", Value.type "BaseException", Value.type "object"], ns := 103, qualname := Str.ofString "NoLine" }, slots := #[some (Value.ref 95), none, some (Value.str (Str.ofString "NoLine") 294), some (Value.str (Str.ofString "NoLine") 302), some (Value.builtin "ValueError.__new__"), some (Value.bool true)] }),
  (116, { cls := Value.type "type", data := Data.cls { name := Str.ofString "NoLook", bases := [Value.ref 31], mro := [Value.ref 116, Value.ref 31, Value.type "ValueError", Value.type "Exception", Value.type "BaseException", Value.type "object"], ns := 115, qualname := Str.ofString "NoLook" }, slots := #[some (Value.ref 107), none, some (Value.str (Str.ofString "NoLook") 310), some (Value.str (Str.ofString "NoLook") 318), some (Value.builtin "ValueError.__new__"), some (Value.bool true)] }),
  (128, { cls := Value.type "type", data := Data.cls { name := Str.ofString "BadText", bases := [Value.ref 31], mro := [Value.ref 128, Value.ref 31, Value.type "ValueError", Value.type "Exception", Value.type "BaseException", Value.type "object"], ns := 127, qualname := Str.ofString "BadText" }, slots := #[some (Value.ref 119), none, some (Value.str (Str.ofString "BadText") 326), some (Value.str (Str.ofString "BadText") 334), some (Value.builtin "ValueError.__new__"), some (Value.bool true)] }),
  (253, { cls := Value.type "code", data := Data.fields #[Value.str (Str.ofString "__init__") 521, Value.str (Str.ofString "Search.__init__") 522, Value.str (Str.ofString "/claim/cut.py") 523, Value.int 149 0, Value.int 2 0, Value.int 0 0, Value.int 0 0, Value.int 3 0, Value.ref 248, Value.bool true, Value.int 181 0, Value.ref 249, Value.none, Value.ref 250, Value.ref 251, Value.ref 252, Value.int 526 0, Value.int 149 0, Value.str (Str.ofString "/claim/cut.py") 527] }),
  (254, { cls := Value.type "function", data := Data.func { name := Str.ofString "__init__", qualname := Str.ofString "Search.__init__", params := Vc.methP PySem.Challenge.pw_uf020014_02 "Search" "__init__", body := PySem.FuncBody.stmts (Vc.methB PySem.Challenge.pw_uf020014_02 "Search" "__init__"), scope := Vc.methS PySem.Challenge.pw_uf020014_02 "Search" "__init__", globals := 3, closure := [], defaults := Value.none, kwdefaults := Value.none, pyModule := Value.str (Str.ofString "whichbroke.searching") 507, code := Value.ref 253 } }),
  (312, { cls := Value.type "dict", data := Data.dict #[{ hash := PyData.keyHash P (Str.ofString "__module__"), key := Value.str (Str.ofString "__module__") 516, val := Value.str (Str.ofString "whichbroke.searching") 507 }, { hash := PyData.keyHash P (Str.ofString "__firstlineno__"), key := Value.str (Str.ofString "__firstlineno__") 520, val := Value.int 147 519 }, { hash := PyData.keyHash P (Str.ofString "__init__"), key := Value.str (Str.ofString "__init__") 528, val := Value.ref 254 }, { hash := PyData.keyHash P (Str.ofString "look"), key := Value.str (Str.ofString "look") 537, val := Value.ref 261 }, { hash := PyData.keyHash P (Str.ofString "need_number"), key := Value.str (Str.ofString "need_number") 545, val := Value.ref 268 }, { hash := PyData.keyHash P (Str.ofString "see"), key := Value.str (Str.ofString "see") 555, val := Value.ref 275 }, { hash := PyData.keyHash P (Str.ofString "back"), key := Value.str (Str.ofString "back") 562, val := Value.ref 282 }, { hash := PyData.keyHash P (Str.ofString "looks"), key := Value.str (Str.ofString "looks") 569, val := Value.ref 289 }, { hash := PyData.keyHash P (Str.ofString "known"), key := Value.str (Str.ofString "known") 576, val := Value.ref 296 }, { hash := PyData.keyHash P (Str.ofString "sets"), key := Value.str (Str.ofString "sets") 583, val := Value.ref 303 }, { hash := PyData.keyHash P (Str.ofString "next_line"), key := Value.str (Str.ofString "next_line") 591, val := Value.ref 310 }, { hash := PyData.keyHash P (Str.ofString "__static_attributes__"), key := Value.str (Str.ofString "__static_attributes__") 595, val := Value.ref 311 }, { hash := PyData.keyHash P (Str.ofString "__dict__"), key := Value.str (Str.ofString "__dict__") 597, val := Value.ref 314 }, { hash := PyData.keyHash P (Str.ofString "__weakref__"), key := Value.str (Str.ofString "__weakref__") 599, val := Value.ref 315 }, { hash := PyData.keyHash P (Str.ofString "__doc__"), key := Value.str (Str.ofString "__doc__") 600, val := Value.none }] 4 }),
  (313, { cls := Value.type "type", data := Data.cls { name := Str.ofString "Search", bases := [Value.type "object"], mro := [Value.ref 313, Value.type "object"], ns := 312, qualname := Str.ofString "Search" }, slots := #[none, none, some (Value.str (Str.ofString "Search") 509), some (Value.str (Str.ofString "Search") 517), some (Value.builtin "object.__new__"), some (Value.bool true)] })]
noncomputable def as02 : List Addr := [3, 30, 31, 43, 44, 56, 68, 80, 92, 104, 116, 128, 253, 254, 312, 313]

theorem as02_e : ∀ P, as02 = (K02 P).map (·.1) := fun _ => rfl
noncomputable abbrev hk02 : Hook := kHook K02 as02 as02_e
noncomputable abbrev xt02 : Shared → Bool := fun s => xlAt (Vc.view PySem.Challenge.pw_uf020014_02) [] s && recOk (RowW.records PySem.Challenge.rw_uf020014_02.row.toRowW) s
theorem runA : ∀ w, (openEnds treeTable PySem.Challenge.pw_uf020014_02 w 7030).map (fun s => (openSeen (Vc.view PySem.Challenge.pw_uf020014_02) [] (importedModules PySem.Challenge.pw_uf020014_02.main.body) xt02 true s).2) = some ((openGood (Vc.view PySem.Challenge.pw_uf020014_02) []).2) := fun w => by kernel_rfl
theorem runB : ∀ w, (openEnds treeTable PySem.Challenge.pw_uf020014_02 w 7030).map (fun s => (openSeen (Vc.view PySem.Challenge.pw_uf020014_02) [] (importedModules PySem.Challenge.pw_uf020014_02.main.body) xt02 true s).1) = some ((openGood (Vc.view PySem.Challenge.pw_uf020014_02) []).1) := fun w => by kernel_rfl
theorem runC : ∀ w, (openEnds treeTable PySem.Challenge.pw_uf020014_02 w 7030).map (fun s => Hook.obs hk02 s) = some (Hook.val hk02 w) := fun w => by kernel_rfl
theorem left : LeftO PySem.Challenge.pw_uf020014_02 (Vc.view PySem.Challenge.pw_uf020014_02) [] xt02 (Hook.obs hk02) (Hook.val hk02) 7030 := fun w => by
  have c := runC w
  have b := runB w
  obtain ⟨s, h1, h2⟩ := Option.map_eq_some_iff.mp (runA w)
  rw [h1] at b c ⊢
  exact congrArg some (Prod.ext (Prod.ext (Option.some.inj b) h2) (Option.some.inj c))
theorem said : PySem.Challenge.rw_uf020014_02.wellSaid = true := by kernel_rfl
end Mine
end

section
set_option autoImplicit false
set_option linter.unusedVariables false
namespace Vc
open PySem

noncomputable def Hd1 (A : Around) (h : Heap) : Prop :=
  A.handled = none ∨ ∃ a o vs r, A.handled = some (.ref a) ∧ h.get? a = some o ∧ o.cls = .ref r ∧ o.data = .fields vs ∧ vs[2]? = some .none

theorem Hd1.ext {A : Around} {h h' : Heap} {i : Addr} (x : Hd1 A h) (e : Heap.ExtBut i h h') (hi : ∀ o r, h.get? i = some o → o.cls ≠ .ref r) : Hd1 A h' := by
  rcases x with x | ⟨a, o, vs, r, x1, x2, x3, x4, x5⟩
  · exact .inl x
  · refine .inr ⟨a, o, vs, r, x1, e a o (fun q => ?_) x2, x3, x4, x5⟩
    subst q; exact hi o r x2 x3

theorem entry_unchain : entryFor table "proto.unchain" = some Builtin.«proto.unchain» := by
  exact entryFor_of_tree (by kernel_rfl)

section
variable {prog : Program} {w : World} {A : Around} {E : Value → Shared → Prop} {s : Shared}

theorem unchain {a b : Addr} {o : Obj} {vs : Array Value} {Q : Value → Shared → Prop} (ho : s.heap.get? b = some o) (hd : o.data = .fields vs) (h2 : vs[2]? = some .none) (hQ : Q .none s) :
    wpAny (model prog w) A (runValue (.builtin "proto.unchain" ⟨[.ref a, .ref b, .ref b, .bool false], []⟩)) Q E s := by
  refine wpAny_runValue (codeAny_builtin entry_unchain ?_)
  unfold Builtin.«proto.unchain»
  refine wpAny_bind (wpAny_field ho hd h2 ?_)
  exact wpAny_pure hQ

theorem raise_stop {α : Type} {Q : α → Shared → Prop} (hh : Hd1 A s.heap) (hQ : ∀ a h', (∀ b o, s.heap.get? b = some o → h'.get? b = some o) → (∃ o, h'.get? a = some o ∧ o.cls = .type "StopIteration") → E (.ref a) { s with heap := h' }) :
    wpAny (model prog w) A (newExc (.type "StopIteration") [] >>= fun e => (raiseNew e : Sem α)) Q E s := by
  refine wpAny_bind ?_
  simp only [newExc, newTuple]
  refine wpAny_bind (wpAny_newObj_type ?_ (by size_fits))
  refine wpAny_bind (m := firstArgMember _ _) (wpAny_of_eq (a := Value.none) (by first | rfl | (simp only [firstArgMember]; rfl)) ?_)
  refine wpAny_newObj_type ?_ (by size_fits)
  simp only [raiseNew]
  refine wpAny_bind (wpAny_handled ?_)
  have k2 : ∀ (o1 o2 : Obj) b o, s.heap.get? b = some o → ((s.heap.push o1).push o2).get? b = some o := fun o1 o2 b o e => Heap.get?_push_of_some _ (Heap.get?_push_of_some _ e)
  rcases hh with hh | ⟨b, o, vs, r, hh, ho, hc, hd, h2⟩
  · rw [hh]
    exact wpAny_bind (wpAny_pure (wpAny_throw (hQ _ _ (k2 _ _) ⟨_, Heap.get?_push_size _ rfl, rfl⟩)))
  · rw [hh]
    dsimp only
    have hne : b ≠ (s.heap.push { cls := .type "tuple", data := .seq #[] }).objs.size := Nat.ne_of_lt (Heap.lt_size (Heap.get?_push_of_some _ ho))
    rw [if_pos (by simpa using hne)]
    refine wpAny_bind (wpAny_holding (unchain (k2 _ _ _ _ ho) hd h2 ?_))
    have he := Heap.get?_push_size (s.heap.push { cls := .type "tuple", data := .seq #[] }) (o := { cls := Value.type "StopIteration", data := Data.fields (#[Value.ref s.heap.objs.size, Value.none, Value.none, Value.none, Value.bool false, Value.none] ++ ownMembersOf (Value.type "StopIteration") []) }) rfl
    refine wpAny_bind (m := setField (.ref _) 2 (.ref b)) (wpAny_setField he rfl ?_ (wpAny_throw (hQ _ _ (fun c oc e => ?_) ⟨_, Heap.get?_update_self _ he rfl, rfl⟩)))
    · simp; omega
    · rw [Heap.get?_update_other _ _ (Nat.ne_of_gt (Heap.lt_size (Heap.get?_push_of_some _ e)))]
      exact k2 _ _ _ _ e

theorem next_list_endH {it l : Addr} {i : Nat} {items : Array Value} {Q : Option Value → Shared → Prop} (hh : Hd1 A s.heap)
    (hit : s.heap.IsListIter it l i) (hl : s.heap.IsList l items) (hx : items[i]? = none)
    (hQ : ∀ h', Heap.ExtBut it s.heap h' → Q none { s with heap := h' }) : wpAny (model prog w) A (pyNext (.ref it)) Q E s := by
  obtain ⟨o, ho, hc, hd⟩ := id hit
  obtain ⟨ol, hol, _, nl, hdl⟩ := hl
  unfold pyNext
  refine wpAny_bind (wpAny_attempt (wpAny_callSpecial?_slot (name := Str.ofString "__next__") hit.typeIs slot_listiter_next
    (wpAny_call_entry slot_listiter_next hit.typeIs entry_listiter_next ?_ (args_listiter_next _))))
  refine wpAny_bind (m := field (.ref it) 0) (wpAny_field ho hd (x := .ref l) rfl ?_)
  rw [if_neg (show ¬ ((Value.ref l == Value.none) = true) from Bool.false_ne_true)]
  refine wpAny_bind (m := field (.ref it) 1) (wpAny_field ho hd (x := .int i 0) rfl (wpAny_bind (m := seqItems? (.ref l)) (wpAny_seqItems hol hdl ?_)))
  simp only [Int.toNat_natCast, hx]
  have eb : Heap.ExtBut it s.heap (s.heap.update it (Obj.mapFields (·.setIfInBounds 0 .none))) := (Heap.SameBut.update ..).extBut
  refine wpAny_bind (wpAny_rule (wpAny_bind (wpAny_setField ho hd (by simp) ?_)))
  refine raise_stop (A := A.in1) (s := { s with heap := s.heap.update it (Obj.mapFields (·.setIfInBounds 0 .none)) }) (Hd1.ext (A := A.in1) hh eb fun o' r q e => ?_) fun a h' k ⟨oa, ha, hca⟩ => ?_
  · rw [ho] at q; cases q; rw [hc] at e; cases e
  · refine wpAny_bind (wpAny_isInstance (T := "StopIteration") (b := true) ⟨_, ha, hca⟩ isSubtype_stop (wpAny_pure (hQ _ fun b ob n e => k b ob (eb b ob n e))))

theorem next_tuple_endH {it t : Addr} {i : Nat} {items : Array Value} {Q : Option Value → Shared → Prop} (hh : Hd1 A s.heap)
    (hit : s.heap.IsTupleIter it t i) (ht : s.heap.IsTuple t items) (hx : items[i]? = none)
    (hQ : ∀ h', Heap.ExtBut it s.heap h' → Q none { s with heap := h' }) : wpAny (model prog w) A (pyNext (.ref it)) Q E s := by
  obtain ⟨o, ho, hc, hd⟩ := id hit
  obtain ⟨ol, hol, _, nl, hdl⟩ := ht
  unfold pyNext
  refine wpAny_bind (wpAny_attempt (wpAny_callSpecial?_slot (name := Str.ofString "__next__") hit.typeIs F.slot_tuple_iterator_next
    (wpAny_call_entry F.slot_tuple_iterator_next hit.typeIs F.entry_tuple_iterator_next ?_ (F.args_tuple_iterator_next_1 _))))
  refine wpAny_bind (m := field (.ref it) 0) (wpAny_field ho hd (x := .ref t) rfl ?_)
  rw [if_neg (show ¬ ((Value.ref t == Value.none) = true) from Bool.false_ne_true)]
  refine wpAny_bind (m := field (.ref it) 1) (wpAny_field ho hd (x := .int i 0) rfl (wpAny_bind (m := seqItems? (.ref t)) (wpAny_seqItems hol hdl ?_)))
  simp only [Int.toNat_natCast, hx]
  have eb : Heap.ExtBut it s.heap (s.heap.update it (Obj.mapFields (·.setIfInBounds 0 .none))) := (Heap.SameBut.update ..).extBut
  refine wpAny_bind (wpAny_rule (wpAny_bind (wpAny_setField ho hd (by simp) ?_)))
  refine raise_stop (A := A.in1) (s := { s with heap := s.heap.update it (Obj.mapFields (·.setIfInBounds 0 .none)) }) (Hd1.ext (A := A.in1) hh eb fun o' r q e => ?_) fun a h' k ⟨oa, ha, hca⟩ => ?_
  · rw [ho] at q; cases q; rw [hc] at e; cases e
  · refine wpAny_bind (wpAny_isInstance (T := "StopIteration") (b := true) ⟨_, ha, hca⟩ isSubtype_stop (wpAny_pure (hQ _ fun b ob n e => k b ob (eb b ob n e))))

theorem unpack_itemsH {t : Addr} {items : Array Value} {Q : List Value → Shared → Prop} (hh : Hd1 A s.heap) (ht : s.heap.IsTuple t items)
    (hQ : ∀ h', Heap.ExtBut s.heap.objs.size s.heap h' → Q items.toList { s with heap := h' }) : wpAny (model prog w) A (unpackItems (.ref t) items.size none) Q E s := by
  have hlt : t ≠ s.heap.objs.size := by obtain ⟨o, ho, _⟩ := ht; exact Nat.ne_of_lt (Heap.lt_size ho)
  unfold unpackItems notIterableAtAll
  refine wpAny_bind (wpAny_bind (wpAny_specialOf ht.typeIs F.slot_tuple_iter.lookup (wpAny_pure ?_)))
  rw [if_neg (by decide)]
  refine wpAny_bind (wpAny_holding (wpAny_pyIter_tuple ht (wpAny_bind (wpAny_holding (wpAny_draw_tuple hlt items.size 0 _ _ ⟨_, Heap.get?_push_size _ rfl, rfl, rfl⟩ (ht.push _) (by omega) fun h₁ hit₁ hs₁ => ?_)))))
  have hall : List.take items.size (List.drop 0 items.toList) = items.toList := by
    rw [List.drop_zero]; exact List.take_of_length_le (by simp)
  rw [hall, if_neg (by simp)]
  have eb : Heap.ExtBut s.heap.objs.size s.heap h₁ := fun b o hb e => hs₁.extBut b o hb (Heap.get?_push_of_some _ e)
  refine wpAny_bind (wpAny_holding (next_tuple_endH (Hd1.ext hh eb fun o r q => ?_) hit₁ ((ht.push _).extBut hs₁.extBut hlt) (by simp) fun h₂ he₂ => ?_))
  · exact absurd (Heap.lt_size q) (Nat.lt_irrefl _)
  · rw [Option.isSome_none, if_neg (by decide)]
    exact wpAny_pure (hQ h₂ fun b o hb e => he₂ b o hb (eb b o hb e))

theorem assign_tupleH {env : Env} {elts : List Expr} {k : Nat} {pos : Pos} {t : Addr} {items : Array Value} {Q : Unit → Shared → Prop} (hh : Hd1 A s.heap) (ht : s.heap.IsTuple t items)
    (hn : (assignEach elts env).length = items.size) (hstar : (assignEach elts env).findIdx? (·.1) = none)
    (h : ∀ h', Heap.ExtBut s.heap.objs.size s.heap h' → wpAny (model prog w) A (assignInOrder ((assignEach elts env).map (·.2)) items.toList) Q E { s with heap := h' }) :
    wpAny (model prog w) A (assign (.Tuple elts k pos) env (.ref t)) Q E s := by
  rw [arm_assign_Tuple]
  refine wpAny_bind (wpAny_standAt ?_)
  unfold unpack
  rw [hn, hstar]
  exact wpAny_bind (wpAny_holding (unpack_itemsH hh ht h))
end
end Vc
end

section
set_option autoImplicit false
set_option linter.unusedVariables false
namespace Vc
open PySem

inductive V where
  | none
  | bool (b : Bool)
  | int (i : Int)
  | str (s : Str)
  | tup (l : List V)
  | ref (a : Addr)
  | exc (c : String)
  | glb (x : String)
  | rng (a b c : Int)
  deriving Inhabited

inductive O where
  | lst (l : List V)
  | fro (l : List V)
  | dci (l : List (Int × V))
  | dcs (l : List (Str × V))
  | ins (c : String) (dx : Addr)
  | nsd (l : List (String × V))
  deriving Inhabited

noncomputable abbrev MH := Addr → Option O
noncomputable def upd (H : MH) (a : Addr) (o : O) : MH := fun b => if b = a then some o else H b
theorem upd_self (H : MH) (a : Addr) (o : O) : upd H a o a = some o := if_pos rfl
theorem upd_ne {H : MH} {a b : Addr} {o : O} (h : b ≠ a) : upd H a o b = H b := if_neg h

structure Cx where
  prog : Program
  w : World
  h0 : Heap
  mg : Str → Option Value
  mb : Str → Option Value

noncomputable def Cx.G (C : Cx) (x : String) (v : Value) : Prop := C.mg (Str.ofString x) = some v ∨ (C.mg (Str.ofString x) = none ∧ C.mb (Str.ofString x) = some v)

structure Cx.Good (C : Cx) : Prop where
  g : C.h0.Ns mainGlobals C.mg
  b : C.h0.Ns builtinsNs C.mb
  nolimit : C.h0.NoLimit

theorem Cx.G.uniq {C : Cx} {x : String} {v v' : Value} (h : C.G x v) (h' : C.G x v') : v = v' := by
  rcases h with h | ⟨h1, h2⟩ <;> rcases h' with h' | ⟨h1', h2'⟩
  · exact Option.some.inj (h.symm.trans h')
  · rw [h] at h1'; cases h1'
  · rw [h1] at h'; cases h'
  · exact Option.some.inj (h2.symm.trans h2')

noncomputable abbrev Cx.M (C : Cx) : Model := model C.prog C.w

mutual
noncomputable def VR (C : Cx) (h : Heap) : V → Value → Prop
  | .none, v => v = .none
  | .bool b, v => v = .bool b
  | .int i, v => ∃ t, v = .int i t
  | .str s, v => ∃ t, v = .str s t
  | .tup l, v => ∃ a items, v = .ref a ∧ h.IsTuple a items ∧ VRs C h l items.toList
  | .ref a, v => v = .ref a
  | .exc c, v => ∃ a o vs r, v = .ref a ∧ h.get? a = some o ∧ o.cls = .ref r ∧ (C.G c (.ref r) ∧ o.dict = Option.none) ∧ o.data = .fields vs
  | .glb x, v => C.G x v
  | .rng a b c, v => ∃ r t u w, v = .ref r ∧ IsRange h r a b c t u w
noncomputable def VRs (C : Cx) (h : Heap) : List V → List Value → Prop
  | [], [] => True
  | x :: xs, v :: vs => VR C h x v ∧ VRs C h xs vs
  | [], _ :: _ => False
  | _ :: _, [] => False
end

section
variable {C : Cx} {h h' h'' : Heap}
theorem VRs.nil : VRs C h [] [] := by dsimp only [VRs]
theorem VRs.cons {x : V} {v : Value} {xs : List V} {vs : List Value} (a : VR C h x v) (b : VRs C h xs vs) : VRs C h (x :: xs) (v :: vs) := by dsimp only [VRs]; exact ⟨a, b⟩
theorem VRs.head {x : V} {v : Value} {xs : List V} {vs : List Value} (a : VRs C h (x :: xs) (v :: vs)) : VR C h x v := by dsimp only [VRs] at a; exact a.1
theorem VRs.tail {x : V} {v : Value} {xs : List V} {vs : List Value} (a : VRs C h (x :: xs) (v :: vs)) : VRs C h xs vs := by dsimp only [VRs] at a; exact a.2
theorem VRs.inv_nil {vs : List Value} (a : VRs C h [] vs) : vs = [] := by
  cases vs with
  | nil => rfl
  | cons _ _ => simp [VRs] at a
theorem VRs.inv_cons {x : V} {xs : List V} {vs : List Value} (a : VRs C h (x :: xs) vs) : ∃ v vs', vs = v :: vs' ∧ VR C h x v ∧ VRs C h xs vs' := by
  cases vs with
  | nil => simp [VRs] at a
  | cons v vs' => exact ⟨v, vs', rfl, a.head, a.tail⟩

theorem VRs.length : ∀ {xs : List V} {vs : List Value}, VRs C h xs vs → xs.length = vs.length
  | [], [], _ => rfl
  | _ :: xs, _ :: vs, x => by simp [VRs.length x.tail]
  | [], _ :: _, x => by simp [VRs] at x
  | _ :: _, [], x => by simp [VRs] at x

theorem VRs.get : ∀ {xs : List V} {vs : List Value} {i : Nat} {x : V}, VRs C h xs vs → xs[i]? = some x → ∃ v, vs[i]? = some v ∧ VR C h x v
  | y :: xs, v :: vs, 0, x, r, e => by simp at e; subst e; exact ⟨v, rfl, r.head⟩
  | _ :: xs, _ :: vs, i + 1, x, r, e => by simp at e; simpa using VRs.get r.tail e
  | [], _, _, _, _, e => by simp at e
  | _ :: _, [], _, _, r, _ => by simp [VRs] at r

theorem VRs.append : ∀ {xs ys : List V} {vs ws : List Value}, VRs C h xs vs → VRs C h ys ws → VRs C h (xs ++ ys) (vs ++ ws)
  | [], _, [], _, _, r => r
  | _ :: xs, _, _ :: vs, _, x, r => VRs.cons x.head (VRs.append x.tail r)
  | [], _, _ :: _, _, x, _ => by simp [VRs] at x
  | _ :: _, _, [], _, x, _ => by simp [VRs] at x
theorem VRs.take : ∀ {xs : List V} {vs : List Value} (n : Nat), VRs C h xs vs → VRs C h (xs.take n) (vs.take n)
  | _, _, 0, _ => by simpa using VRs.nil
  | [], [], _ + 1, _ => by simpa using VRs.nil
  | _ :: _, _ :: _, n + 1, r => by simpa using VRs.cons r.head (VRs.take n r.tail)
  | [], _ :: _, _ + 1, r => by simp [VRs] at r
  | _ :: _, [], _ + 1, r => by simp [VRs] at r
theorem VRs.drop : ∀ {xs : List V} {vs : List Value} (n : Nat), VRs C h xs vs → VRs C h (xs.drop n) (vs.drop n)
  | _, _, 0, r => by simpa using r
  | [], [], _ + 1, _ => by simpa using VRs.nil
  | _ :: _, _ :: _, n + 1, r => by simpa using VRs.drop n r.tail
  | [], _ :: _, _ + 1, r => by simp [VRs] at r
  | _ :: _, [], _ + 1, r => by simp [VRs] at r
end

noncomputable def Solid (o : Obj) : Prop := (o.cls = .type "tuple" ∧ ∃ xs n, o.data = .seq xs n) ∨ (o.cls = .type "range" ∧ ∃ vs, o.data = .fields vs)

structure VS (h h' : Heap) : Prop where
  solid : ∀ b o, h.get? b = some o → Solid o → h'.get? b = some o
  exc : ∀ b o vs r, h.get? b = some o → o.cls = .ref r → o.data = .fields vs → ∃ o' vs', h'.get? b = some o' ∧ (o'.cls = o.cls ∧ o'.dict = o.dict) ∧ o'.data = .fields vs' ∧ vs'[2]? = vs[2]?
structure VK (h h' : Heap) : Prop where
  solid : ∀ b o, h.get? b = some o → Solid o → h'.get? b = some o
  exc : ∀ b o vs r, h.get? b = some o → o.cls = .ref r → o.data = .fields vs → ∃ o' vs', h'.get? b = some o' ∧ (o'.cls = o.cls ∧ o'.dict = o.dict) ∧ o'.data = .fields vs' ∧ vs'[2]? = vs[2]?
  dct : ∀ b o es ep, h.get? b = some o → o.data = .dict es ep → ∃ o' es' ep', h'.get? b = some o' ∧ o'.data = .dict es' ep'

theorem VK.s {h h' : Heap} (x : VK h h') : VS h h' := ⟨x.solid, x.exc⟩
theorem VK.refl (h : Heap) : VK h h := ⟨fun _ _ e _ => e, fun _ o vs _ e c d => ⟨o, vs, e, ⟨rfl, rfl⟩, d, rfl⟩, fun _ o es ep e d => ⟨o, es, ep, e, d⟩⟩
theorem VK.trans {h h' h'' : Heap} (x : VK h h') (y : VK h' h'') : VK h h'' :=
  ⟨fun b o e s => y.solid b o (x.solid b o e s) s, fun b o vs r e c d => by
    obtain ⟨o', vs', e', c', d', g'⟩ := x.exc b o vs r e c d
    obtain ⟨o'', vs'', e'', c'', d'', g''⟩ := y.exc b o' vs' r e' (c'.1.trans c) d'
    exact ⟨o'', vs'', e'', ⟨c''.1.trans c'.1, c''.2.trans c'.2⟩, d'', g''.trans g'⟩, fun b o es ep e d => by
    obtain ⟨o', es', ep', e', d'⟩ := x.dct b o es ep e d
    exact y.dct b o' es' ep' e' d'⟩
theorem VK.of_keeps {h h' : Heap} (k : ∀ b o, h.get? b = some o → h'.get? b = some o) : VK h h' :=
  ⟨fun b o e _ => k b o e, fun b o vs r e c d => ⟨o, vs, k b o e, ⟨rfl, rfl⟩, d, rfl⟩, fun b o es ep e d => ⟨o, es, ep, k b o e, d⟩⟩

noncomputable def Loose (o : Obj) : Prop := (∃ es ep, o.data = .dict es ep) ∨ (∃ v, o.data = .cell v) ∨ (∃ T, o.cls = .type T ∧ T ≠ "tuple" ∧ T ≠ "range")
theorem Loose.not_solid {o : Obj} (l : Loose o) (s : Solid o) : False := by
  rcases s with ⟨c, xs, n, d⟩ | ⟨c, vs, d⟩ <;> rcases l with ⟨es, ep, d'⟩ | ⟨v, d'⟩ | ⟨T, c', n1, n2⟩
  · rw [d] at d'; cases d'
  · rw [d] at d'; cases d'
  · rw [c] at c'; injection c' with e; exact n1 e.symm
  · rw [d] at d'; cases d'
  · rw [d] at d'; cases d'
  · rw [c] at c'; injection c' with e; exact n2 e.symm
theorem Loose.not_exc {o : Obj} (l : Loose o) {r : Addr} {vs : Array Value} (c : o.cls = .ref r) (d : o.data = .fields vs) : False := by
  rcases l with ⟨es, ep, d'⟩ | ⟨v, d'⟩ | ⟨T, c', _, _⟩
  · rw [d] at d'; cases d'
  · rw [d] at d'; cases d'
  · rw [c] at c'; cases c'

theorem VK.of_but {h h' : Heap} {D : Addr → Prop} (k : ∀ b o, h.get? b = some o → ¬ D b → h'.get? b = some o) (l : ∀ b o, h.get? b = some o → D b → Loose o)
    (d : ∀ b o es ep, h.get? b = some o → D b → o.data = .dict es ep → ∃ o' es' ep', h'.get? b = some o' ∧ o'.data = .dict es' ep') : VK h h' :=
  ⟨fun b o e s => k b o e fun q => (l b o e q).not_solid s, fun b o vs r e c dd => ⟨o, vs, k b o e fun q => (l b o e q).not_exc c dd, ⟨rfl, rfl⟩, dd, rfl⟩, fun b o es ep e dd =>
    Classical.byCases (fun q : D b => d b o es ep e q dd) fun q => ⟨o, es, ep, k b o e q, dd⟩⟩

mutual
theorem VR.keepS {C : Cx} {h h' : Heap} (k : VS h h') : ∀ {x : V} {v : Value}, VR C h x v → VR C h' x v
  | .none, _, r => by rw [VR] at *; exact r
  | .bool _, _, r => by rw [VR] at *; exact r
  | .int _, _, r => by rw [VR] at *; exact r
  | .str _, _, r => by rw [VR] at *; exact r
  | .tup l, _, r => by
    rw [VR] at *
    obtain ⟨a, items, e, ⟨o, ho, hc, n, hd⟩, rs⟩ := r
    exact ⟨a, items, e, ⟨o, k.solid a o ho (.inl ⟨hc, items, n, hd⟩), hc, n, hd⟩, VRs.keepS k rs⟩
  | .ref _, _, r => by rw [VR] at *; exact r
  | .exc _, _, r => by
    rw [VR] at *
    obtain ⟨a, o, vs, r, e, ho, hc, g, hd⟩ := r
    obtain ⟨o', vs', ho', hc', hd', _⟩ := k.exc a o vs r ho hc hd
    exact ⟨a, o', vs', r, e, ho', hc'.1.trans hc, ⟨g.1, hc'.2.trans g.2⟩, hd'⟩
  | .glb _, _, r => by rw [VR] at *; exact r
  | .rng _ _ _, _, r => by
    rw [VR] at *
    obtain ⟨q, t, u, w, e, hr⟩ := r
    exact ⟨q, t, u, w, e, k.solid q _ hr (.inr ⟨rfl, _, rfl⟩)⟩
theorem VRs.keepS {C : Cx} {h h' : Heap} (k : VS h h') : ∀ {xs : List V} {vs : List Value}, VRs C h xs vs → VRs C h' xs vs
  | [], [], _ => VRs.nil
  | _ :: _, _ :: _, r => VRs.cons (VR.keepS k r.head) (VRs.keepS k r.tail)
  | [], _ :: _, r => by simp [VRs] at r
  | _ :: _, [], r => by simp [VRs] at r
end

theorem VR.keep {C : Cx} {h h' : Heap} (k : VK h h') {x : V} {v : Value} (r : VR C h x v) : VR C h' x v := r.keepS k.s
theorem VRs.keep {C : Cx} {h h' : Heap} (k : VK h h') {xs : List V} {vs : List Value} (r : VRs C h xs vs) : VRs C h' xs vs := r.keepS k.s

noncomputable def NsE (C : Cx) (h : Heap) : List (String × V) → List DictEntry → Prop
  | [], [] => True
  | (x, v) :: l, e :: es => (∃ t, e.key = .str (Str.ofString x) t) ∧ e.hash = hashStr C.w (Str.ofString x) ∧ VR C h v e.val ∧ NsE C h l es
  | [], _ :: _ => False
  | _ :: _, [] => False
theorem NsE.keepS {C : Cx} {h h' : Heap} (k : VS h h') : ∀ {l : List (String × V)} {es : List DictEntry}, NsE C h l es → NsE C h' l es
  | [], [], _ => trivial
  | (_, _) :: _, _ :: _, r => ⟨r.1, r.2.1, r.2.2.1.keepS k, NsE.keepS k r.2.2.2⟩
  | [], _ :: _, r => r.elim
  | _ :: _, [], r => r.elim

noncomputable def OR (C : Cx) (h : Heap) (a : Addr) : O → Prop
  | .lst l => C.h0.get? a = none ∧ ∃ items, h.PlainList a items ∧ VRs C h l items.toList
  | .fro l => ∃ items, h.IsList a items ∧ VRs C h l items.toList
  | .dci l => C.h0.get? a = none ∧ a ≠ sysModules ∧ ∃ kvs : List (Int × Value), h.DictOf (intKind C.prog C.w) a kvs ∧ kvs.map (·.1) = l.map (·.1) ∧ VRs C h (l.map (·.2)) (kvs.map (·.2))
  | .dcs l => C.h0.get? a = none ∧ a ≠ sysModules ∧ ∃ kvs : List (Str × Value), h.DictOf (strKind C.prog C.w) a kvs ∧ kvs.map (·.1) = l.map (·.1) ∧ VRs C h (l.map (·.2)) (kvs.map (·.2))
  | .ins c dx => C.h0.get? a = none ∧ ∃ r, C.G c (.ref r) ∧ h.get? a = some { cls := .ref r, dict := some dx, data := .plain }
  | .nsd l => C.h0.get? a = none ∧ ∃ es n, h.get? a = some { cls := .type "dict", data := .dict es n } ∧ NsE C h l es.toList

theorem OR.keepS {C : Cx} {h h' : Heap} {a : Addr} (k : VS h h') (e : ∀ o, h.get? a = some o → h'.get? a = some o) : ∀ {o : O}, OR C h a o → OR C h' a o
  | .lst _, ⟨n, items, p, r⟩ => ⟨n, items, p.at e, r.keepS k⟩
  | .fro _, ⟨items, ⟨o, ho, q⟩, r⟩ => ⟨items, ⟨o, e o ho, q⟩, r.keepS k⟩
  | .dci _, ⟨n, ns, kvs, ⟨o, es, ep, ho, q⟩, m, r⟩ => ⟨n, ns, kvs, ⟨o, es, ep, e o ho, q⟩, m, r.keepS k⟩
  | .dcs _, ⟨n, ns, kvs, ⟨o, es, ep, ho, q⟩, m, r⟩ => ⟨n, ns, kvs, ⟨o, es, ep, e o ho, q⟩, m, r.keepS k⟩
  | .ins _ _, ⟨n, r, g, ho⟩ => ⟨n, r, g, e _ ho⟩
  | .nsd _, ⟨n, es, m, ho, r⟩ => ⟨n, es, m, e _ ho, r.keepS k⟩

theorem OR.keep {C : Cx} {h h' : Heap} {a : Addr} (k : VK h h') (e : ∀ o, h.get? a = some o → h'.get? a = some o) {o : O} (r : OR C h a o) : OR C h' a o := r.keepS k.s e

theorem OR.there {C : Cx} {h : Heap} {a : Addr} : ∀ {o : O}, OR C h a o → ∃ ob, h.get? a = some ob
  | .lst _, ⟨_, _, ⟨_, p⟩, _⟩ => ⟨_, p⟩
  | .fro _, ⟨_, ⟨o, ho, _⟩, _⟩ => ⟨o, ho⟩
  | .dci _, ⟨_, _, _, ⟨o, _, _, ho, _⟩, _⟩ => ⟨o, ho⟩
  | .dcs _, ⟨_, _, _, ⟨o, _, _, ho, _⟩, _⟩ => ⟨o, ho⟩
  | .ins _ _, ⟨_, _, _, ho⟩ => ⟨_, ho⟩
  | .nsd _, ⟨_, _, _, ho, _⟩ => ⟨_, ho⟩

noncomputable def HR (C : Cx) (H : MH) (h : Heap) : Prop := ∀ a o, H a = some o → OR C h a o

theorem HR.keep {C : Cx} {H : MH} {h h' : Heap} (r : HR C H h) (k : VK h h') (e : ∀ b o, (H b).isSome = true → h.get? b = some o → h'.get? b = some o) : HR C H h' :=
  fun a o q => (r a o q).keep k fun ob => e a ob (by rw [q]; rfl)
theorem HR.there {C : Cx} {H : MH} {h : Heap} (r : HR C H h) {a : Addr} (q : (H a).isSome = true) : ∃ ob, h.get? a = some ob := by
  obtain ⟨o, e⟩ := Option.isSome_iff_exists.mp q
  exact (r a o e).there
theorem HR.fresh {C : Cx} {H : MH} {h : Heap} (r : HR C H h) {a : Addr} (q : h.get? a = none) : H a = none := by
  cases e : H a with
  | none => rfl
  | some o => obtain ⟨ob, w⟩ := (r a o e).there; rw [q] at w; cases w

structure Step (C : Cx) (D : Addr → Prop) (H : MH) (s : Shared) (H' : MH) (s' : Shared) : Prop where
  rel : HR C H' s'.heap
  chg : ∀ b o, s.heap.get? b = some o → H b = none → ¬ D b → ∃ sl, s'.heap.get? b = some { o with slots := sl } ∧ ((∀ es ep, o.data ≠ .dict es ep) → sl = o.slots)
  top : C.h0.StaysIn s'.heap
  dom : ∀ b, (H b).isSome = true → (H' b).isSome = true
  new : ∀ b, (H' b).isSome = true → (H b).isSome = true ∨ s.heap.get? b = none
  dn : ∀ b, D b → H b = none → H' b = none
  vk : VK s.heap s'.heap
  gens : s'.gens = s.gens
  os : s'.os = s.os

noncomputable abbrev No : Addr → Prop := fun _ => False

section
variable {C : Cx} {D D' : Addr → Prop} {H H' H'' : MH} {s s' s'' : Shared}

theorem Step.refl (r : HR C H s.heap) (t : C.h0.StaysIn s.heap) : Step C D H s H s :=
  ⟨r, fun b o e _ _ => ⟨o.slots, e, fun _ => rfl⟩, t, fun _ e => e, fun _ e => .inl e, fun _ _ e => e, .refl _, rfl, rfl⟩

theorem Step.trans (x : Step C D H s H' s') (y : Step C D H' s' H'' s'') : Step C D H s H'' s'' where
  rel := y.rel
  chg := fun b o e n d => by
    obtain ⟨sl, e', q⟩ := x.chg b o e n d
    have n' : H' b = none := by
      cases w : H' b with
      | none => rfl
      | some z =>
        rcases x.new b (by rw [w]; rfl) with u | u
        · rw [n] at u; cases u
        · rw [e] at u; cases u
    obtain ⟨sl', e'', q'⟩ := y.chg b _ e' n' d
    exact ⟨sl', e'', fun f => (q' f).trans (q f)⟩
  top := y.top
  dom := fun b e => y.dom b (x.dom b e)
  new := fun b e => by
    rcases y.new b e with u | u
    · exact x.new b u
    · by_cases w : (H b).isSome = true
      · exact .inl w
      · right
        cases v : s.heap.get? b with
        | none => rfl
        | some o =>
          have n : H b = none := by simpa using w
          by_cases d : D b
          · have := y.dn b d (x.dn b d n)
            rw [this] at e; cases e
          · obtain ⟨sl, e', _⟩ := x.chg b o v n d
            rw [u] at e'; cases e'
  dn := fun b d n => y.dn b d (x.dn b d n)
  vk := x.vk.trans y.vk
  gens := y.gens.trans x.gens
  os := y.os.trans x.os

theorem Step.gone (x : Step C D H s H' s') {b : Addr} {o : Obj} (e : s.heap.get? b = some o) (n : H b = Option.none) : H' b = Option.none := by
  cases w : H' b with
  | none => rfl
  | some z =>
    rcases x.new b (by rw [w]; rfl) with u | u
    · rw [n] at u; cases u
    · rw [e] at u; cases u

theorem Step.weaken (x : Step C No H s H' s') (hD : ∀ b, D b → ∃ o, s.heap.get? b = some o) : Step C D H s H' s' :=
  { x with chg := fun b o e n _ => x.chg b o e n (fun f => f), dn := fun b d n => let ⟨_, e⟩ := hD b d; x.gone e n }

theorem Step.narrow (x : Step C D H s H' s') (hD : ∀ b, D' b → D b) (hF : ∀ b, D b → D' b ∨ s.heap.get? b = Option.none) : Step C D' H s H' s' :=
  { x with chg := fun b o e n d => x.chg b o e n fun q => by
              rcases hF b q with u | u
              · exact d u
              · rw [e] at u; cases u
           dn := fun b d n => x.dn b (hD b d) n }

theorem Step.trans_new (x : Step C D H s H' s') (y : Step C D' H' s' H'' s'') (hn : ∀ b, D' b → s.heap.get? b = Option.none) (hd : ∀ b, D b → ∃ o, s'.heap.get? b = some o) : Step C D H s H'' s'' where
  rel := y.rel
  chg := fun b o e n d => by
    obtain ⟨sl, e', q⟩ := x.chg b o e n d
    obtain ⟨sl', e'', q'⟩ := y.chg b _ e' (x.gone e n) fun w => by rw [hn b w] at e; cases e
    exact ⟨sl', e'', fun f => (q' f).trans (q f)⟩
  top := y.top
  dom := fun b e => y.dom b (x.dom b e)
  new := fun b e => by
    rcases y.new b e with u | u
    · exact x.new b u
    · by_cases w : (H b).isSome = true
      · exact .inl w
      · right
        cases v : s.heap.get? b with
        | none => rfl
        | some o =>
          by_cases d : D b
          · obtain ⟨o', e'⟩ := hd b d
            rw [u] at e'; cases e'
          · obtain ⟨sl, e', _⟩ := x.chg b o v (by simpa using w) d
            rw [u] at e'; cases e'
  dn := fun b d n => let ⟨_, e⟩ := hd b d; y.gone e (x.dn b d n)
  vk := x.vk.trans y.vk
  gens := y.gens.trans x.gens
  os := y.os.trans x.os

theorem Step.keeps (r : HR C H s.heap) (t : C.h0.StaysIn s.heap) (k : ∀ b o, s.heap.get? b = some o → s'.heap.get? b = some o) (g : s'.gens = s.gens) (os : s'.os = s.os) : Step C D H s H s' :=
  ⟨r.keep (.of_keeps k) fun b o _ e => k b o e, fun b o e _ _ => ⟨o.slots, k b o e, fun _ => rfl⟩, fun b o e => k b o (t b o e), fun _ e => e, fun _ e => .inl e, fun _ _ e => e, .of_keeps k, g, os⟩

theorem Step.but (r : HR C H s.heap) (t : C.h0.StaysIn s.heap) (k : ∀ b o, s.heap.get? b = some o → ¬ D b → s'.heap.get? b = some o)
    (hH : ∀ b, D b → H b = Option.none) (h0 : ∀ b, D b → C.h0.get? b = Option.none) (l : ∀ b o, s.heap.get? b = some o → D b → Loose o)
    (d : ∀ b o es ep, s.heap.get? b = some o → D b → o.data = .dict es ep → ∃ o' es' ep', s'.heap.get? b = some o' ∧ o'.data = .dict es' ep')
    (g : s'.gens = s.gens) (os : s'.os = s.os) : Step C D H s H s' :=
  have vk : VK s.heap s'.heap := VK.of_but k l d
  ⟨r.keep vk fun b o q e => k b o e fun w => (by rw [hH b w] at q; cases q), fun b o e _ nd => ⟨o.slots, k b o e nd, fun _ => rfl⟩,
    fun b o e => k b o (t b o e) fun w => (by rw [h0 b w] at e; cases e), fun _ e => e, fun _ e => .inl e, fun _ _ e => e, vk, g, os⟩

theorem fresh_size (h : Heap) : h.get? h.objs.size = Option.none := by
  cases e : h.get? h.objs.size with
  | none => rfl
  | some o => exact absurd (Heap.lt_size e) (Nat.lt_irrefl _)
theorem Step.alloc {o : O} {ob : Obj} (r : HR C H s.heap) (t : C.h0.StaysIn s.heap)
    (ho : OR C (s.heap.push ob) s.heap.objs.size o) (hs : s'.heap = s.heap.push ob) (g : s'.gens = s.gens) (os : s'.os = s.os) : Step C No H s (upd H s.heap.objs.size o) s' := by
  have k : ∀ b o, s.heap.get? b = some o → s'.heap.get? b = some o := fun b o e => by rw [hs]; exact Heap.get?_push_of_some _ e
  refine ⟨fun b o' e => ?_, fun b o e _ _ => ⟨o.slots, k b o e, fun _ => rfl⟩, fun b o e => k b o (t b o e), fun b e => ?_, fun b e => ?_, fun b d n => d.elim, .of_keeps k, g, os⟩
  · by_cases q : b = s.heap.objs.size
    · subst q; rw [upd_self] at e; cases e; rw [hs]; exact ho
    · rw [upd_ne q] at e; exact (r b o' e).keep (.of_keeps k) fun ob => k b ob
  · by_cases q : b = s.heap.objs.size
    · subst q; rw [upd_self]; rfl
    · rw [upd_ne q]; exact e
  · by_cases q : b = s.heap.objs.size
    · subst q; exact .inr (fresh_size _)
    · rw [upd_ne q] at e; exact .inl e

theorem Step.mut {a : Addr} {o : O} (r : HR C H s.heap) (t : C.h0.StaysIn s.heap) (hH : (H a).isSome = true) (h0 : C.h0.get? a = Option.none) (hs : Heap.SameBut a s.heap s'.heap)
    (l : ∀ ob, s.heap.get? a = some ob → Loose ob) (d : ∀ ob es ep, s.heap.get? a = some ob → ob.data = .dict es ep → ∃ o' es' ep', s'.heap.get? a = some o' ∧ o'.data = .dict es' ep')
    (ho : VK s.heap s'.heap → OR C s'.heap a o) (g : s'.gens = s.gens) (os : s'.os = s.os) : Step C No H s (upd H a o) s' := by
  have k : ∀ b o, s.heap.get? b = some o → b ≠ a → s'.heap.get? b = some o := fun b o e n => (hs.2 b n).trans e
  have vk : VK s.heap s'.heap := VK.of_but (D := (· = a)) k (fun b o e q => l o (by rw [← q]; exact e)) fun b o es ep e q dd => by subst q; exact d o es ep e dd
  refine ⟨fun b o' e => ?_, fun b o e n _ => ?_, fun b o e => k b o (t b o e) ?_, fun b e => ?_, fun b e => ?_, fun b d n => d.elim, vk, g, os⟩
  · by_cases q : b = a
    · subst q; rw [upd_self] at e; cases e; exact ho vk
    · rw [upd_ne q] at e; exact (r b o' e).keep vk fun ob w => k b ob w q
  · refine ⟨o.slots, k b o e fun q => ?_, fun _ => rfl⟩
    subst q; rw [n] at hH; cases hH
  · rintro rfl; rw [h0] at e; cases e
  · by_cases q : b = a
    · subst q; rw [upd_self]; rfl
    · rw [upd_ne q]; exact e
  · by_cases q : b = a
    · subst q; exact .inl hH
    · rw [upd_ne q] at e; exact .inl e
end

noncomputable def Room (A : Around) (d : Nat) : Prop := A.depth + 2 * d + 2 < recursionLimit ∧ A.units + 8 * d + 40 < cLine

noncomputable def FrL (C : Cx) (H : MH) (h : Heap) (l : List Env) : Prop :=
  ∀ env ∈ l, env.scope.kind ≠ .module ∧ ∃ L o es ep, env.frame = some L ∧ h.get? L = some o ∧ o.data = .dict es ep ∧ H L = none ∧ C.h0.get? L = none
theorem FrL.step {C : Cx} {D : Addr → Prop} {H H' : MH} {s s' : Shared} {l : List Env} (x : FrL C H s.heap l) (y : Step C D H s H' s') : FrL C H' s'.heap l := fun env he => by
  obtain ⟨k, L, o, es, ep, f, g, d, n, z⟩ := x env he
  obtain ⟨o', es', ep', g', d'⟩ := y.vk.dct L o es ep g d
  exact ⟨k, L, o', es', ep', f, g', d', y.gone g n, z⟩

structure Md where
  n : Nat
  q : Bool

structure Ok (C : Cx) (d : Md) (H : MH) (A : Around) (s : Shared) : Prop where
  rel : HR C H s.heap
  top : C.h0.StaysIn s.heap
  room : Room A d.n
  hnd : (d.q = true → A.handled = none) ∧ (A.handled = none ∨ ∃ a o vs r, A.handled = some (.ref a) ∧ s.heap.get? a = some o ∧ o.cls = .ref r ∧ o.data = .fields vs ∧ vs[2]? = some .none)
  frs : ∃ l, A.frames = some l ∧ FrL C H s.heap l

theorem Ok.step {C : Cx} {D : Addr → Prop} {d : Md} {H H' : MH} {A : Around} {s s' : Shared} (x : Ok C d H A s) (y : Step C D H s H' s') : Ok C d H' A s' := by
  refine ⟨y.rel, y.top, x.room, ⟨x.hnd.1, x.hnd.2.imp id ?_⟩, let ⟨l, e, f⟩ := x.frs; ⟨l, e, f.step y⟩⟩
  rintro ⟨a, o, vs, r, e, g, c, dd, z⟩
  obtain ⟨o', vs', g', c', d', z'⟩ := y.vk.exc a o vs r g c dd
  exact ⟨a, o', vs', r, e, g', c'.1.trans c, d', z'.trans z⟩
theorem Ok.refl {C : Cx} {D : Addr → Prop} {d : Md} {H : MH} {A : Around} {s : Shared} (x : Ok C d H A s) : Step C D H s H s := .refl x.rel x.top
theorem Ok.toks {C : Cx} {D : Addr → Prop} {d : Md} {H : MH} {A : Around} {s : Shared} (x : Ok C d H A s) (n : Nat) : Step C D H s H { s with toks := n } := .keeps x.rel x.top (fun _ _ e => e) rfl rfl

end Vc
end

section
set_option autoImplicit false
set_option linter.unusedVariables false
namespace Vc
open PySem

theorem dict_mapFields (o : Obj) (f : Array Value → Array Value) : (o.mapFields f).dict = o.dict := by
  obtain ⟨c, d, dt, sl⟩ := o
  cases dt <;> rfl

theorem OR.not_fields {C : Cx} {h : Heap} {a : Addr} {ob : Obj} {vs : Array Value} (e : h.get? a = some ob) (d : ob.data = .fields vs) : ∀ {o : O}, ¬ OR C h a o
  | .lst _, ⟨_, _, ⟨_, p⟩, _⟩ => by rw [e] at p; cases p; cases d
  | .fro _, ⟨_, ⟨o, ho, _, _, q⟩, _⟩ => by rw [e] at ho; cases ho; rw [d] at q; cases q
  | .dci _, ⟨_, _, _, ⟨o, _, _, ho, _, q, _⟩, _⟩ => by rw [e] at ho; cases ho; rw [d] at q; cases q
  | .dcs _, ⟨_, _, _, ⟨o, _, _, ho, _, q, _⟩, _⟩ => by rw [e] at ho; cases ho; rw [d] at q; cases q
  | .ins _ _, ⟨_, _, _, ho⟩ => by rw [e] at ho; cases ho; cases d
  | .nsd _, ⟨_, _, _, ho, _⟩ => by rw [e] at ho; cases ho; cases d
theorem HR.no_fields {C : Cx} {H : MH} {h : Heap} {a : Addr} {ob : Obj} {vs : Array Value} (r : HR C H h) (e : h.get? a = some ob) (d : ob.data = .fields vs) : H a = none := by
  cases q : H a with
  | none => rfl
  | some o => exact ((r a o q).not_fields e d).elim

structure Fly (C : Cx) (tr : Bool) (s : Shared) (a : Addr) (c : String) (h : Heap) : Prop where
  new : s.heap.get? a = none
  obj : ∃ o vs r, h.get? a = some o ∧ o.cls = .ref r ∧ (C.G c (.ref r) ∧ o.dict = none) ∧ o.data = .fields vs ∧ 1 < vs.size ∧ vs[2]? = some .none ∧
    ((tr = false ∧ vs[1]? = some .none) ∨ ∃ T oT ts, vs[1]? = some (.ref T) ∧ s.heap.get? T = none ∧ T ≠ a ∧ h.get? T = some oT ∧ oT.cls = .type "traceback" ∧ oT.data = .fields ts ∧ 3 < ts.size)

noncomputable abbrev XP := String → MH → Prop
noncomputable abbrev XH := String → MH → Heap → Prop
noncomputable def up (X : XP) : XH := fun c H _ => X c H
noncomputable def StX (C : Cx) (X : XH) : Prop := ∀ c (H : MH) (s s' : Shared) (D : Addr → Prop), Step C D H s H s' → (∀ b o, D b → s.heap.get? b = some o → ∃ vs, o.data = .fields vs) → X c H s.heap → X c H s'.heap
theorem stX_up {C : Cx} {X : XP} : StX C (up X) := fun _ _ _ _ _ _ _ h => h
noncomputable def XG (tr : Bool) (C : Cx) (D : Addr → Prop) (H : MH) (s : Shared) (X : XH) (e : Value) (s' : Shared) : Prop :=
  ∃ a c H', e = .ref a ∧ Step C D H s H' s' ∧ (∀ b, D b → ∃ o, s'.heap.get? b = some o) ∧ Fly C tr s a c s'.heap ∧ X c H' s'.heap
noncomputable abbrev XQ (tr : Bool) (C : Cx) (D : Addr → Prop) (H : MH) (s : Shared) (X : XP) : Value → Shared → Prop := XG tr C D H s (up X)

theorem Fly.mono {C : Cx} {s : Shared} {a : Addr} {c : String} {h : Heap} (x : Fly C true s a c h) : Fly C false s a c h :=
  let ⟨o, vs, r, h1, h2, h3, h4, h5, h6, h7⟩ := x.obj
  ⟨x.new, o, vs, r, h1, h2, h3, h4, h5, h6, h7.imp (fun ⟨q, _⟩ => by cases q) id⟩
theorem XG.mono {C : Cx} {D : Addr → Prop} {H : MH} {s : Shared} {X : XH} {e : Value} {s' : Shared} (x : XG true C D H s X e s') : XG false C D H s X e s' :=
  let ⟨a, c, H', h1, h2, hx, h3, h4⟩ := x; ⟨a, c, H', h1, h2, hx, h3.mono, h4⟩

theorem VK.of_records {h h' : Heap} {D : Addr → Prop} (k : ∀ b o, h.get? b = some o → ¬ D b → ∃ sl, h'.get? b = some { o with slots := sl } ∧ ((∀ es ep, o.data ≠ .dict es ep) → sl = o.slots))
    (d : ∀ b o, h.get? b = some o → D b → ∃ o' vs vs', h'.get? b = some o' ∧ o.data = .fields vs ∧ o'.data = .fields vs' ∧ (o'.cls = o.cls ∧ o'.dict = o.dict) ∧ o.cls ≠ .type "range" ∧ vs'[2]? = vs[2]?) : VK h h' := by
  refine ⟨fun b o e s => ?_, fun b o vs r e c dd => ?_, fun b o es ep e dd => ?_⟩
  · by_cases q : D b
    · obtain ⟨o', vs, vs', e', d1, d2, c', n, _⟩ := d b o e q
      rcases s with ⟨_, _, _, d3⟩ | ⟨c3, _⟩
      · rw [d1] at d3; cases d3
      · exact (n c3).elim
    · obtain ⟨sl, e', w⟩ := k b o e q
      have : sl = o.slots := w fun es ep d3 => by
        rcases s with ⟨_, _, _, d4⟩ | ⟨_, _, d4⟩ <;> rw [d4] at d3 <;> cases d3
      rw [this] at e'; exact e'
  · by_cases q : D b
    · obtain ⟨o', vs1, vs', e', d1, d2, c', n, g⟩ := d b o e q
      rw [d1] at dd; cases dd
      exact ⟨o', vs', e', c', d2, g⟩
    · obtain ⟨sl, e', w⟩ := k b o e q
      exact ⟨_, vs, e', ⟨rfl, rfl⟩, dd, rfl⟩
  · by_cases q : D b
    · obtain ⟨o', vs, vs', e', d1, d2, c', n, _⟩ := d b o e q
      rw [d1] at dd; cases dd
    · obtain ⟨sl, e', w⟩ := k b o e q
      exact ⟨_, es, ep, e', dd⟩

theorem Step.records {C : Cx} {D : Addr → Prop} {H : MH} {s s' : Shared} (r : HR C H s.heap) (t : C.h0.StaysIn s.heap) (h0 : ∀ b, D b → C.h0.get? b = none)
    (k : ∀ b o, s.heap.get? b = some o → ¬ D b → (s'.heap.get? b = some o ∨ (H b = none ∧ C.h0.get? b = none ∧ (∃ es ep, o.data = .dict es ep) ∧ ∃ sl, s'.heap.get? b = some { o with slots := sl })))
    (d : ∀ b o, s.heap.get? b = some o → D b → ∃ o' vs vs', s'.heap.get? b = some o' ∧ o.data = .fields vs ∧ o'.data = .fields vs' ∧ (o'.cls = o.cls ∧ o'.dict = o.dict) ∧ o.cls ≠ .type "range" ∧ vs'[2]? = vs[2]?)
    (g : s'.gens = s.gens) (os : s'.os = s.os) : Step C D H s H s' := by
  have k' : ∀ b o, s.heap.get? b = some o → ¬ D b → ∃ sl, s'.heap.get? b = some { o with slots := sl } ∧ ((∀ es ep, o.data ≠ .dict es ep) → sl = o.slots) := fun b o e n => by
    rcases k b o e n with w | ⟨_, _, ⟨es, ep, w⟩, sl, w'⟩
    · exact ⟨o.slots, w, fun _ => rfl⟩
    · exact ⟨sl, w', fun q => (q es ep w).elim⟩
  have vk := VK.of_records k' d
  refine ⟨r.keep vk fun b o q e => ?_, fun b o e _ n => k' b o e n, fun b o e => ?_, fun _ e => e, fun _ e => .inl e, fun _ _ e => e, vk, g, os⟩
  · by_cases w : D b
    · obtain ⟨o', vs, _, _, d1, _⟩ := d b o e w
      rw [r.no_fields e d1] at q; cases q
    · rcases k b o e w with u | ⟨u, _⟩
      · exact u
      · rw [u] at q; cases q
  · have e1 := t b o e
    by_cases w : D b
    · rw [h0 b w] at e; cases e
    · rcases k b o e1 w with u | ⟨_, u, _⟩
      · exact u
      · rw [u] at e; cases e

theorem FrL.fun {C : Cx} {H : MH} {h : Heap} : ∀ {l : List Env}, FrL C H h l → h.FunFrames ⟨#[], {}⟩ l
  | [], _ => trivial
  | env :: l, x => by
    obtain ⟨k, L, o, es, ep, f, g, d, _⟩ := x env (.head _)
    exact ⟨k, ⟨L, o, f, rfl, g, fun vs q => by rw [d] at q; cases q⟩, FrL.fun fun e he => x e (.tail _ he)⟩
theorem FrL.mem {C : Cx} {H : MH} {h : Heap} {l : List Env} (x : FrL C H h l) {b : Addr} (hb : b ∈ l.filterMap (·.frame)) : H b = none ∧ C.h0.get? b = none ∧ ∃ o es ep, h.get? b = some o ∧ o.data = .dict es ep := by
  obtain ⟨env, he, hf⟩ := List.mem_filterMap.mp hb
  obtain ⟨_, L, o, es, ep, f, g, d, n, z⟩ := x env he
  rw [f] at hf; cases hf
  exact ⟨n, z, o, es, ep, g, d⟩

theorem fresh_top {C : Cx} {h : Heap} (t : C.h0.StaysIn h) {b : Addr} (e : h.get? b = none) : C.h0.get? b = none := by
  cases q : C.h0.get? b with
  | none => rfl
  | some o => rw [t b o q] at e; cases e

section
variable {C : Cx} {A : Around} {D : Addr → Prop} {H : MH} {s s' : Shared} {X : XH} {e : Value} {env fenv : Env} {outer : List Env} {E : Value → Shared → Prop}

theorem frameOf_as {l : List Env} {L : Addr} {Q : Value → Shared → Prop} (hfr : A.frames = some (fenv :: outer)) (hl : s.heap.FunFrames ⟨#[], {}⟩ (fenv :: outer)) (hff : fenv.frame = env.frame)
    (hf : env.frame = some L) (h : ∀ h', Heap.SlotsOnly ((fenv :: outer).filterMap (·.frame)) s.heap h' → Q (.ref L) { s with heap := h' }) : wpAny C.M A (frameOf env) Q E s := by
  unfold frameOf
  refine wpAny_bind (wpAny_frameEnvs hfr ?_)
  have hdw : ((fenv :: outer).dropWhile fun x => x.frame != env.frame) = fenv :: outer := by simp [List.dropWhile, hff]
  rw [hdw]
  unfold frameObject
  refine wpAny_bind (wpAny_bind (wpAny_readyFrames_fun hl fun h₁ hs₁ => wpAny_pure ?_))
  rw [hff, hf]
  exact wpAny_pure (h h₁ hs₁)

theorem note_tail {a L : Addr} {c : String} {H' : MH} {head : Value} {hadNext : Bool} {Q : Unit → Shared → Prop} (hfr : A.frames = some (fenv :: outer)) (hff : fenv.frame = env.frame) (hl : FrL C H' s'.heap (fenv :: outer)) (hf : env.frame = some L)
    (ht : C.h0.StaysIn s.heap) (st : Step C D H s H' s') (hD : ∀ b, D b → ∃ o, s'.heap.get? b = some o) {o : Obj} {vs : Array Value} {r : Addr} (new : s.heap.get? a = none) (ho : s'.heap.get? a = some o) (hc : o.cls = .ref r) (hg : C.G c (.ref r) ∧ o.dict = none) (hd : o.data = .fields vs) (hsz : 1 < vs.size) (h2 : vs[2]? = some .none)
    (hQ : ∀ h', Step C D H s H' { s' with heap := h' } → (∀ b o', s'.heap.get? b = some o' → ∃ o'', h'.get? b = some o'') → (∀ X : XH, StX C X → X c H' s'.heap → X c H' h') → Fly C true s a c h' → Q () { s' with heap := h' }) :
    wpAny C.M A (do let f ← frameOf env; let pl ← entryPlaceOf L hadNext; let b ← EntryCells.newEntry head f .none (rawInt L) .none pl; setField (.ref a) 1 b) Q E s' := by
  refine wpAny_bind (frameOf_as (l := []) hfr hl.fun hff hf fun h₁ hs₁ => ?_)
  refine wpAny_bind (wpAny_entryPlaceOf fun pl hpl => ?_)
  unfold EntryCells.newEntry newFields
  refine wpAny_bind (wpAny_newObj_type ?_ (hpl.sizeOk5 _ _ _ _ _))
  have hna : a ∉ (fenv :: outer).filterMap (·.frame) := fun hm => by
    obtain ⟨_, _, o', es, ep, g, d⟩ := hl.mem hm
    rw [ho] at g; cases g; rw [hd] at d; cases d
  have ho₁ : h₁.get? a = some o := (hs₁.2.1 a hna).trans ho
  generalize hTB : ({ cls := .type "traceback", dict := none, data := .fields ([head, .ref L, .none, rawInt L, .none] ++ (if pl.isEmpty then List.replicate 6 Value.none else pl)).toArray } : Obj) = TB
  have hTBc : TB.cls = .type "traceback" := by rw [← hTB]
  have hTBd : ∃ ts, TB.data = .fields ts ∧ 3 < ts.size := by rw [← hTB]; exact ⟨_, rfl, by simp⟩
  have hTBf : TB.isFreed = false := by rw [← hTB]; rfl
  have ho₂ := Heap.get?_push_of_some (h := h₁) TB ho₁
  refine wpAny_setField ho₂ hd hsz ?_
  have hne : h₁.objs.size ≠ a := Nat.ne_of_gt (Heap.lt_size ho₁)
  have hd₃ := Obj.data_mapFields hd (·.setIfInBounds 1 (Value.ref h₁.objs.size))
  have ho₃ := Heap.get?_update_self (Obj.mapFields (·.setIfInBounds 1 (Value.ref h₁.objs.size))) ho₂ (Obj.isFreed_of_fields hd₃)
  have hT₃ := (Heap.get?_update_other (h₁.push TB) (Obj.mapFields (·.setIfInBounds 1 (Value.ref h₁.objs.size))) (Ne.symm hne)).trans (Heap.get?_push_size h₁ hTBf)
  have hTs : s.heap.get? h₁.objs.size = none := by
    cases q : s.heap.get? h₁.objs.size with
    | none => rfl
    | some o' =>
      exfalso
      have hlt : h₁.objs.size < s'.heap.objs.size := by
        by_cases u : (H h₁.objs.size).isSome = true
        · obtain ⟨ob, w⟩ := st.rel.there (st.dom _ u); exact Heap.lt_size w
        · by_cases dd : D h₁.objs.size
          · obtain ⟨ob, w⟩ := hD _ dd; exact Heap.lt_size w
          · obtain ⟨sl, w, _⟩ := st.chg _ o' q (by simpa using u) dd; exact Heap.lt_size w
      rw [hs₁.1] at hlt; exact Nat.lt_irrefl _ hlt
  have keep : ∀ b o', s'.heap.get? b = some o' → b ≠ a → (((h₁.push TB).update a (Obj.mapFields (·.setIfInBounds 1 (Value.ref h₁.objs.size)))).get? b = some o' ∨
      (H' b = none ∧ C.h0.get? b = none ∧ (∃ es ep, o'.data = .dict es ep) ∧ ∃ sl, ((h₁.push TB).update a (Obj.mapFields (·.setIfInBounds 1 (Value.ref h₁.objs.size)))).get? b = some { o' with slots := sl })) := fun b o' hb hba => by
    rw [Heap.get?_update_other _ _ (Ne.symm hba)]
    by_cases m : b ∈ (fenv :: outer).filterMap (·.frame)
    · obtain ⟨n, z, o'', es, ep, g, d⟩ := hl.mem m
      rw [hb] at g; cases g
      obtain ⟨sl, w⟩ := hs₁.2.2 b o' hb
      exact .inr ⟨n, z, ⟨es, ep, d⟩, sl, Heap.get?_push_of_some _ w⟩
    · exact .inl (Heap.get?_push_of_some _ ((hs₁.2.1 b m).trans hb))
  have z : Step C (· = a) H' s' H' { s' with heap := (h₁.push TB).update a (Obj.mapFields (·.setIfInBounds 1 (Value.ref h₁.objs.size))) } := by
    refine Step.records st.rel st.top (fun b q => ?_) (fun b o' hb hba => keep b o' hb hba) (fun b o' hb q => ?_) rfl rfl
    · subst q; exact fresh_top ht new
    · subst q
      rw [ho] at hb; cases hb
      exact ⟨_, vs, _, ho₃, hd, hd₃, ⟨Obj.cls_mapFields .., dict_mapFields ..⟩, by rw [hc]; exact Value.noConfusion, by simp⟩
  refine hQ _ ?_ (fun b o' hb => ?_) (fun X sx hx => sx c H' s' _ _ z (fun b ob q e => by subst q; rw [ho] at e; cases e; exact ⟨vs, hd⟩) hx) ⟨new, _, _, r, ho₃, (Obj.cls_mapFields ..).trans hc, ⟨hg.1, (dict_mapFields ..).trans hg.2⟩, hd₃, by simpa using hsz, by simpa using h2, .inr ⟨h₁.objs.size, TB, _, by simp [hsz], hTs, hne, hT₃, hTBc, hTBd.choose_spec.1, hTBd.choose_spec.2⟩⟩
  · exact st.trans_new z (fun b q => by subst q; exact new) hD
  · by_cases q : b = a
    · subst q; exact ⟨_, ho₃⟩
    · rcases keep b o' hb q with w | ⟨_, _, _, _, w⟩ <;> exact ⟨_, w⟩

theorem noteG {d : Md} (sx : StX C X) (ok : Ok C d H A s) (hfr : A.frames = some (fenv :: outer)) (hff : fenv.frame = env.frame) (hlo : ∀ H' : MH, ∀ s' : Shared, Step C D H s H' s' → FrL C H' s'.heap (fenv :: outer)) (x : XG false C D H s X e s') {Q : Unit → Shared → Prop} (hQ : ∀ s'', XG true C D H s X e s'' → Q () s'') : wpAny C.M A (noteFrame e env) Q E s' := by
  refine wpAny_mono (Q := fun _ s'' => XG true C D H s X e s'') (E := E) ?_ (fun _ s'' h => hQ s'' h) fun _ _ h => h
  obtain ⟨a, c, H', rfl, st, hD, ⟨new, o, vs, r, ho, hc, hg, hd, hsz, h2, hT⟩, hX⟩ := x
  have hl := hlo H' s' st
  obtain ⟨_, L, _, _, _, hf', _⟩ := hl fenv (.head _)
  have hf : env.frame = some L := hff ▸ hf'
  unfold noteFrame
  simp only [hf]
  rcases hT with ⟨_, h1⟩ | ⟨T, oT, ts, h1, newT, hTa, hoT, hcT, hdT, hszT⟩
  · refine wpAny_bind (wpAny_field ho hd h1 ?_)
    rw [if_neg (by decide)]
    refine note_tail hfr hff hl hf ok.top st hD new ho hc hg hd hsz h2 fun h' st' kp kx fl => ⟨a, c, H', rfl, st', fun b db => let ⟨o, w⟩ := hD b db; kp b o w, fl, kx X sx hX⟩
  · refine wpAny_bind (wpAny_field ho hd h1 ?_)
    rw [if_pos (show (Value.ref T != Value.none) = true from by simp)]
    refine wpAny_bind (wpAny_field hoT hdT (x := ts[3]) (by simp [hszT]) ?_)
    by_cases q : (ts[3] == rawInt L) = true
    · rw [if_pos q]
      exact wpAny_pure ⟨a, c, H', rfl, st, hD, ⟨new, o, vs, r, ho, hc, hg, hd, hsz, h2, .inr ⟨T, oT, ts, h1, newT, hTa, hoT, hcT, hdT, hszT⟩⟩, hX⟩
    · rw [if_neg q]
      have hdT' := Obj.data_mapFields hdT (·.setIfInBounds 3 Value.none)
      have hoT' := Heap.get?_update_self (Obj.mapFields (·.setIfInBounds 3 Value.none)) hoT (Obj.isFreed_of_fields hdT')
      have oth : ∀ b, b ≠ T → (s'.heap.update T (Obj.mapFields (·.setIfInBounds 3 Value.none))).get? b = s'.heap.get? b := fun b hb => Heap.get?_update_other _ _ (Ne.symm hb)
      refine wpAny_bind (wpAny_setField hoT hdT hszT ?_)
      have z : Step C (· = T) H' s' H' { s' with heap := s'.heap.update T (Obj.mapFields (·.setIfInBounds 3 Value.none)) } := by
        refine Step.records st.rel st.top (fun b q => ?_) (fun b o' hb hba => .inl ((oth b hba).trans hb)) (fun b o' hb q => ?_) rfl rfl
        · subst q; exact fresh_top ok.top newT
        · subst q
          rw [hoT] at hb; cases hb
          exact ⟨_, ts, _, hoT', hdT, hdT', ⟨Obj.cls_mapFields .., dict_mapFields ..⟩, by rw [hcT]; simp, by simp⟩
      have st' := st.trans_new z (fun b q => by subst q; exact newT) hD
      have ex : ∀ b o', s'.heap.get? b = some o' → ∃ o'', (s'.heap.update T (Obj.mapFields (·.setIfInBounds 3 Value.none))).get? b = some o'' := fun b o' hb => by
        by_cases q : b = T
        · subst q; exact ⟨_, hoT'⟩
        · exact ⟨o', (oth b q).trans hb⟩
      refine note_tail hfr hff (hlo H' _ st') hf ok.top st' (fun b db => let ⟨o, w⟩ := hD b db; ex b o w) new ((oth a (Ne.symm hTa)).trans ho) hc hg hd hsz h2 fun h' st'' kp kx fl => ⟨a, c, H', rfl, st'', fun b db => let ⟨o, w⟩ := hD b db; let ⟨o', w'⟩ := ex b o w; kp b o' w', fl, kx X sx (sx c H' s' _ _ z (fun b ob q e => by subst q; rw [hoT] at e; cases e; exact ⟨ts, hdT⟩) hX)⟩

theorem flight {fr : Option Addr} {Q : Unit → Shared → Prop} (sx : StX C X) (t0 : C.h0.StaysIn s.heap) (x : XG true C D H s X e s') (hQ : ∀ s'', XG true C D H s X e s'' → Q () s'') : wpAny C.M A (setFlight e fr) Q E s' := by
  obtain ⟨a, c, H', rfl, st, hD, ⟨new, o, vs, r, ho, hc, hg, hd, hsz, h2, hT⟩, hX⟩ := x
  rcases hT with ⟨q, _⟩ | ⟨T, oT, ts, h1, newT, hTa, hoT, hcT, hdT, hszT⟩
  · cases q
  unfold setFlight
  refine wpAny_bind (wpAny_field ho hd h1 ?_)
  rw [if_pos (show (Value.ref T != Value.none) = true from by simp)]
  generalize (fr.elim Value.none fun f => rawInt f) = fv
  have hdT' := Obj.data_mapFields hdT (·.setIfInBounds 3 fv)
  have hoT' := Heap.get?_update_self (Obj.mapFields (·.setIfInBounds 3 fv)) hoT (Obj.isFreed_of_fields hdT')
  have oth : ∀ b, b ≠ T → (s'.heap.update T (Obj.mapFields (·.setIfInBounds 3 fv))).get? b = s'.heap.get? b := fun b hb => Heap.get?_update_other _ _ (Ne.symm hb)
  refine wpAny_setField hoT hdT hszT ?_
  have z : Step C (· = T) H' s' H' { s' with heap := s'.heap.update T (Obj.mapFields (·.setIfInBounds 3 fv)) } := by
    refine Step.records st.rel st.top (fun b q => ?_) (fun b o' hb hba => .inl ((oth b hba).trans hb)) (fun b o' hb q => ?_) rfl rfl
    · subst q; exact fresh_top t0 newT
    · subst q
      rw [hoT] at hb; cases hb
      exact ⟨_, ts, _, hoT', hdT, hdT', ⟨Obj.cls_mapFields .., dict_mapFields ..⟩, by rw [hcT]; simp, by simp⟩
  refine hQ _ ⟨a, c, H', rfl, st.trans_new z (fun b q => by subst q; exact newT) hD, fun b db => ?_, ⟨new, o, vs, r, (oth a (Ne.symm hTa)).trans ho, hc, hg, hd, hsz, h2, .inr ⟨T, _, _, h1, newT, hTa, hoT', (Obj.cls_mapFields ..).trans hcT, hdT', by simpa using hszT⟩⟩, sx c H' s' _ _ z (fun b ob q e => by subst q; rw [hoT] at e; cases e; exact ⟨ts, hdT⟩) hX⟩
  obtain ⟨ob, w⟩ := hD b db
  by_cases q : b = T
  · subst q; exact ⟨_, hoT'⟩
  · exact ⟨ob, (oth b q).trans w⟩

theorem cameBack {d : Md} (sx : StX C X) (ok : Ok C d H A s) (x : XG true C D H s X e s') : cameBackBy C.M A env (XG true C D H s X) e s' := by
  obtain ⟨a, c, H', rfl, st, hD, fl, hX⟩ := id x
  obtain ⟨new, o, vs, r, ho, hc, hg, hd, hsz, h2, hT⟩ := id fl
  rcases hT with ⟨q, _⟩ | ⟨T, oT, ts, h1, newT, hTa, hoT, hcT, hdT, hszT⟩
  · cases q
  unfold cameBackBy
  refine wpAny_bind (wpAny_field ho hd h1 ?_)
  rw [if_neg (show ¬ (Value.ref T == Value.none) = true from by simp)]
  exact flight sx ok.top x fun s'' x' => x'

theorem leave {d : Md} (sx : StX C X) (ok : Ok C d H A s) (hfr : A.frames = some (fenv :: outer)) (hff : fenv.frame = env.frame) (hlo : ∀ H' : MH, ∀ s' : Shared, Step C D H s H' s' → FrL C H' s'.heap (fenv :: outer)) (x : XG false C D H s X e s')
    {Q : Unit → Shared → Prop} (hQ : ∀ s'', XG true C D H s X e s'' → Q () s'') : wpAny C.M A (leaving env e) Q E s' := by
  unfold leaving
  exact wpAny_bind (noteG sx ok hfr hff hlo x fun s₁ x₁ => flight sx ok.top x₁ hQ)

theorem note {d : Md} (sx : StX C X) (ok : Ok C d H A s) (hfr : A.frames = some (fenv :: outer)) (hff : fenv.frame = env.frame) (hlo : ∀ H' : MH, ∀ s' : Shared, Step C D H s H' s' → FrL C H' s'.heap (fenv :: outer)) (x : XG false C D H s X e s') : notedBy C.M A env (XG true C D H s X) e s' :=
  noteG sx ok hfr hff hlo x fun _ h => h

theorem passing {d : Md} {α : Type} {what : String} {Q : α → Shared → Prop} (sx : StX C X) (ok : Ok C d H A s) (x : XG true C D H s X e s') (hE : ∀ s'', XG true C D H s X e s'' → E e s'') : wpAny C.M A (passOn what e env : Sem α) Q E s' := by
  obtain ⟨a, c, H', rfl, st, hD, fl, hX⟩ := id x
  obtain ⟨new, o, vs, r, ho, hc, hg, hd, hsz, h2, hT⟩ := id fl
  rcases hT with ⟨q, _⟩ | ⟨T, oT, ts, h1, newT, hTa, hoT, hcT, hdT, hszT⟩
  · cases q
  unfold passOn
  refine wpAny_bind (wpAny_field ho hd h1 ?_)
  rw [if_neg (show ¬ (Value.ref T == Value.none) = true from by simp)]
  exact wpAny_bind (flight sx ok.top x fun s'' x' => wpAny_throw (hE s'' x'))
end

end Vc
end

section
set_option autoImplicit false
set_option linter.unusedVariables false
namespace Vc
open PySem

inductive Ex where
  | nm (i : Nat)
  | gl (x : String)
  | ci (i : Int)
  | cs (s : String)
  | cb (b : Bool)
  | cn
  | bin (op : Operator) (l r : Ex)
  | una (op : UnaryOp) (e : Ex)
  | cmp (op : CmpOp) (l r : Ex)
  | cmp2 (op op' : CmpOp) (l m r : Ex)
  | bop (op : BoolOp) (es : List Ex)
  | ife (c a b : Ex)
  | lst (es : List Ex)
  | tup (es : List Ex)
  | emp (k : Nat)
  | dct (ks : List String) (es : List Ex)
  | sub (o i : Ex)
  | sli (o l u t : Ex)
  | call (f : String) (es : List Ex)
  | meth (o : Ex) (m : String) (es : List Ex)
  | att (o : Ex) (a : String)
  | comp (k : Nat) (elt it : Ex) (ifs : List Ex)
  deriving Inhabited

inductive Src where
  | pl (e : Ex)
  | en (e : Ex)
  | zp (a b : Ex)
  deriving Inhabited

inductive St where
  | asg (i : Nat) (e : Ex)
  | unp (is : List Nat) (e : Ex)
  | seti (o i e : Ex)
  | seta (o : Ex) (a : String) (e : Ex)
  | exp (e : Ex)
  | ret (e : Ex)
  | ife (c : Ex) (a b : List St)
  | for (k : List Nat) (it : Src) (body : List St)
  | whl (c : Ex) (body : List St)
  | rais (c : String) (msg : String)
  | tre (body : List St) (c : String) (as : Option Nat) (hb : List St) (el : List St)
  | pas
  deriving Inhabited

noncomputable abbrev Lo := List (Option V)
noncomputable def lk : Lo → Nat → Option V
  | [], _ => none
  | x :: _, 0 => x
  | _ :: r, i + 1 => lk r i
noncomputable def ls : Lo → Nat → V → Lo
  | [], _, _ => []
  | _ :: r, 0, v => some v :: r
  | x :: r, i + 1, v => x :: ls r i v
theorem ls_length : ∀ (r : Lo) (i : Nat) (v : V), (ls r i v).length = r.length
  | [], _, _ => rfl
  | _ :: _, 0, _ => rfl
  | _ :: r, i + 1, v => by simp [ls, ls_length r i v]
theorem lk_ls_ne : ∀ {r : Lo} {i j : Nat} {v : V}, i ≠ j → lk (ls r i v) j = lk r j
  | [], _, _, _, _ => rfl
  | _ :: _, 0, 0, _, h => (h rfl).elim
  | _ :: _, 0, _ + 1, _, _ => rfl
  | _ :: _, _ + 1, 0, _, _ => rfl
  | _ :: r, i + 1, j + 1, v, h => by simpa [ls, lk] using lk_ls_ne (r := r) (v := v) fun e => h (by rw [e])
theorem lk_ls_self : ∀ {r : Lo} {i : Nat} {v w : V}, lk (ls r i v) i = some w → v = w
  | [], _, _, _, h => by simp [ls, lk] at h
  | _ :: _, 0, _, _, h => by simpa [ls, lk] using h
  | _ :: r, i + 1, v, w, h => by simp [ls, lk] at h; exact lk_ls_self h
theorem lk_append : ∀ {r t : Lo} {i : Nat}, lk (r ++ t) (r.length + i) = lk t i
  | [], _, _ => by simp
  | _ :: r, t, i => by rw [List.cons_append, List.length_cons, show r.length + 1 + i = (r.length + i) + 1 by omega]; simpa [lk] using lk_append (r := r)
theorem lk_append_lt : ∀ {r t : Lo} {i : Nat}, i < r.length → lk (r ++ t) i = lk r i
  | [], _, _, h => by simp at h
  | _ :: _, _, 0, _ => rfl
  | _ :: r, t, i + 1, h => by simpa [lk] using lk_append_lt (r := r) (t := t) (i := i) (by simpa using h)

noncomputable def rngItems (a b c : Int) : List V := (List.range (Builtin.Range.rangeSize a b c).toNat).map fun (k : Nat) => V.int (a + (k : Int) * c)
noncomputable def itemsOf (H : MH) : V → Option (List V)
  | .ref a => (match H a with | some (.lst l) => some l | some (.fro l) => some l | _ => none)
  | .tup l => some l
  | .rng a b c => some (rngItems a b c)
  | .str x => some (x.cps.toList.map fun c => V.str ⟨#[c]⟩)
  | _ => none

section
variable (C : Cx) (d : Md)

noncomputable def QP (H : MH) (s : Shared) (Q : V → MH → Prop) (v : Value) (s' : Shared) : Prop := ∃ r H', Step C No H s H' s' ∧ VR C s'.heap r v ∧ Q r H'

noncomputable def BinW (op : Operator) (a b : V) (H : MH) (Q : V → MH → Prop) (X : XP) : Prop :=
  ∀ A s ca cb, Ok C d H A s → VR C s.heap a ca → VR C s.heap b cb → wpAny C.M A (binaryOp op ca cb) (QP C H s Q) (XQ false C No H s X) s
noncomputable def CmpW (op : CmpOp) (a b : V) (H : MH) (Q : V → MH → Prop) (X : XP) : Prop :=
  ∀ A s ca cb, Ok C d H A s → VR C s.heap a ca → VR C s.heap b cb → wpAny C.M A (compareOp op ca cb) (QP C H s Q) (XQ false C No H s X) s
noncomputable def UnaW (op : UnaryOp) (a : V) (H : MH) (Q : V → MH → Prop) (X : XP) : Prop :=
  ∀ A s ca, Ok C d H A s → VR C s.heap a ca → wpAny C.M A (unaryOp op ca) (QP C H s Q) (XQ false C No H s X) s
noncomputable def TruW (a : V) (H : MH) (Q : Bool → MH → Prop) (X : XP) : Prop :=
  ∀ A s ca, Ok C d H A s → VR C s.heap a ca → wpAny C.M A (truthy ca) (fun b s' => ∃ H', Step C No H s H' s' ∧ Q b H') (XQ false C No H s X) s
noncomputable def SubW (o i : V) (H : MH) (Q : V → MH → Prop) (X : XP) : Prop :=
  ∀ A s co ci, Ok C d H A s → VR C s.heap o co → VR C s.heap i ci →
    wpAny C.M A (getitemInPython co) (fun b s' => b = false ∧ s' = s) (fun _ _ => False) s ∧ wpAny C.M A (getItem co ci) (QP C H s Q) (XQ false C No H s X) s
noncomputable def SliW (o l u t : V) (H : MH) (Q : V → MH → Prop) (X : XP) : Prop :=
  ∀ A s co cl cu ct q, Ok C d H A s → VR C s.heap o co → VR C s.heap l cl → VR C s.heap u cu → VR C s.heap t ct → s.heap.get? q = some { cls := .type "slice", data := .fields #[cl, cu, ct] } →
    wpAny C.M A (getitemInPython co) (fun b s' => b = false ∧ s' = s) (fun _ _ => False) s ∧ wpAny C.M A (getItem co (.ref q)) (QP C H s Q) (XQ false C No H s X) s
noncomputable def Callee (fv : Value) : Prop := ∀ A s (Q : Keeper → Shared → Prop) (E : Value → Shared → Prop), C.h0.StaysIn s.heap → (∀ k, Q k s) → wpAny C.M A (keeperOf fv) Q E s
noncomputable def CallV (fv : Value) (args : List V) (H : MH) (Q : V → MH → Prop) (X : XP) : Prop :=
  ∀ A s cargs, Ok C d H A s → VRs C s.heap args cargs → wpAny C.M A (call fv cargs) (QP C H s Q) (XQ false C No H s X) s
noncomputable def Fn (f : String) : Prop := ∃ fv, C.G f fv ∧ Callee C fv
noncomputable def CallW (f : String) (args : List V) (H : MH) (Q : V → MH → Prop) (X : XP) : Prop := ∀ fv, C.G f fv → CallV C d fv args H Q X
noncomputable def MGet (o : V) (m : String) (fv : Value) (H : MH) : Prop :=
  ∀ A s co pl (Q : Value × List Value → Shared → Prop) (E : Value → Shared → Prop), Ok C d H A s → VR C s.heap o co → Q (fv, [co]) s → wpAny C.M A (getMethod co (Str.ofString m) pl) Q E s
noncomputable def AttW (o : V) (a : String) (H : MH) (Q : V → MH → Prop) (X : XP) : Prop :=
  ∀ A s co, Ok C d H A s → VR C s.heap o co → wpAny C.M A (getAttr co (Str.ofString a) true) (QP C H s Q) (XQ false C No H s X) s
noncomputable def SetIW (o i v : V) (H : MH) (Q : MH → Prop) (X : XP) : Prop :=
  ∀ A s co ci cv, Ok C d H A s → VR C s.heap o co → VR C s.heap i ci → VR C s.heap v cv → wpAny C.M A (setItem co ci cv) (fun _ s' => ∃ H', Step C No H s H' s' ∧ Q H') (XQ false C No H s X) s
noncomputable def SetAW (o : V) (a : String) (v : V) (H : MH) (Q : MH → Prop) (X : XP) : Prop :=
  ∀ A s co cv, Ok C d H A s → VR C s.heap o co → VR C s.heap v cv → wpAny C.M A (setAttr co (Str.ofString a) cv) (fun _ s' => ∃ H', Step C No H s H' s' ∧ Q H') (XQ false C No H s X) s
noncomputable def DctW (ks : List String) (vs : List V) (H : MH) (Q : V → MH → Prop) : Prop :=
  ks.length = vs.length ∧ vs.length ≤ 16 ∧ (ks.map Str.ofString).Nodup ∧ ∀ a, H a = none → Q (.ref a) (upd H a (.dcs ((ks.map Str.ofString).zip vs)))
noncomputable def EmpW (k : Nat) (H : MH) (Q : V → MH → Prop) : Prop := ∀ a, H a = none → Q (.ref a) (upd H a (match k with | 0 => .dci [] | _ => .dcs []))
noncomputable def NewL (vs : List V) (H : MH) (Q : V → MH → Prop) : Prop := vs.length ≤ sizeLine ∧ ∀ a, H a = none → Q (.ref a) (upd H a (.lst vs))
noncomputable def NewT (vs : List V) (H : MH) (Q : V → MH → Prop) : Prop := vs.length ≤ sizeLine ∧ Q (.tup vs) H

noncomputable def Itq (d : Md) (iv : V) : Prop := (d.q = true ∨ (∃ a, iv = .ref a) ∨ ∃ l, iv = .tup l) ∧ (∀ a b c, iv = .rng a b c → Builtin.Range.small a b c = true)
noncomputable def parts (k : Nat) (x : V) : Option (List V) :=
  if k = 1 then some [x] else match x with
    | .tup l => if l.length = k then some l else none
    | _ => none
noncomputable def wpC (k : Nat) (iv : V) (all : List V) (stp : List V → MH → (Option V → MH → Prop) → Prop) : List V → List V → MH → (List V → MH → Prop) → Prop
  | [], acc, H, K => itemsOf H iv = some all ∧ K acc H
  | x :: xs, acc, H, K => itemsOf H iv = some all ∧ ∃ vs, parts k x = some vs ∧ stp vs H (fun r H' => wpC k iv all stp xs (match r with | some v => acc ++ [v] | none => acc) H' K)

noncomputable abbrev WE := Lo → MH → (V → MH → Prop) → XP → Prop
noncomputable abbrev WT := Lo → MH → (Bool → MH → Prop) → XP → Prop
structure WX where
  e : WE
  t : WT
noncomputable def tOf (E : WE) : WT := fun ρ H P X => E ρ H (fun v H1 => TruW C d v H1 P X) X
noncomputable def dx (E : WE) : WX := ⟨E, tOf C d E⟩
noncomputable def xEs : List WX → Lo → MH → (List V → MH → Prop) → XP → Prop
  | [], _, H, Q, _ => Q [] H
  | e :: es, ρ, H, Q, X => e.e ρ H (fun v H1 => xEs es ρ H1 (fun vs H2 => Q (v :: vs) H2) X) X
noncomputable def xB (op : BoolOp) : List WX → WE
  | [], _, _, _, _ => False
  | e :: es, ρ, H, Q, X => match es with
    | [] => e.e ρ H Q X
    | _ :: _ => e.e ρ H (fun v H1 => TruW C d v H1 (fun t H2 => if (op = .And ∧ t = false) ∨ (op = .Or ∧ t = true) then Q v H2 else xB op es ρ H2 Q X) X) X
noncomputable def xA (op : BoolOp) : List WX → WT
  | [], _, H, Q, _ => Q (decide (op = .And)) H
  | e :: es, ρ, H, Q, X => e.t ρ H (fun t H1 => if (op = .And ∧ t = false) ∨ (op = .Or ∧ t = true) then Q t H1 else xA op es ρ H1 Q X) X
noncomputable def xTs : List WX → WT
  | [], _, H, Q, _ => Q true H
  | e :: es, ρ, H, Q, X => e.t ρ H (fun t H1 => if t = true then xTs es ρ H1 Q X else Q false H1) X

mutual
noncomputable def wpX : Ex → WX
  | .nm i => dx C d fun ρ H Q _ => ∃ v, lk ρ i = some v ∧ Q v H
  | .gl x => dx C d fun _ H Q _ => ∃ v cv, C.G x cv ∧ VR C C.h0 v cv ∧ Q v H
  | .ci i => dx C d fun _ H Q _ => Q (.int i) H
  | .cs s => dx C d fun _ H Q _ => Q (.str (Str.ofString s)) H
  | .cb b => dx C d fun _ H Q _ => Q (.bool b) H
  | .cn => dx C d fun _ H Q _ => Q .none H
  | .bin op l r => dx C d fun ρ H Q X => (wpX l).e ρ H (fun a H1 => (wpX r).e ρ H1 (fun b H2 => BinW C d op a b H2 Q X) X) X
  | .una op e => ⟨fun ρ H Q X => (wpX e).e ρ H (fun a H1 => UnaW C d op a H1 Q X) X, match op with
      | .Not => fun ρ H Q X => (wpX e).t ρ H (fun t H1 => Q (!t) H1) X
      | op => fun ρ H Q X => (wpX e).e ρ H (fun a H1 => UnaW C d op a H1 (fun v H1 => TruW C d v H1 Q X) X) X⟩
  | .cmp op l r => dx C d fun ρ H Q X => (wpX l).e ρ H (fun a H1 => (wpX r).e ρ H1 (fun b H2 => CmpW C d op a b H2 Q X) X) X
  | .cmp2 op op' l m r => ⟨fun ρ H Q X => (wpX l).e ρ H (fun a H1 => (wpX m).e ρ H1 (fun b H2 => CmpW C d op a b H2 (fun c H3 => TruW C d c H3 (fun t H4 =>
      if t = true then (wpX r).e ρ H4 (fun b' H5 => CmpW C d op' b b' H5 Q X) X else Q c H4) X) X) X) X,
      fun ρ H Q X => (wpX l).e ρ H (fun a H1 => (wpX m).e ρ H1 (fun b H2 => CmpW C d op a b H2 (fun c H3 => TruW C d c H3 (fun t H4 =>
      if t = true then (wpX r).e ρ H4 (fun b' H5 => CmpW C d op' b b' H5 (fun c' H6 => TruW C d c' H6 Q X) X) X else Q false H4) X) X) X) X⟩
  | .bop op es => ⟨xB C d op (wpXs es), xA op (wpXs es)⟩
  | .ife c a b => ⟨fun ρ H Q X => (wpX c).t ρ H (fun t H1 => if t = true then (wpX a).e ρ H1 Q X else (wpX b).e ρ H1 Q X) X,
      fun ρ H Q X => (wpX c).t ρ H (fun t H1 => if t = true then (wpX a).t ρ H1 Q X else (wpX b).t ρ H1 Q X) X⟩
  | .lst es => dx C d fun ρ H Q X => xEs (wpXs es) ρ H (fun vs H1 => NewL vs H1 Q) X
  | .tup es => dx C d fun ρ H Q X => xEs (wpXs es) ρ H (fun vs H1 => NewT vs H1 Q) X
  | .emp k => dx C d fun _ H Q _ => EmpW k H Q
  | .dct ks es => dx C d fun ρ H Q X => xEs (wpXs es) ρ H (fun vs H1 => DctW ks vs H1 Q) X
  | .sub o i => dx C d fun ρ H Q X => (wpX o).e ρ H (fun a H1 => (wpX i).e ρ H1 (fun b H2 => SubW C d a b H2 Q X) X) X
  | .sli o l u t => dx C d fun ρ H Q X => (wpX o).e ρ H (fun a H1 => (wpX l).e ρ H1 (fun b H2 => (wpX u).e ρ H2 (fun c H3 => (wpX t).e ρ H3 (fun e H4 => SliW C d a b c e H4 Q X) X) X) X) X
  | .call f es => dx C d fun ρ H Q X => Fn C f ∧ xEs (wpXs es) ρ H (fun vs H1 => CallW C d f vs H1 Q X) X
  | .meth o m es => dx C d fun ρ H Q X => (wpX o).e ρ H (fun ov H1 => ∃ fv, MGet C d ov m fv H1 ∧ Callee C fv ∧ xEs (wpXs es) ρ H1 (fun vs H2 => CallV C d fv (ov :: vs) H2 Q X) X) X
  | .att o a => dx C d fun ρ H Q X => (wpX o).e ρ H (fun ov H1 => AttW C d ov a H1 Q X) X
  | .comp k elt it ifs => dx C d fun ρ H Q X => (wpX it).e ρ H (fun iv H1 => ∃ all, Itq d iv ∧ itemsOf H1 iv = some all ∧ all.length ≤ sizeLine ∧
      wpC k iv all (fun vs H2 Q' => xTs (wpXs ifs) (ρ ++ vs.map some) H2 (fun t H3 => if t = true then (wpX elt).e (ρ ++ vs.map some) H3 (fun v H4 => Q' (some v) H4) X else Q' none H3) X) all [] H1
        (fun vs H2 => NewL vs H2 Q)) X
noncomputable def wpXs : List Ex → List WX
  | [] => []
  | e :: es => wpX e :: wpXs es
end
noncomputable def wpE (e : Ex) : WE := (wpX C d e).e
noncomputable def wpT (e : Ex) : WT := (wpX C d e).t
noncomputable def wpEs (es : List Ex) : Lo → MH → (List V → MH → Prop) → XP → Prop := xEs (wpXs C d es)
noncomputable def wpB (op : BoolOp) (es : List Ex) : WE := xB C d op (wpXs C d es)
noncomputable def wpA (op : BoolOp) (es : List Ex) : WT := xA op (wpXs C d es)
noncomputable def wpTs (es : List Ex) : WT := xTs (wpXs C d es)
end

end Vc
end

section
set_option autoImplicit false
set_option linter.unusedVariables false
namespace Vc
open PySem

inductive Fl where
  | next
  | ret (v : V)

inductive Sv where
  | pl (v : V)
  | en (v : V)
  | zp (a b : V)

noncomputable def enumd : Nat → List V → List V
  | _, [] => []
  | n, x :: xs => .tup [.int n, x] :: enumd (n + 1) xs
noncomputable def zipd : List V → List V → List V
  | x :: xs, y :: ys => .tup [x, y] :: zipd xs ys
  | _, _ => []
noncomputable def svItems (H : MH) : Sv → Option (List V)
  | .pl v => itemsOf H v
  | .en v => (match v with | .ref _ => (itemsOf H v).map (enumd 0) | _ => none)
  | .zp a b => (match a, b with
    | .ref _, .ref _ => (match itemsOf H a, itemsOf H b with | some l, some m => some (zipd l m) | _, _ => none)
    | _, _ => none)

noncomputable def lss : Lo → List Nat → List V → Lo
  | ρ, i :: is, v :: vs => lss (ls ρ i v) is vs
  | ρ, _, _ => ρ

noncomputable abbrev KP := Fl → Lo → MH → Prop
noncomputable abbrev XS := String → Lo → MH → Prop

noncomputable def wpF (k : List Nat) (sv : Sv) (all : List V) (stp : Lo → MH → KP → Prop) : List V → Lo → MH → KP → Prop
  | [], ρ, H, K => svItems H sv = some all ∧ K .next ρ H
  | x :: xs, ρ, H, K => svItems H sv = some all ∧ ∃ vs, parts k.length x = some vs ∧ stp (lss ρ k vs) H (fun f ρ' H' => match f with
      | .next => wpF k sv all stp xs ρ' H' K
      | .ret v => K (.ret v) ρ' H')

noncomputable def Svq (d : Md) : Sv → Prop
  | .pl v => Itq d v
  | .en v => d.q = true ∧ Itq d v
  | .zp a b => Itq d a ∧ Itq d b

section
variable (C : Cx) (d : Md)

noncomputable def RaiW (c : String) (H : MH) (X : XP) : Prop :=
  ∀ A s msg, Ok C d H A s → ∀ (env : Env) pos pos' npos cpos k, env.kindOf (Str.ofString c) = some .globalImplicit → env.scope.kind = .function → env.globals = mainGlobals → env.builtins = builtinsNs →
    wpAny C.M A (exec (.Raise (some (.Call (.Name (Str.ofString c) npos) [.Constant (.str msg) k cpos] [] pos')) none pos) env) (fun _ _ => False) (XQ false C No H s X) s

noncomputable def wpSr : Src → Lo → MH → (Sv → MH → Prop) → XP → Prop
  | .pl e, ρ, H, Q, X => wpE C d e ρ H (fun v H1 => Q (.pl v) H1) X
  | .en e, ρ, H, Q, X => C.G "enumerate" (.type "enumerate") ∧ wpE C d e ρ H (fun v H1 => Q (.en v) H1) X
  | .zp _ _, _, _, _, _ => False

noncomputable def wpW (tst : Lo → MH → (Bool → MH → Prop) → Prop) (stp : Lo → MH → KP → Prop) : Nat → Lo → MH → KP → Prop
  | 0, _, _, _ => False
  | n + 1, ρ, H, K => tst ρ H (fun t H1 => if t = true then stp ρ H1 (fun f ρ' H' => match f with
      | .next => wpW tst stp n ρ' H' K
      | .ret v => K (.ret v) ρ' H') else K .next ρ H1)

noncomputable def Exm (c h : String) (b : Bool) : Prop :=
  (∃ rh, C.G h (.ref rh)) ∧ ∀ A s a o r rh, C.h0.StaysIn s.heap → s.heap.get? a = some o → o.cls = .ref r → C.G c (.ref r) → C.G h (.ref rh) → ∀ (Q : Bool → Shared → Prop) (E : Value → Shared → Prop), Q b s → wpAny C.M A (excMatches (.ref a) (.ref rh)) Q E s
noncomputable def Md.in (d : Md) : Md := ⟨d.n, false⟩
noncomputable def nones (ρ : Lo) : Lo := List.replicate ρ.length none
noncomputable def asV (as : Option Nat) (ρ : Lo) (c : String) : Lo := match as with | none => ρ | some i => ls ρ i (.exc c)
noncomputable def asO (as : Option Nat) (ρ : Lo) : Lo := match as with | none => ρ | some _ => nones ρ

end
section
variable (C : Cx)
mutual
noncomputable def wpS : Md → St → Lo → MH → KP → XS → Prop
  | d, .asg i e, ρ, H, K, X => wpE C d e ρ H (fun v H1 => K .next (ls ρ i v) H1) (fun c H1 => X c ρ H1)
  | d, .unp is e, ρ, H, K, X => wpE C d e ρ H (fun v H1 => ∃ l, v = .tup l ∧ Itq d v ∧ l.length = is.length ∧ K .next (lss ρ is l) H1) (fun c H1 => X c ρ H1)
  | d, .seti o i e, ρ, H, K, X => wpE C d e ρ H (fun v H1 => wpE C d o ρ H1 (fun ov H2 => wpE C d i ρ H2 (fun iv H3 => SetIW C d ov iv v H3 (fun H4 => K .next ρ H4) (fun c H1 => X c ρ H1)) (fun c H1 => X c ρ H1)) (fun c H1 => X c ρ H1)) (fun c H1 => X c ρ H1)
  | d, .seta o a e, ρ, H, K, X => wpE C d e ρ H (fun v H1 => wpE C d o ρ H1 (fun ov H2 => SetAW C d ov a v H2 (fun H4 => K .next ρ H4) (fun c H1 => X c ρ H1)) (fun c H1 => X c ρ H1)) (fun c H1 => X c ρ H1)
  | d, .exp e, ρ, H, K, X => wpE C d e ρ H (fun _ H1 => K .next ρ H1) (fun c H1 => X c ρ H1)
  | d, .ret e, ρ, H, K, X => wpE C d e ρ H (fun v H1 => K (.ret v) ρ H1) (fun c H1 => X c ρ H1)
  | d, .ife c a b, ρ, H, K, X => wpT C d c ρ H (fun t H1 => if t = true then wpSs d a ρ H1 K X else wpSs d b ρ H1 K X) (fun c H1 => X c ρ H1)
  | d, .for k src body, ρ, H, K, X => wpSr C d src ρ H (fun sv H1 => ∃ all, Svq d sv ∧ svItems H1 sv = some all ∧ wpF k sv all (fun ρ' H' K' => wpSs d body ρ' H' K' X) all ρ H1 K) (fun c H1 => X c ρ H1)
  | d, .whl c body, ρ, H, K, X => ∃ n, wpW (fun ρ' H' Q => wpT C d c ρ' H' Q (fun c H1 => X c ρ' H1)) (fun ρ' H' K' => wpSs d body ρ' H' K' X) n ρ H K
  | d, .rais c _, ρ, H, _, X => RaiW C d c H (fun c H1 => X c ρ H1)
  | d, .tre body c as hb el, ρ, H, K, X => wpSs d body ρ H (fun f ρ' H' => match f with | .next => wpSs d el ρ' H' K X | .ret v => K (.ret v) ρ' H')
      (fun c' ρ' H' => ∃ b, Exm C c' c b ∧ if b = true then wpSs d.in hb (asV as ρ' c') H' (fun f ρ2 H2 => K f (asO as ρ2) H2) (fun _ _ _ => False) else X c' ρ' H')
  | d, .pas, ρ, H, K, _ => K .next ρ H
noncomputable def wpSs : Md → List St → Lo → MH → KP → XS → Prop
  | _, [], ρ, H, K, _ => K .next ρ H
  | d, t :: ts, ρ, H, K, X => wpS d t ρ H (fun f ρ' H' => match f with
      | .next => wpSs d ts ρ' H' K X
      | .ret v => K (.ret v) ρ' H') X
end
end

inductive Vk where
  | loc | cel | hid
  deriving DecidableEq

noncomputable abbrev Vs := List (Str × Vk)
noncomputable abbrev Ns := List (Str × NameKind)

noncomputable def vOk (vs : Vs) (i : Nat) (id : Str) : Bool := vs[i]? == some (id, Vk.loc) || vs[i]? == some (id, Vk.cel)
noncomputable def gOk (ns : Ns) (x : String) (id : Str) : Bool := id == Str.ofString x && ns.lookup id == some .globalImplicit && !(id == ("__debug__" : Str))

noncomputable def relab : Ns → Ns → Ns
  | [], _ => []
  | (n, k) :: r, outer => (n, if k == .free && outer.lookup n == some .cell then .cell else k) :: relab r outer
noncomputable def innerVs (vs : Vs) (inner : Ns) (tg : List Str) : Vs := (vs.map fun (n, k) => if k == .cel && inner.lookup n == some .cell then (n, .cel) else (n, .hid)) ++ tg.map fun n => (n, .loc)

noncomputable def names? : List Expr → Option (List Str)
  | [] => some []
  | .Name id _ :: es => (names? es).map (id :: ·)
  | _ => none
noncomputable def tgt? : Expr → Option (List Str)
  | .Name id _ => some [id]
  | .Tuple es _ _ => if 2 ≤ es.length then names? es else none
  | _ => none

noncomputable def notSlice : Expr → Bool
  | .Slice .. => false
  | _ => true
noncomputable def notSet : Expr → Bool
  | .Set .. => false
  | _ => true
noncomputable def notComp : Expr → Bool
  | .ListComp .. | .SetComp .. | .DictComp .. => false
  | _ => true
noncomputable def notTuple : Expr → Bool
  | .Tuple .. => false
  | _ => true
noncomputable def notSuper : Expr → Bool
  | .Call (.Name ..) [] [] _ => false
  | _ => true

noncomputable def simpE : Ex → Bool
  | .nm _ | .ci _ | .cs _ | .cb _ | .cn | .lst [] => true
  | _ => false

mutual
noncomputable def chkE (vs : Vs) (ns : Ns) : Ex → Expr → Bool
  | .nm i, .Name id _ => vOk vs i id && !(id == ("__debug__" : Str))
  | .gl x, .Name id _ => gOk ns x id
  | .ci i, .Constant (.int j) _ _ => i == j
  | .cs x, .Constant (.str y) _ _ => y == Str.ofString x
  | .cb b, .Constant (.bool c) _ _ => b == c
  | .cn, .Constant .none _ _ => true
  | .bin op l r, .BinOp l' op' r' _ => decide (op = op') && chkE vs ns l l' && chkE vs ns r r'
  | .una op e, .UnaryOp op' e' _ => decide (op = op') && chkE vs ns e e'
  | .cmp op l r, .Compare l' [op'] [r'] _ => decide (op = op') && notSet r' && chkE vs ns l l' && chkE vs ns r r'
  | .cmp2 o1 o2 l m r, .Compare l' [o1', o2'] [m', r'] _ => decide (o1 = o1') && decide (o2 = o2') && notSet m' && notSet r' && chkE vs ns l l' && chkE vs ns m m' && chkE vs ns r r'
  | .bop op es, .BoolOp op' es' _ => decide (op = op') && chkEs vs ns es es'
  | .ife c a b, .IfExp c' a' b' _ => chkE vs ns c c' && chkE vs ns a a' && chkE vs ns b b'
  | .lst es, .List es' _ => chkEs vs ns es es'
  | .tup es, .Tuple es' _ _ => chkEs vs ns es es'
  | .emp _, .Dict [] [] _ => true
  | .dct ks es, .Dict ks' es' _ => (!ks.isEmpty) && ks.length ≤ 15 && ks.length == es.length && es.all simpE && chkK ks ks' && chkEs vs ns es es'
  | .sub o i, .Subscript o' i' _ => notSlice i' && chkE vs ns o o' && chkE vs ns i i'
  | .sli o l u t, .Subscript o' (.Slice l' u' t' _) _ => chkE vs ns o o' && chkO vs ns l l' && chkO vs ns u u' && chkO vs ns t t'
  | .call f es, .Call (.Name id _) es' [] _ => gOk ns f id && chkEs vs ns es es'
  | .meth o m es, .Call (.Attribute o' m' ap) es' [] p => m' == Str.ofString m && ap.endLine == p.line && (es.length < 29) && notSuper o' && chkE vs ns o o' && chkEs vs ns es es'
  | .att o a, .Attribute o' a' _ => a' == Str.ofString a && notSuper o' && chkE vs ns o o'
  | .comp k elt it ifs, .ListComp elt' [⟨t', it', ifs', 0⟩] sc _ => (match tgt? t' with
      | none => false
      | some tg => tg.length == k && tg.all (fun x => sc.names.lookup x == some .local) && decide (tg.Nodup) && sc.kind == .function && sc.names.all (fun x => !(x.2 == .cell)) &&
        sc.names.all (fun x => !(x.2 == .local) || sc.names.lookup x.1 == some .local) && sc.names.all (fun x => !(x.2 == .free) || vs.contains (x.1, Vk.cel)) &&
        notSet it' && chkE vs ns it it' && chkE (innerVs vs (relab sc.names ns) tg) (relab sc.names ns) elt elt' && chkEs (innerVs vs (relab sc.names ns) tg) (relab sc.names ns) ifs ifs')
  | _, _ => false
noncomputable def chkEs (vs : Vs) (ns : Ns) : List Ex → List Expr → Bool
  | [], [] => true
  | e :: es, e' :: es' => chkE vs ns e e' && chkEs vs ns es es'
  | _, _ => false
noncomputable def chkO (vs : Vs) (ns : Ns) : Ex → Option Expr → Bool
  | .cn, none => true
  | e, some e' => chkE vs ns e e'
  | _, none => false
noncomputable def chkK : List String → List (Option Expr) → Bool
  | [], [] => true
  | k :: ks, some (.Constant (.str y) _ _) :: es => y == Str.ofString k && chkK ks es
  | _, _ => false
end

noncomputable def chkTg (vs : Vs) : List Nat → List Str → Bool
  | [], [] => true
  | i :: is, x :: xs => vOk vs i x && chkTg vs is xs
  | _, _ => false

noncomputable def chkSrc (vs : Vs) (ns : Ns) : Src → Expr → Bool
  | .pl e, e' => notSet e' && chkE vs ns e e'
  | .en e, .Call (.Name id _) [e'] [] _ => gOk ns "enumerate" id && chkE vs ns e e'
  | .zp a b, .Call (.Name id _) [a', b'] [] _ => gOk ns "zip" id && chkE vs ns a a' && chkE vs ns b b'
  | _, _ => false

noncomputable def chkTup : Src → Expr → Bool
  | .pl _, _ => true
  | _, .Tuple .. => true
  | _, _ => false

noncomputable def chkAs (vs : Vs) : Option Nat → Option Str → Bool
  | none, none => true
  | some i, some x => vs[i]? == some (x, Vk.loc)
  | _, _ => false

noncomputable def nm? : Expr → Option (Str × Pos)
  | .Name x p => some (x, p)
  | _ => none
noncomputable def cst? : Expr → Option (Str × Nat × Pos)
  | .Constant (.str y) k p => some (y, k, p)
  | _ => none
noncomputable def as1? : Stmt → Option (Expr × Expr × Pos)
  | .Assign [t] e p => some (t, e, p)
  | _ => none
noncomputable def ncE : Ex → Bool
  | .comp .. => false
  | _ => true

noncomputable def ckA2 (vs : Vs) (ns : Ns) (i : Nat) (e : Ex) (e' : Expr) : Option (Str × Pos) → Bool
  | some (x, _) => vOk vs i x && (!ncE e || notComp e') && chkE vs ns e e'
  | none => false
noncomputable def ckA (vs : Vs) (ns : Ns) (i : Nat) (e : Ex) : Option (Expr × Expr × Pos) → Bool
  | some (t, e', _) => ckA2 vs ns i e e' (nm? t)
  | none => false
noncomputable def ckU2 (vs : Vs) (ns : Ns) (is : List Nat) (e : Ex) (ts : List Expr) (e' : Expr) : Option (List Str) → Bool
  | some xs => chkTg vs is xs && decide (2 ≤ ts.length) && notTuple e' && notComp e' && chkE vs ns e e'
  | none => false
noncomputable def ckU (vs : Vs) (ns : Ns) (is : List Nat) (e : Ex) : Option (Expr × Expr × Pos) → Bool
  | some (.Tuple ts _ _, e', _) => ckU2 vs ns is e ts e' (names? ts)
  | _ => false
noncomputable def ckI (vs : Vs) (ns : Ns) (o i e : Ex) : Option (Expr × Expr × Pos) → Bool
  | some (.Subscript o' i' _, e', _) => notSlice i' && notComp e' && chkE vs ns e e' && chkE vs ns o o' && chkE vs ns i i'
  | _ => false
noncomputable def ckT (vs : Vs) (ns : Ns) (o : Ex) (a : String) (e : Ex) : Option (Expr × Expr × Pos) → Bool
  | some (.Attribute o' a' _, e', _) => a' == Str.ofString a && notComp e' && chkE vs ns e e' && chkE vs ns o o'
  | _ => false
noncomputable def ckR (ns : Ns) (c : String) : Option (Str × Pos) → Option (Str × Nat × Pos) → Bool
  | some (x, _), some _ => gOk ns c x
  | _, _ => false
noncomputable def call1? : Expr → Option (Expr × Expr × Pos)
  | .Call f [x] [] p => some (f, x, p)
  | _ => none
noncomputable def rais? : Stmt → Option (Expr × Pos)
  | .Raise (some x) none p => some (x, p)
  | _ => none
noncomputable def ckR1 (ns : Ns) (c : String) : Option (Expr × Expr × Pos) → Bool
  | some (f, a, _) => ckR ns c (nm? f) (cst? a)
  | none => false
noncomputable def ckR0 (ns : Ns) (c : String) : Option (Expr × Pos) → Bool
  | some (x, _) => ckR1 ns c (call1? x)
  | none => false

mutual
noncomputable def chkS (vs : Vs) (ns : Ns) : St → Stmt → Bool
  | .asg i e, t' => ckA vs ns i e (as1? t')
  | .unp is e, t' => ckU vs ns is e (as1? t')
  | .seti o i e, t' => ckI vs ns o i e (as1? t')
  | .seta o a e, t' => ckT vs ns o a e (as1? t')
  | .exp e, .Expr e' _ => notComp e' && chkE vs ns e e'
  | .ret e, .Return (some e') _ => chkE vs ns e e'
  | .ife c a b, .If c' a' b' _ => chkE vs ns c c' && chkSs vs ns a a' && chkSs vs ns b b'
  | .for k src body, .For t' e' body' [] _ => (match tgt? t' with
      | none => false
      | some xs => chkTg vs k xs && chkTup src t' && chkSrc vs ns src e' && chkSs vs ns body body')
  | .whl c body, .While c' body' [] _ => chkE vs ns c c' && chkSs vs ns body body'
  | .rais c m, t' => ckR0 ns c (rais? t')
  | .tre body c as hb el, .Try body' [.ExceptHandler (some x) nm hb' _] el' [] _ => (match nm? x with
      | none => false
      | some (id, _) => gOk ns c id && !hb'.isEmpty && chkSs vs ns body body' && chkAs vs as nm && chkSs vs ns hb hb' && chkSs vs ns el el')
  | .pas, .Pass _ => true
  | _, _ => false
noncomputable def chkSs (vs : Vs) (ns : Ns) : List St → List Stmt → Bool
  | [], [] => true
  | t :: ts, t' :: ts' => chkS vs ns t t' && chkSs vs ns ts ts'
  | _, _ => false
end

end Vc
end

section
set_option autoImplicit false
set_option linter.unusedVariables false
namespace Vc
open PySem

structure EnvS (env : Env) (vs : Vs) (ns : Ns) : Prop where
  kind : env.scope.kind = .function
  names : env.scope.names = ns
  glb : env.globals = mainGlobals
  blt : env.builtins = builtinsNs
  loc : ∀ (i : Nat) (x : Str), vs[i]? = some (x, Vk.loc) → ns.lookup x = some .local
  cel : ∀ (i : Nat) (x : Str), vs[i]? = some (x, Vk.cel) → ns.lookup x = some .cell
  uni : ∀ (i j : Nat) (x : Str) (k k' : Vk), vs[i]? = some (x, k) → vs[j]? = some (x, k') → k ≠ Vk.hid → k' ≠ Vk.hid → i = j
  apt : ∀ x y c, env.cells.lookup x = some c → env.cells.lookup y = some c → x = y

noncomputable def EA (A : Around) (env : Env) : Prop := ∃ fenv outer, A.frames = some (fenv :: outer) ∧ fenv.frame = env.frame

structure FI (C : Cx) (env : Env) (vs : Vs) (ρ : Lo) (H : MH) (h : Heap) : Prop where
  len : ρ.length = vs.length
  locH : H env.locals = none
  loc0 : C.h0.get? env.locals = none
  ns : ∃ m, h.Ns env.locals m ∧ ∀ (i : Nat) (x : Str) (v : V), vs[i]? = some (x, Vk.loc) → lk ρ i = some v → ∃ cv, m x = some cv ∧ VR C h v cv
  cel : ∀ (i : Nat) (x : Str), vs[i]? = some (x, Vk.cel) → ∃ c oc, env.cells.lookup x = some c ∧ H c = none ∧ C.h0.get? c = none ∧ h.IsCell c oc ∧ ∀ v, lk ρ i = some v → ∃ cv, oc = some cv ∧ VR C h v cv
  cex : ∀ (x : Str) (c : Addr), env.cells.lookup x = some c → H c = none ∧ C.h0.get? c = none ∧ ∃ oc, h.IsCell c oc

section
variable {C : Cx} {d : Md} {env : Env} {vs : Vs} {ns : Ns} {ρ : Lo} {H H' H'' : MH} {s s' s'' : Shared} {A : Around} {D D' : Addr → Prop}

theorem Ns.slots {h h' : Heap} {a : Addr} {m : Str → Option Value} (x : h.Ns a m) (k : ∀ o, h.get? a = some o → ∃ sl, h'.get? a = some { o with slots := sl }) : h'.Ns a m := by
  obtain ⟨o, es, ep, ho, hd, r⟩ := x
  obtain ⟨sl, e⟩ := k o ho
  exact ⟨_, es, ep, e, hd, r⟩

theorem FI.step (x : FI C env vs ρ H s.heap) (y : Step C D H s H' s') (hD : ¬ D env.locals) (hc : ∀ (z : Str) (c : Addr), env.cells.lookup z = some c → ¬ D c) : FI C env vs ρ H' s'.heap where
  len := x.len
  locH := by
    obtain ⟨m, ⟨o, _, _, ho, _⟩, _⟩ := x.ns
    exact y.gone ho x.locH
  loc0 := x.loc0
  ns := by
    obtain ⟨m, hm, r⟩ := x.ns
    refine ⟨m, Ns.slots hm fun o ho => ?_, fun i z v e l => ?_⟩
    · obtain ⟨sl, w, _⟩ := y.chg _ o ho x.locH hD; exact ⟨sl, w⟩
    · obtain ⟨cv, e1, e2⟩ := r i z v e l
      exact ⟨cv, e1, e2.keep y.vk⟩
  cel := fun i z e => by
    obtain ⟨c, oc, h1, h2, h3, ⟨o, ho, hd⟩, h5⟩ := x.cel i z e
    obtain ⟨sl, w, _⟩ := y.chg _ o ho h2 (hc z c h1)
    refine ⟨c, oc, h1, y.gone ho h2, h3, ⟨_, w, hd⟩, fun v l => ?_⟩
    obtain ⟨cv, e1, e2⟩ := h5 v l
    exact ⟨cv, e1, e2.keep y.vk⟩
  cex := fun z c e => by
    obtain ⟨h1, h2, oc, o, ho, hd⟩ := x.cex z c e
    obtain ⟨sl, w, _⟩ := y.chg _ o ho h1 (hc z c e)
    exact ⟨y.gone ho h1, h2, oc, _, w, hd⟩
theorem FI.stepN (x : FI C env vs ρ H s.heap) (y : Step C No H s H' s') : FI C env vs ρ H' s'.heap := x.step y (fun f => f) fun _ _ _ f => f

theorem old_of (x : Step C No H s H' s') {b : Addr} (e : s'.heap.get? b = none) : s.heap.get? b = none := by
  cases q : s.heap.get? b with
  | none => rfl
  | some o =>
    by_cases u : (H b).isSome = true
    · obtain ⟨ob, w⟩ := x.rel.there (x.dom b u); rw [e] at w; cases w
    · obtain ⟨sl, w, _⟩ := x.chg b o q (by simpa using u) (fun f => f); rw [e] at w; cases w

theorem Fly.back {tr : Bool} {a : Addr} {c : String} {h : Heap} (st : Step C No H s H' s') (x : Fly C tr s' a c h) : Fly C tr s a c h := by
  obtain ⟨new, o, ws, r, h1, h2, h3, h4, h5, h6, h7⟩ := x
  exact ⟨old_of st new, o, ws, r, h1, h2, h3, h4, h5, h6, h7.imp id fun ⟨T, oT, ts, g1, g2, g3⟩ => ⟨T, oT, ts, g1, old_of st g2, g3⟩⟩
theorem XG.back {tr : Bool} {X : XH} {e : Value} (st : Step C No H s H' s') (x : XG tr C No H' s' X e s'') : XG tr C No H s X e s'' := by
  obtain ⟨a, c, H2, h1, h2, h3, h4, h5⟩ := x
  exact ⟨a, c, H2, h1, st.trans h2, h3, h4.back st, h5⟩
theorem QP.back {Q : V → MH → Prop} {v : Value} (st : Step C No H s H' s') (x : QP C H' s' Q v s'') : QP C H s Q v s'' := by
  obtain ⟨r, H2, h1, h2, h3⟩ := x
  exact ⟨r, H2, st.trans h1, h2, h3⟩

theorem wp_back {t : Sem Value} {Q : V → MH → Prop} {X : XP} (st : Step C No H s H' s') (h : wpAny C.M A t (QP C H' s' Q) (XQ false C No H' s' X) s') : wpAny C.M A t (QP C H s Q) (XQ false C No H s X) s' :=
  wpAny_mono h (fun _ _ q => q.back st) fun _ _ q => q.back st

theorem load_nm {i : Nat} {x : Str} {v : V} {Q : Value → Shared → Prop} {E : Value → Shared → Prop} (ES : EnvS env vs ns) (fi : FI C env vs ρ H s.heap) (ho : vOk vs i x = true) (hl : lk ρ i = some v)
    (hQ : ∀ cv, VR C s.heap v cv → Q cv s) : wpAny C.M A (loadName env x) Q E s := by
  unfold vOk at ho
  rcases Bool.or_eq_true_iff.mp ho with q | q
  · have q' : vs[i]? = some (x, Vk.loc) := by simpa using q
    obtain ⟨m, hm, r⟩ := fi.ns
    obtain ⟨cv, e1, e2⟩ := r i x v q' hl
    exact wpAny_loadName_local ES.kind (by unfold Env.kindOf; rw [ES.names]; exact ES.loc i x q') hm e1 (hQ cv e2)
  · have q' : vs[i]? = some (x, Vk.cel) := by simpa using q
    obtain ⟨c, oc, h1, _, _, h4, h5⟩ := fi.cel i x q'
    obtain ⟨cv, rfl, e2⟩ := h5 v hl
    exact wpAny_loadName_cell ES.kind (by unfold Env.kindOf; rw [ES.names]; exact ES.cel i x q') h1 h4 (hQ cv e2)

theorem load_gl {x : String} {id : Str} {cv : Value} {pos : Pos} {Q : Value → Shared → Prop} {E : Value → Shared → Prop} (G : C.Good) (ES : EnvS env vs ns) (ho : gOk ns x id = true) (t : C.h0.StaysIn s.heap) (hg : C.G x cv)
    (hQ : Q cv s) : wpAny C.M A (eval (.Name id pos) env) Q E s := by
  unfold gOk at ho
  simp only [Bool.and_eq_true, beq_iff_eq, Bool.not_eq_true'] at ho
  obtain ⟨⟨rfl, hk⟩, hd⟩ := ho
  refine Calls.Name_function_global ES.kind (by unfold Env.kindOf; rw [ES.names]; exact hk) ?_ hd
  rcases hg with h | ⟨h1, h2⟩
  · exact Calls.loadGlobal_global (by rw [ES.glb]; exact G.g.keeps t) h hQ
  · exact Calls.loadGlobal_builtin (by rw [ES.glb]; exact G.g.keeps t) h1 (by rw [ES.blt]; exact G.b.keeps t) h2 hQ

theorem top_vr {v : V} {cv : Value} (t : C.h0.StaysIn s.heap) (h : VR C C.h0 v cv) : VR C s.heap v cv := h.keep (.of_keeps t)

end
end Vc
end

section
set_option autoImplicit false
set_option linter.unusedVariables false
namespace Vc
open PySem

section
variable {C : Cx} {d : Md} {env : Env} {vs : Vs} {ns : Ns} {ρ : Lo} {H H' H'' : MH} {s s' s'' : Shared} {A : Around} {E : Value → Shared → Prop}

theorem evalArgs_plain {f : Value} {args : List (Bool × Sem Value)} {Q : Args → Shared → Prop} (hall : ∀ x ∈ args, x.1 = false)
    (h : wpAny C.M A (spliced args) (fun cvs s1 => Q ⟨cvs, []⟩ s1) E s) : wpAny C.M A (evalArgs f true args []) Q E s := by
  cases args with
  | nil =>
    unfold evalArgs
    show wpAny C.M A (spliced [] >>= _) Q E s
    refine wpAny_bind (wpAny_mono h (fun vs s₁ h₁ => ?_) fun _ _ x => x)
    refine wpAny_bind (wpAny_pure (wpAny_holding ?_))
    exact wpAny_bind (wpAny_evalAll_nil (wpAny_bind (wpAny_pure (wpAny_pure h₁))))
  | cons x rest =>
    obtain ⟨b, t⟩ := x
    obtain rfl : b = false := hall _ (.head _)
    exact evalArgs_kw rfl (wpAny_mono h (fun vs s1 h1 => wpAny_evalAll_nil h1) fun _ _ x => x)

theorem callWith_any {pos : Pos} {f : Value} {first : List Value} {args : List (Bool × Sem Value)} {Q : Value → Shared → Prop} (hall : ∀ x ∈ args, x.1 = false) (hc : Callee C f)
    (h : wpAny C.M A (spliced args) (fun cvs s1 => C.h0.StaysIn s1.heap ∧ wpAny C.M A (call f (first ++ cvs)) Q E s1) E s) : wpAny C.M A (callWith pos f first args []) Q E s := by
  unfold callWith
  refine wpAny_bind (wpAny_holding (evalArgs_plain hall (wpAny_mono h (fun cvs s1 h1 => wpAny_bind (wpAny_standAt ?_)) fun _ _ x => x)))
  obtain ⟨ht, h1⟩ := h1
  have tail : ∀ {t : Sem Value}, wpAny C.M A t Q E s1 → wpAny C.M A (t >>= fun r => holding [r] point >>= fun _ => pure r) Q E s1 :=
    fun ht => wpAny_bind (wpAny_mono ht (fun r s2 hr => wpAny_bind (wpAny_holding (wpAny_point (wpAny_pure hr)))) fun _ _ x => x)
  have hany : (args.any (·.1) || ([] : List (Option Str × Sem Value)).any (·.1.isNone)) = false := by
    simp only [List.any_nil, Bool.or_false]
    rw [List.any_eq_false]; intro x hx; simp [hall x hx]
  simp only [hany]
  refine wpAny_bind (hc A s1 _ _ ht fun k => ?_)
  cases k
  · dsimp only
    split
    · exact tail h1
    · exact tail (by unfold callMarked; exact Calls.wpAny_keep h1)
  · dsimp only
    split
    · exact tail h1
    · exact tail (by unfold callMarked; exact Calls.wpAny_keep h1)
  · exact tail h1
  · exact tail (wpAny_operateT h1)
end
end Vc
end

section
set_option autoImplicit false
set_option linter.unusedVariables false
namespace Vc
open PySem
section
variable {vs : Vs} {ns : Ns} {e' : Expr}

theorem inv_nm {i : Nat} (h : chkE vs ns (.nm i) e' = true) : ∃ id p, e' = .Name id p ∧ vOk vs i id = true ∧ (id == ("__debug__" : Str)) = false := by
  cases e' with
  | Name id p =>
    have h : (vOk vs i id && !(id == ("__debug__" : Str))) = true := h
    exact ⟨_, _, rfl, (Bool.and_eq_true_iff.mp h).1, by have := (Bool.and_eq_true_iff.mp h).2; revert this; cases (id == ("__debug__" : Str)) <;> intro w <;> first | rfl | exact w.symm⟩
  | _ => exact (Bool.false_ne_true h).elim
theorem inv_gl {x : String} (h : chkE vs ns (.gl x) e' = true) : ∃ id p, e' = .Name id p ∧ gOk ns x id = true := by
  cases e' with
  | Name id p => exact ⟨_, _, rfl, h⟩
  | _ => exact (Bool.false_ne_true h).elim
theorem inv_ci {i : Int} (h : chkE vs ns (.ci i) e' = true) : ∃ k p, e' = .Constant (.int i) k p := by
  cases e' with
  | Constant c k p =>
    cases c with
    | int j => have h : (i == j) = true := h; cases eq_of_beq h; exact ⟨_, _, rfl⟩
    | _ => exact (Bool.false_ne_true h).elim
  | _ => exact (Bool.false_ne_true h).elim
theorem inv_cs {x : String} (h : chkE vs ns (.cs x) e' = true) : ∃ k p, e' = .Constant (.str (Str.ofString x)) k p := by
  cases e' with
  | Constant c k p =>
    cases c with
    | str j => have h : (j == Str.ofString x) = true := h; cases eq_of_beq h; exact ⟨_, _, rfl⟩
    | _ => exact (Bool.false_ne_true h).elim
  | _ => exact (Bool.false_ne_true h).elim
theorem inv_cb {b : Bool} (h : chkE vs ns (.cb b) e' = true) : ∃ k p, e' = .Constant (.bool b) k p := by
  cases e' with
  | Constant c k p =>
    cases c with
    | bool j => have h : (b == j) = true := h; cases eq_of_beq h; exact ⟨_, _, rfl⟩
    | _ => exact (Bool.false_ne_true h).elim
  | _ => exact (Bool.false_ne_true h).elim
theorem inv_cn (h : chkE vs ns .cn e' = true) : ∃ k p, e' = .Constant .none k p := by
  cases e' with
  | Constant c k p =>
    cases c with
    | none => exact ⟨_, _, rfl⟩
    | _ => exact (Bool.false_ne_true h).elim
  | _ => exact (Bool.false_ne_true h).elim
theorem inv_bin {op : Operator} {l r : Ex} (h : chkE vs ns (.bin op l r) e' = true) : ∃ l' r' p, e' = .BinOp l' op r' p ∧ chkE vs ns l l' = true ∧ chkE vs ns r r' = true := by
  cases e' with
  | BinOp l' op' r' p =>
    have h : (decide (op = op') && chkE vs ns l l' && chkE vs ns r r') = true := h
    have h1 := Bool.and_eq_true_iff.mp h
    have h2 := Bool.and_eq_true_iff.mp h1.1
    cases of_decide_eq_true h2.1
    exact ⟨_, _, _, rfl, h2.2, h1.2⟩
  | _ => exact (Bool.false_ne_true h).elim
theorem inv_una {op : UnaryOp} {e : Ex} (h : chkE vs ns (.una op e) e' = true) : ∃ x p, e' = .UnaryOp op x p ∧ chkE vs ns e x = true := by
  cases e' with
  | UnaryOp op' x p =>
    have h : (decide (op = op') && chkE vs ns e x) = true := h
    have h1 := Bool.and_eq_true_iff.mp h
    cases of_decide_eq_true h1.1
    exact ⟨_, _, rfl, h1.2⟩
  | _ => exact (Bool.false_ne_true h).elim
theorem inv_cmp {op : CmpOp} {l r : Ex} (h : chkE vs ns (.cmp op l r) e' = true) : ∃ l' r' p, e' = .Compare l' [op] [r'] p ∧ notSet r' = true ∧ chkE vs ns l l' = true ∧ chkE vs ns r r' = true := by
  cases e' with
  | Compare l' ops rs p =>
    match ops, rs, h with
    | [op'], [r'], h =>
      have h : (decide (op = op') && notSet r' && chkE vs ns l l' && chkE vs ns r r') = true := h
      have h1 := Bool.and_eq_true_iff.mp h
      have h2 := Bool.and_eq_true_iff.mp h1.1
      have h3 := Bool.and_eq_true_iff.mp h2.1
      cases of_decide_eq_true h3.1
      exact ⟨_, _, _, rfl, h3.2, h2.2, h1.2⟩
    | [], [], h => exact (Bool.false_ne_true h).elim
    | [], _ :: _, h => exact (Bool.false_ne_true h).elim
    | _ :: _ :: _, [], h => exact (Bool.false_ne_true h).elim
    | _ :: _ :: _, _ :: _, h => exact (Bool.false_ne_true h).elim
    | [_], [], h => exact (Bool.false_ne_true h).elim
    | [_], _ :: _ :: _, h => exact (Bool.false_ne_true h).elim
  | _ => exact (Bool.false_ne_true h).elim
theorem inv_cmp2 {o1 o2 : CmpOp} {l m r : Ex} (h : chkE vs ns (.cmp2 o1 o2 l m r) e' = true) : ∃ l' m' r' p, e' = .Compare l' [o1, o2] [m', r'] p ∧ notSet m' = true ∧ notSet r' = true ∧ chkE vs ns l l' = true ∧ chkE vs ns m m' = true ∧ chkE vs ns r r' = true := by
  cases e' with
  | Compare l' ops rs p =>
    match ops, rs, h with
    | [a, b], [c, e], h =>
      have h : (decide (o1 = a) && decide (o2 = b) && notSet c && notSet e && chkE vs ns l l' && chkE vs ns m c && chkE vs ns r e) = true := h
      have h1 := Bool.and_eq_true_iff.mp h
      have h2 := Bool.and_eq_true_iff.mp h1.1
      have h3 := Bool.and_eq_true_iff.mp h2.1
      have h4 := Bool.and_eq_true_iff.mp h3.1
      have h5 := Bool.and_eq_true_iff.mp h4.1
      have h6 := Bool.and_eq_true_iff.mp h5.1
      cases of_decide_eq_true h6.1
      cases of_decide_eq_true h6.2
      exact ⟨_, _, _, _, rfl, h5.2, h4.2, h3.2, h2.2, h1.2⟩
    | [], [], h => exact (Bool.false_ne_true h).elim
    | [], _ :: _, h => exact (Bool.false_ne_true h).elim
    | [_], [], h => exact (Bool.false_ne_true h).elim
    | [_], [_], h => exact (Bool.false_ne_true h).elim
    | [_], _ :: _ :: _, h => exact (Bool.false_ne_true h).elim
    | [_, _], [], h => exact (Bool.false_ne_true h).elim
    | [_, _], [_], h => exact (Bool.false_ne_true h).elim
    | [_, _], _ :: _ :: _ :: _, h => exact (Bool.false_ne_true h).elim
    | _ :: _ :: _ :: _, [], h => exact (Bool.false_ne_true h).elim
    | _ :: _ :: _ :: _, _ :: _, h => exact (Bool.false_ne_true h).elim
  | _ => exact (Bool.false_ne_true h).elim
theorem inv_bop {op : BoolOp} {es : List Ex} (h : chkE vs ns (.bop op es) e' = true) : ∃ es' p, e' = .BoolOp op es' p ∧ chkEs vs ns es es' = true := by
  cases e' with
  | BoolOp op' es' p =>
    have h : (decide (op = op') && chkEs vs ns es es') = true := h
    have h1 := Bool.and_eq_true_iff.mp h
    cases of_decide_eq_true h1.1
    exact ⟨_, _, rfl, h1.2⟩
  | _ => exact (Bool.false_ne_true h).elim
theorem inv_ife {c a b : Ex} (h : chkE vs ns (.ife c a b) e' = true) : ∃ c' a' b' p, e' = .IfExp c' a' b' p ∧ chkE vs ns c c' = true ∧ chkE vs ns a a' = true ∧ chkE vs ns b b' = true := by
  cases e' with
  | IfExp c' a' b' p =>
    have h : (chkE vs ns c c' && chkE vs ns a a' && chkE vs ns b b') = true := h
    have h1 := Bool.and_eq_true_iff.mp h
    have h2 := Bool.and_eq_true_iff.mp h1.1
    exact ⟨_, _, _, _, rfl, h2.1, h2.2, h1.2⟩
  | _ => exact (Bool.false_ne_true h).elim
theorem inv_lst {es : List Ex} (h : chkE vs ns (.lst es) e' = true) : ∃ es' p, e' = .List es' p ∧ chkEs vs ns es es' = true := by
  cases e' with
  | List es' p => exact ⟨_, _, rfl, h⟩
  | _ => exact (Bool.false_ne_true h).elim
theorem inv_tup {es : List Ex} (h : chkE vs ns (.tup es) e' = true) : ∃ es' k p, e' = .Tuple es' k p ∧ chkEs vs ns es es' = true := by
  cases e' with
  | Tuple es' k p => exact ⟨_, _, _, rfl, h⟩
  | _ => exact (Bool.false_ne_true h).elim
theorem inv_emp {k : Nat} (h : chkE vs ns (.emp k) e' = true) : ∃ p, e' = .Dict [] [] p := by
  cases e' with
  | Dict ks es p =>
    match ks, es, h with
    | [], [], _ => exact ⟨_, rfl⟩
    | _ :: _, [], h => exact (Bool.false_ne_true h).elim
    | [], _ :: _, h => exact (Bool.false_ne_true h).elim
    | _ :: _, _ :: _, h => exact (Bool.false_ne_true h).elim
  | _ => exact (Bool.false_ne_true h).elim
theorem inv_dct {ks : List String} {es : List Ex} (h : chkE vs ns (.dct ks es) e' = true) : ∃ ks' es' p, e' = .Dict ks' es' p ∧ ks ≠ [] ∧ ks.length ≤ 15 ∧ ks.length = es.length ∧ (∀ e ∈ es, simpE e = true) ∧ chkK ks ks' = true ∧ chkEs vs ns es es' = true := by
  cases e' with
  | Dict ks' es' p =>
    have h : ((!ks.isEmpty) && ks.length ≤ 15 && ks.length == es.length && es.all simpE && chkK ks ks' && chkEs vs ns es es') = true := h
    have h1 := Bool.and_eq_true_iff.mp h
    have h2 := Bool.and_eq_true_iff.mp h1.1
    have h3 := Bool.and_eq_true_iff.mp h2.1
    have h4 := Bool.and_eq_true_iff.mp h3.1
    have h5 := Bool.and_eq_true_iff.mp h4.1
    exact ⟨_, _, _, rfl, by rintro rfl; exact Bool.false_ne_true h5.1, of_decide_eq_true h5.2, eq_of_beq h4.2, List.all_eq_true.mp h3.2, h2.2, h1.2⟩
  | _ => exact (Bool.false_ne_true h).elim
theorem inv_sub {o i : Ex} (h : chkE vs ns (.sub o i) e' = true) : ∃ o' i' p, e' = .Subscript o' i' p ∧ notSlice i' = true ∧ chkE vs ns o o' = true ∧ chkE vs ns i i' = true := by
  cases e' with
  | Subscript o' i' p =>
    have h : (notSlice i' && chkE vs ns o o' && chkE vs ns i i') = true := h
    have h1 := Bool.and_eq_true_iff.mp h
    have h2 := Bool.and_eq_true_iff.mp h1.1
    exact ⟨_, _, _, rfl, h2.1, h2.2, h1.2⟩
  | _ => exact (Bool.false_ne_true h).elim
theorem inv_sli {o l u t : Ex} (h : chkE vs ns (.sli o l u t) e' = true) : ∃ o' l' u' t' q p, e' = .Subscript o' (.Slice l' u' t' q) p ∧ chkE vs ns o o' = true ∧ chkO vs ns l l' = true ∧ chkO vs ns u u' = true ∧ chkO vs ns t t' = true := by
  cases e' with
  | Subscript o' i' p =>
    cases i' with
    | Slice l' u' t' q =>
      have h : (chkE vs ns o o' && chkO vs ns l l' && chkO vs ns u u' && chkO vs ns t t') = true := h
      have h1 := Bool.and_eq_true_iff.mp h
      have h2 := Bool.and_eq_true_iff.mp h1.1
      have h3 := Bool.and_eq_true_iff.mp h2.1
      exact ⟨_, _, _, _, _, _, rfl, h3.1, h3.2, h2.2, h1.2⟩
    | _ => exact (Bool.false_ne_true h).elim
  | _ => exact (Bool.false_ne_true h).elim
theorem inv_call {f : String} {es : List Ex} (h : chkE vs ns (.call f es) e' = true) : ∃ id q es' p, e' = .Call (.Name id q) es' [] p ∧ gOk ns f id = true ∧ chkEs vs ns es es' = true := by
  cases e' with
  | Call fn es' ks p =>
    cases fn with
    | Name id q =>
      match ks, h with
      | [], h =>
        have h1 := Bool.and_eq_true_iff.mp (show (gOk ns f id && chkEs vs ns es es') = true from h)
        exact ⟨_, _, _, _, rfl, h1.1, h1.2⟩
      | _ :: _, h => exact (Bool.false_ne_true h).elim
    | _ => exact (Bool.false_ne_true h).elim
  | _ => exact (Bool.false_ne_true h).elim
theorem inv_meth {o : Ex} {m : String} {es : List Ex} (h : chkE vs ns (.meth o m es) e' = true) : ∃ o' ap es' p, e' = .Call (.Attribute o' (Str.ofString m) ap) es' [] p ∧ (ap.endLine == p.line) = true ∧ es.length < 29 ∧ notSuper o' = true ∧ chkE vs ns o o' = true ∧ chkEs vs ns es es' = true := by
  cases e' with
  | Call fn es' ks p =>
    cases fn with
    | Attribute o' m' ap =>
      match ks, h with
      | [], h =>
        have h : (m' == Str.ofString m && ap.endLine == p.line && (es.length < 29) && notSuper o' && chkE vs ns o o' && chkEs vs ns es es') = true := h
        have h1 := Bool.and_eq_true_iff.mp h
        have h2 := Bool.and_eq_true_iff.mp h1.1
        have h3 := Bool.and_eq_true_iff.mp h2.1
        have h4 := Bool.and_eq_true_iff.mp h3.1
        have h5 := Bool.and_eq_true_iff.mp h4.1
        cases eq_of_beq h5.1
        exact ⟨_, _, _, _, rfl, h5.2, of_decide_eq_true h4.2, h3.2, h2.2, h1.2⟩
      | _ :: _, h => exact (Bool.false_ne_true h).elim
    | _ => exact (Bool.false_ne_true h).elim
  | _ => exact (Bool.false_ne_true h).elim
theorem inv_att {o : Ex} {a : String} (h : chkE vs ns (.att o a) e' = true) : ∃ o' p, e' = .Attribute o' (Str.ofString a) p ∧ notSuper o' = true ∧ chkE vs ns o o' = true := by
  cases e' with
  | Attribute o' a' p =>
    have h : (a' == Str.ofString a && notSuper o' && chkE vs ns o o') = true := h
    have h1 := Bool.and_eq_true_iff.mp h
    have h2 := Bool.and_eq_true_iff.mp h1.1
    cases eq_of_beq h2.1
    exact ⟨_, _, rfl, h2.2, h1.2⟩
  | _ => exact (Bool.false_ne_true h).elim
theorem inv_comp {k : Nat} {elt it : Ex} {ifs : List Ex} (h : chkE vs ns (.comp k elt it ifs) e' = true) : ∃ elt' t' it' ifs' sc p tg, e' = .ListComp elt' [⟨t', it', ifs', 0⟩] sc p ∧ tgt? t' = some tg ∧
    tg.length = k ∧ (∀ x ∈ tg, sc.names.lookup x = some .local) ∧ tg.Nodup ∧ sc.kind = .function ∧ (∀ x ∈ sc.names, x.2 ≠ .cell) ∧ (∀ x ∈ sc.names, x.2 = .local → sc.names.lookup x.1 = some .local) ∧
    (∀ x ∈ sc.names, x.2 = .free → (x.1, Vk.cel) ∈ vs) ∧ notSet it' = true ∧ chkE vs ns it it' = true ∧ chkE (innerVs vs (relab sc.names ns) tg) (relab sc.names ns) elt elt' = true ∧ chkEs (innerVs vs (relab sc.names ns) tg) (relab sc.names ns) ifs ifs' = true := by
  cases e' with
  | ListComp elt' gs sc p =>
    match gs, h with
    | [⟨t', it', ifs', a⟩], h =>
      cases a with
      | negSucc n => exact (Bool.false_ne_true h).elim
      | ofNat n =>
        cases n with
        | succ n => exact (Bool.false_ne_true h).elim
        | zero =>
          have h : (match tgt? t' with
            | none => false
            | some tg => tg.length == k && tg.all (fun x => sc.names.lookup x == some .local) && decide (tg.Nodup) && sc.kind == .function && sc.names.all (fun x => !(x.2 == .cell)) &&
              sc.names.all (fun x => !(x.2 == .local) || sc.names.lookup x.1 == some .local) && sc.names.all (fun x => !(x.2 == .free) || vs.contains (x.1, Vk.cel)) &&
              notSet it' && chkE vs ns it it' && chkE (innerVs vs (relab sc.names ns) tg) (relab sc.names ns) elt elt' && chkEs (innerVs vs (relab sc.names ns) tg) (relab sc.names ns) ifs ifs') = true := h
          revert h
          cases htg : tgt? t' with
          | none => intro h; exact (Bool.false_ne_true h).elim
          | some tg =>
          intro h
          simp only [Bool.and_eq_true, beq_iff_eq, List.all_eq_true, decide_eq_true_eq, Bool.not_eq_true', Bool.or_eq_true, List.contains_iff_mem] at h
          obtain ⟨⟨⟨⟨⟨⟨⟨⟨⟨⟨h1, h2⟩, h3⟩, h4⟩, h5⟩, h6⟩, h7⟩, h8⟩, h9⟩, h10⟩, h11⟩ := h
          refine ⟨_, _, _, _, _, _, tg, rfl, htg, h1, h2, h3, h4, fun x hx q => ?_, fun x hx q => ?_, fun x hx q => ?_, h8, h9, h10, h11⟩
          · have := h5 x hx; rw [q] at this; exact absurd this (by decide)
          · rcases h6 x hx with w | w
            · rw [q] at w; exact absurd w (by decide)
            · exact w
          · rcases h7 x hx with w | w
            · rw [q] at w; exact absurd w (by decide)
            · exact w
    | [], h => exact (Bool.false_ne_true h).elim
    | ⟨_, _, _, a⟩ :: _ :: _, h =>
      cases a with
      | negSucc n => exact (Bool.false_ne_true h).elim
      | ofNat n => cases n <;> exact (Bool.false_ne_true h).elim
  | _ => exact (Bool.false_ne_true h).elim
theorem inv_cons {e : Ex} {es : List Ex} {l : List Expr} (h : chkEs vs ns (e :: es) l = true) : ∃ e' es', l = e' :: es' ∧ chkE vs ns e e' = true ∧ chkEs vs ns es es' = true := by
  cases l with
  | nil => exact (Bool.false_ne_true h).elim
  | cons a l => exact ⟨_, _, rfl, (Bool.and_eq_true_iff.mp h).1, (Bool.and_eq_true_iff.mp h).2⟩
theorem inv_nil {l : List Expr} (h : chkEs vs ns [] l = true) : l = [] := by
  cases l with
  | nil => rfl
  | cons a l => exact (Bool.false_ne_true h).elim
theorem chk_notStar {e : Ex} (h : chkE vs ns e e' = true) : ∀ x p, e' ≠ .Starred x p := by
  rintro x p rfl
  cases e <;> exact Bool.false_ne_true h
end
end Vc
end

section
set_option autoImplicit false
set_option linter.unusedVariables false
namespace Vc
open PySem

noncomputable def ItAt (C : Cx) (h : Heap) (iv : V) (I : Addr) (i : Nat) : Prop := match iv with
  | .ref a => h.IsListIter I a i
  | .tup l => ∃ t items, h.IsTuple t items ∧ VRs C h l items.toList ∧ h.IsTupleIter I t i
  | .rng a b c => IsRangeIter h I (a + (i : Int) * c) (Builtin.Range.rangeSize a b c - i) c
  | .str x => ∃ t, h.IsStrIter I (strIterType x) x t i
  | _ => False

theorem ItAt.there {C : Cx} {h : Heap} {iv : V} {I : Addr} {i : Nat} (x : ItAt C h iv I i) : ∃ o T vs, h.get? I = some o ∧ o.cls = .type T ∧ T ≠ "tuple" ∧ T ≠ "range" ∧ o.data = .fields vs := by
  cases iv with
  | ref a => obtain ⟨o, h1, h2, h3⟩ := x; exact ⟨o, _, _, h1, h2, by decide, by decide, h3⟩
  | tup l => obtain ⟨t, items, _, _, o, h1, h2, h3⟩ := x; exact ⟨o, _, _, h1, h2, by decide, by decide, h3⟩
  | rng a b c => exact ⟨_, "range_iterator", _, x, rfl, by decide, by decide, rfl⟩
  | str y =>
    obtain ⟨t, o, h1, h2, h3⟩ := x
    refine ⟨o, _, _, h1, h2, ?_, ?_, h3⟩ <;> (unfold strIterType; split <;> decide)
  | _ => exact x.elim

theorem ItAt.keep {C : Cx} {h h' : Heap} {iv : V} {I : Addr} {i : Nat} (x : ItAt C h iv I i) (k : VK h h') (e : ∀ o, h.get? I = some o → h'.get? I = some o) : ItAt C h' iv I i := by
  cases iv with
  | ref a => obtain ⟨o, h1, h2⟩ := x; exact ⟨o, e o h1, h2⟩
  | tup l =>
    obtain ⟨t, items, ⟨o', g1, g2, n, g3⟩, r, o, h1, h2⟩ := x
    exact ⟨t, items, ⟨o', k.solid t o' g1 (.inl ⟨g2, items, n, g3⟩), g2, n, g3⟩, r.keep k, o, e o h1, h2⟩
  | rng a b c => exact e _ x
  | str y => obtain ⟨t, o, h1, h2⟩ := x; exact ⟨t, o, e o h1, h2⟩
  | _ => exact x.elim

section
variable {C : Cx} {d : Md} {H : MH} {s : Shared} {A : Around} {E : Value → Shared → Prop} {iv : V} {I : Addr} {i : Nat} {all : List V}

theorem ItAt.step {D : Addr → Prop} {H' : MH} {s' : Shared} (x : ItAt C s.heap iv I i) (y : Step C D H s H' s') (hI : H I = none) (hD : ¬ D I) : ItAt C s'.heap iv I i := by
  obtain ⟨o, T, vs, h1, h2, _, _, h3⟩ := x.there
  refine x.keep y.vk fun o' e => ?_
  obtain ⟨sl, w, q⟩ := y.chg I o' e hI hD
  rw [h1] at e; cases e
  rw [q fun es ep z => by rw [h3] at z; cases z] at w
  exact w

theorem list_of {a : Addr} (r : HR C H s.heap) (h : itemsOf H (.ref a) = some all) : ∃ items, s.heap.IsList a items ∧ VRs C s.heap all items.toList := by
  simp only [itemsOf] at h
  split at h
  · rename_i l e; cases h; obtain ⟨_, items, p, q⟩ := r a _ e; exact ⟨items, p.isList, q⟩
  · rename_i l e; cases h; obtain ⟨items, p, q⟩ := r a _ e; exact ⟨items, p, q⟩
  · cases h

theorem rangeSize_nonneg (a b c : Int) : 0 ≤ Builtin.Range.rangeSize a b c := by
  unfold Builtin.Range.rangeSize
  split <;> split <;> first | omega | (have := Int.ediv_nonneg (a := b - a - 1) (b := c) (by omega) (by omega); omega) | (have := Int.ediv_nonneg (a := a - b - 1) (b := -c) (by omega) (by omega); omega)

theorem it_step {s' : Shared} (ok : Ok C d H A s) (x : ItAt C s.heap iv I i) (hI : H I = none) (h0 : C.h0.get? I = none) (k : ∀ b o, s.heap.get? b = some o → b ≠ I → s'.heap.get? b = some o) (g : s'.gens = s.gens) (os : s'.os = s.os) :
    Step C (· = I) H s H s' := by
  obtain ⟨o, T, vs, h1, h2, n1, n2, h3⟩ := x.there
  refine Step.but ok.rel ok.top (fun b o e n => k b o e n) (fun b e => e ▸ hI) (fun b e => e ▸ h0) (fun b o' e q => ?_) (fun b o' es ep e q z => ?_) g os
  · subst q; rw [h1] at e; cases e; exact .inr (.inr ⟨T, h2, n1, n2⟩)
  · subst q; rw [h1] at e; cases e; rw [h3] at z; cases z

theorem next_item {x : V} {Q : Option Value → Shared → Prop} (ok : Ok C d H A s) (it : ItAt C s.heap iv I i) (hI : H I = none) (h0 : C.h0.get? I = none) (hi : itemsOf H iv = some all) (hx : all[i]? = some x)
    (hQ : ∀ s' cv, Step C (· = I) H s H s' → ItAt C s'.heap iv I (i + 1) → VR C s'.heap x cv → Q (some cv) s') : wpAny C.M A (pyNext (.ref I)) Q E s := by
  cases iv with
  | ref a =>
    obtain ⟨items, hl, rs⟩ := list_of ok.rel hi
    obtain ⟨cv, e1, e2⟩ := rs.get hx
    refine wpAny_pyNext_list_item it hl (x := cv) (by simpa using e1) fun h' it' sb => ?_
    have st : Step C (· = I) H s H { s with heap := h' } := it_step ok it hI h0 (fun b o e n => (sb.2 b n).trans e) rfl rfl
    exact hQ _ cv st it' (e2.keep st.vk)
  | tup l =>
    obtain ⟨t, items, ht, rs, hit⟩ := it
    have it' : ItAt C s.heap (.tup l) I i := ⟨t, items, ht, rs, hit⟩
    cases hi
    obtain ⟨cv, e1, e2⟩ := rs.get hx
    refine wpAny_pyNext_tuple_item hit ht (x := cv) (by simpa using e1) fun h' it'' sb => ?_
    have st : Step C (· = I) H s H { s with heap := h' } := it_step ok it' hI h0 (fun b o e n => (sb.2 b n).trans e) rfl rfl
    obtain ⟨o', g1, g2, n, g3⟩ := ht
    exact hQ _ cv st ⟨t, items, ⟨o', st.vk.solid t o' g1 (.inl ⟨g2, items, n, g3⟩), g2, n, g3⟩, rs.keep st.vk, it''⟩ (e2.keep st.vk)
  | rng a b c =>
    cases hi
    have hlt : i < (Builtin.Range.rangeSize a b c).toNat := by
      have := (List.getElem?_eq_some_iff.mp hx).1; simpa [rngItems] using this
    unfold rngItems at hx
    rw [List.getElem?_map] at hx
    obtain ⟨k, e1, e2⟩ := Option.map_eq_some_iff.mp hx
    rw [List.getElem?_range (by
      have := (List.getElem?_eq_some_iff.mp e1).1; simpa using this)] at e1
    cases e1
    refine wpAny_pyNext_range_item (x := a + (i : Int) * c) it (by have := rangeSize_nonneg a b c; omega) fun h' it' sb => ?_
    have st : Step C (· = I) H s H { s with heap := h', toks := s.toks + 1 } := it_step ok it hI h0 (fun b o e n => (sb.2 b n).trans e) rfl rfl
    refine hQ _ _ st ?_ (by subst e2; dsimp only [VR]; exact ⟨_, rfl⟩)
    show IsRangeIter h' I (a + ((i + 1 : Nat) : Int) * c) (Builtin.Range.rangeSize a b c - ((i + 1 : Nat) : Int)) c
    have e3 : a + (i : Int) * c + c = a + ((i + 1 : Nat) : Int) * c := by rw [Int.natCast_add]; rw [Int.add_mul]; simp; omega
    have e4 : Builtin.Range.rangeSize a b c - (i : Int) - 1 = Builtin.Range.rangeSize a b c - ((i + 1 : Nat) : Int) := by omega
    rw [← e3, ← e4]; exact it'
  | str y =>
    cases hi
    rw [List.getElem?_map] at hx
    obtain ⟨k, e1, e2⟩ := Option.map_eq_some_iff.mp hx
    obtain ⟨t, hit⟩ := it
    have it' : ItAt C s.heap (.str y) I i := ⟨t, hit⟩
    have e1' : y.cps[i]? = some k := by simpa using e1
    unfold strIterType at hit
    by_cases q : (y.cps.all (· < 128)) = true
    · rw [if_pos q] at hit
      refine wpAny_pyNext_ascii_item hit e1' fun h' it'' sb => ?_
      have st : Step C (· = I) H s H { s with heap := h', toks := s.toks + 1 } := it_step ok it' hI h0 (fun b o e n => (sb.2 b n).trans e) rfl rfl
      exact hQ _ _ st ⟨t, by unfold strIterType; rw [if_pos q]; exact it''⟩ (by subst e2; dsimp only [VR]; exact ⟨_, rfl⟩)
    · rw [if_neg q] at hit
      refine wpAny_pyNext_wide_item hit e1' fun h' it'' sb => ?_
      have st : Step C (· = I) H s H { s with heap := h', toks := s.toks + 1 } := it_step ok it' hI h0 (fun b o e n => (sb.2 b n).trans e) rfl rfl
      exact hQ _ _ st ⟨t, by unfold strIterType; rw [if_neg q]; exact it''⟩ (by subst e2; dsimp only [VR]; exact ⟨_, rfl⟩)
  | _ => exact it.elim

theorem next_end {Q : Option Value → Shared → Prop} (ok : Ok C d H A s) (hq : Itq d iv) (it : ItAt C s.heap iv I i) (hI : H I = none) (h0 : C.h0.get? I = none) (hi : itemsOf H iv = some all) (hx : all.length ≤ i)
    (hQ : ∀ s', Step C (· = I) H s H s' → Q none s') : wpAny C.M A (pyNext (.ref I)) Q E s := by
  have hq1 : (∀ a, iv ≠ .ref a) → (∀ l, iv ≠ .tup l) → A.handled = none := fun n1 n2 => ok.hnd.1 (hq.1.elim id fun x => x.elim (fun ⟨a, e⟩ => (n1 a e).elim) fun ⟨l, e⟩ => (n2 l e).elim)
  cases iv with
  | ref a =>
    obtain ⟨items, hl, rs⟩ := list_of ok.rel hi
    have hl' := rs.length
    refine next_list_endH ok.hnd.2 it hl (by rw [Array.getElem?_eq_none_iff]; simp at hl'; omega) fun h' eb => ?_
    exact hQ _ (it_step ok it hI h0 (fun b o e n => eb b o n e) rfl rfl)
  | tup l =>
    obtain ⟨t, items, ht, rs, hit⟩ := it
    have it' : ItAt C s.heap (.tup l) I i := ⟨t, items, ht, rs, hit⟩
    cases hi
    have hl' := rs.length
    refine next_tuple_endH ok.hnd.2 hit ht (by rw [Array.getElem?_eq_none_iff]; simp at hl'; omega) fun h' eb => ?_
    exact hQ _ (it_step ok it' hI h0 (fun b o e n => eb b o n e) rfl rfl)
  | rng a b c =>
    cases hi
    have hl : (Builtin.Range.rangeSize a b c).toNat ≤ i := by simpa [rngItems] using hx
    refine wpAny_pyNext_range_end (hq1 (fun _ e => by cases e) (fun _ e => by cases e)) it (by have := rangeSize_nonneg a b c; omega) fun h' eb => ?_
    exact hQ _ (it_step ok it hI h0 (fun b o e n => eb b o n e) rfl rfl)
  | str y =>
    cases hi
    have hl : y.cps.size ≤ i := by simpa using hx
    obtain ⟨t, hit⟩ := it
    have it' : ItAt C s.heap (.str y) I i := ⟨t, hit⟩
    have e1' : y.cps[i]? = none := by simpa using hl
    unfold strIterType at hit
    by_cases q : (y.cps.all (· < 128)) = true
    · rw [if_pos q] at hit
      exact wpAny_pyNext_ascii_end (hq1 (fun _ e => by cases e) (fun _ e => by cases e)) hit e1' fun h' eb => hQ _ (it_step ok it' hI h0 (fun b o e n => eb b o n e) rfl rfl)
    · rw [if_neg q] at hit
      exact wpAny_pyNext_wide_end (hq1 (fun _ e => by cases e) (fun _ e => by cases e)) hit e1' fun h' eb => hQ _ (it_step ok it' hI h0 (fun b o e n => eb b o n e) rfl rfl)
  | _ => exact it.elim

theorem iter_of {cv : Value} {Q : Value → Shared → Prop} (ok : Ok C d H A s) (hq : Itq d iv) (r : VR C s.heap iv cv) (hi : itemsOf H iv = some all)
    (hQ : ∀ I s', Step C No H s H s' → s.heap.get? I = none → ItAt C s'.heap iv I 0 → Q (.ref I) s') : wpAny C.M A (pyIter cv) Q E s := by
  have push : ∀ ob : Obj, Step C No H s H { s with heap := s.heap.push ob } := fun ob => Step.keeps ok.rel ok.top (fun b o e => Heap.get?_push_of_some _ e) rfl rfl
  cases iv with
  | ref a =>
    dsimp only [VR] at r; subst r
    obtain ⟨items, hl, rs⟩ := list_of ok.rel hi
    exact wpAny_pyIter_list hl (hQ _ _ (push _) (fresh_size _) ⟨_, Heap.get?_push_size _ rfl, rfl, rfl⟩)
  | tup l =>
    dsimp only [VR] at r
    obtain ⟨t, items, rfl, ht, rs⟩ := r
    refine wpAny_pyIter_tuple ht (hQ _ _ (push _) (fresh_size _) ⟨t, items, ht.push _, rs.keep (push _).vk, _, Heap.get?_push_size _ rfl, rfl, rfl⟩)
  | rng a b c =>
    dsimp only [VR] at r
    obtain ⟨q, t, u, w, rfl, hr⟩ := r
    refine wpAny_pyIter_range hr (hq.2 a b c rfl) (hQ _ _ (push _) (fresh_size _) ?_)
    show IsRangeIter _ _ _ _ _
    have e1 : a + ((0 : Nat) : Int) * c = a := by simp
    have e2 : Builtin.Range.rangeSize a b c - ((0 : Nat) : Int) = Builtin.Range.rangeSize a b c := by simp
    rw [e1, e2]; exact Heap.get?_push_size _ rfl
  | str y =>
    dsimp only [VR] at r
    obtain ⟨t, rfl⟩ := r
    exact wpAny_pyIter_strU (hQ _ _ (push _) (fresh_size _) ⟨t, _, Heap.get?_push_size _ rfl, rfl, rfl⟩)
  | _ => cases hi

theorem iter_self {Q : Value → Shared → Prop} (it : ItAt C s.heap iv I i) (hQ : Q (.ref I) s) : wpAny C.M A (pyIter (.ref I)) Q E s := by
  cases iv with
  | ref a => exact wpAny_pyIter_listiter it hQ
  | tup l => obtain ⟨t, items, ht, rs, hit⟩ := it; exact wpAny_pyIter_tupleiter hit hQ
  | rng a b c => exact wpAny_pyIter_rangeiter it hQ
  | str y =>
    obtain ⟨t, hit⟩ := it
    unfold strIterType at hit
    by_cases q : (y.cps.all (· < 128)) = true
    · rw [if_pos q] at hit; exact wpAny_pyIter_striter_ascii hit hQ
    · rw [if_neg q] at hit; exact wpAny_pyIter_striter_wide hit hQ
  | _ => exact it.elim

theorem it_go {t : Expr} {v : Value} {Q : Unit → Shared → Prop} (it : ItAt C s.heap iv I i) (hQ : Q () s) : wpAny C.M A (letOwnedTupleGo t (.ref I) v) Q E s := by
  obtain ⟨o, T, vs, h1, h2, n1, n2, h3⟩ := it.there
  have hT : (["enumerate", "zip", "dict_itemiterator", "dict_reverseitemiterator", "odict_iterator", "itertools.zip_longest", "itertools.pairwise"].contains T) = false := by
    cases iv with
    | ref a => obtain ⟨o', g1, g2, _⟩ := it; rw [h1] at g1; cases g1; rw [h2] at g2; cases g2; decide
    | tup l => obtain ⟨_, _, _, _, o', g1, g2, _⟩ := it; rw [h1] at g1; cases g1; rw [h2] at g2; cases g2; decide
    | rng a b c => have g : s.heap.get? I = _ := it; rw [h1] at g; cases g; cases h2; decide
    | str y => obtain ⟨_, o', g1, g2, _⟩ := it; rw [h1] at g1; cases g1; rw [h2] at g2; cases g2; unfold strIterType; split <;> decide
    | _ => exact it.elim
  have main : ∀ a : Addr, wpAny C.M A (do
      let o ← load I
      match o.cls, o.data with
      | .type n, .fields vs =>
        if ["enumerate", "zip", "dict_itemiterator", "dict_reverseitemiterator", "odict_iterator", "itertools.zip_longest", "itertools.pairwise"].contains n && vs[0]? == some (rawInt a) then
          rule "for.unpacks-the-owned-tuple"
          updateField I 0 .none
      | _, _ => pure ()) Q E s := fun a => by
    refine wpAny_bind (wpAny_load h1 ?_)
    rw [h2, h3]
    dsimp only
    rw [hT, Bool.false_and, if_neg (by decide)]
    exact wpAny_pure hQ
  cases t <;> first
    | exact wpAny_pure hQ
    | (cases v <;> first | exact wpAny_pure hQ | exact main _)
end
end Vc
end

section
set_option autoImplicit false
set_option linter.unusedVariables false
namespace Vc
open PySem

noncomputable def Dm (env : Env) : Addr → Prop := fun b => b = env.locals ∨ ∃ x, env.cells.lookup x = some b

noncomputable def Dx (env : Env) (vs : Vs) (i : Nat) : Addr → Prop := fun b => ((∃ x, vs[i]? = some (x, Vk.loc)) ∧ b = env.locals) ∨ ∃ x, vs[i]? = some (x, Vk.cel) ∧ env.cells.lookup x = some b
noncomputable def Dxs (env : Env) (vs : Vs) (idx : List Nat) : Addr → Prop := fun b => ∃ i ∈ idx, Dx env vs i b
theorem dx_dm {env : Env} {vs : Vs} {i : Nat} {b : Addr} (h : Dx env vs i b) : Dm env b := by
  rcases h with ⟨_, e⟩ | ⟨x, _, e⟩
  · exact .inl e
  · exact .inr ⟨x, e⟩
theorem dxs_dm {env : Env} {vs : Vs} {idx : List Nat} {b : Addr} (h : Dxs env vs idx b) : Dm env b := let ⟨_, _, h⟩ := h; dx_dm h

section
variable {C : Cx} {d : Md} {env : Env} {vs : Vs} {ns : Ns} {ρ : Lo} {H H' : MH} {s s' : Shared} {A : Around} {E : Value → Shared → Prop} {D D' : Addr → Prop}

theorem Step.widen (x : Step C D H s H s') (hD : ∀ b, D b → D' b) : Step C D' H s H s' :=
  { x with chg := fun b o e n nd => x.chg b o e n fun q => nd (hD b q), dn := fun _ _ e => e }

theorem ns_cell_ne {h : Heap} {a c : Addr} {m : Str → Option Value} {v : Option Value} (x : h.Ns a m) (y : h.IsCell c v) : c ≠ a := by
  rintro rfl
  obtain ⟨o, es, ep, ho, hd, _⟩ := x
  obtain ⟨o', ho', hd'⟩ := y
  rw [ho] at ho'; cases ho'; rw [hd] at hd'; cases hd'

theorem store_one {i : Nat} {id : Str} {v : V} {cv : Value} {Q : Unit → Shared → Prop} (ES : EnvS env vs ns) (ok : Ok C d H A s) (fi : FI C env vs ρ H s.heap) (hv : vOk vs i id = true) (r : VR C s.heap v cv)
    (hQ : ∀ s', Step C (Dx env vs i) H s H s' → FI C env vs (ls ρ i v) H s'.heap → Q () s') : wpAny C.M A (storeName env id cv) Q E s := by
  unfold vOk at hv
  rcases Bool.or_eq_true_iff.mp hv with q | q
  · have q' : vs[i]? = some (id, Vk.loc) := by simpa using q
    obtain ⟨m, hm, rm⟩ := fi.ns
    refine wpAny_storeName_local (by unfold Env.kindOf; rw [ES.names]; exact ES.loc i id q') hm (fun h' hn hs => ?_) (by rw [ES.kind]; rfl)
    have st : Step C (· = env.locals) H s H { s with heap := h', toks := s.toks + 1 } := by
      refine Step.but ok.rel ok.top (fun b o e n => (hs.2 b n).trans e) (fun b e => e ▸ fi.locH) (fun b e => e ▸ fi.loc0) (fun b o e w => ?_) (fun b o es ep e w z => ?_) rfl rfl
      · subst w; obtain ⟨o', es, ep, ho, hd, _⟩ := hm; rw [ho] at e; cases e; exact .inl ⟨es, ep, hd⟩
      · subst w; obtain ⟨o', es', ep', ho, hd, _⟩ := hn; exact ⟨o', es', ep', ho, hd⟩
    refine hQ _ (st.widen fun b e => .inl ⟨⟨id, q'⟩, e⟩) ⟨by rw [ls_length]; exact fi.len, fi.locH, fi.loc0, ⟨_, hn, fun j x w e l => ?_⟩, fun j x e => ?_, fun x c e => ?_⟩
    · by_cases hji : j = i
      · subst hji
        rw [q'] at e; cases e
        obtain rfl := lk_ls_self l
        exact ⟨cv, if_pos rfl, r.keep st.vk⟩
      · rw [lk_ls_ne (Ne.symm hji)] at l
        obtain ⟨cw, e1, e2⟩ := rm j x w e l
        refine ⟨cw, ?_, e2.keep st.vk⟩
        rw [if_neg]; exact e1
        rintro rfl
        exact hji (ES.uni j i _ _ _ e q' (by decide) (by decide))
    · obtain ⟨c, oc, h1, h2, h3, h4, h5⟩ := fi.cel j x e
      refine ⟨c, oc, h1, h2, h3, h4.sameBut hs (ns_cell_ne hm h4), fun w l => ?_⟩
      by_cases hji : j = i
      · subst hji; rw [q'] at e; cases e
      · rw [lk_ls_ne (Ne.symm hji)] at l
        obtain ⟨cw, e1, e2⟩ := h5 w l
        exact ⟨cw, e1, e2.keep st.vk⟩
    · obtain ⟨g1, g2, oc, g3⟩ := fi.cex x c e
      exact ⟨g1, g2, oc, g3.sameBut hs (ns_cell_ne hm g3)⟩
  · have q' : vs[i]? = some (id, Vk.cel) := by simpa using q
    obtain ⟨c, oc, h1, h2, h3, h4, h5⟩ := fi.cel i id q'
    obtain ⟨m, hm, rm⟩ := fi.ns
    refine wpAny_storeName_cell ES.kind (by unfold Env.kindOf; rw [ES.names]; exact ES.cel i id q') h1 h4 (fun h' hn hs => ?_)
    have st : Step C (· = c) H s H { s with heap := h' } := by
      refine Step.but ok.rel ok.top (fun b o e n => (hs.2 b n).trans e) (fun b e => e ▸ h2) (fun b e => e ▸ h3) (fun b o e w => ?_) (fun b o es ep e w z => ?_) rfl rfl
      · subst w; obtain ⟨o', ho, hd⟩ := h4; rw [ho] at e; cases e; exact .inr (.inl ⟨_, hd⟩)
      · subst w; obtain ⟨o', ho, hd⟩ := h4; rw [ho] at e; cases e; rw [hd] at z; cases z
    refine hQ _ (st.widen fun b e => .inr ⟨id, q', e ▸ h1⟩) ⟨by rw [ls_length]; exact fi.len, fi.locH, fi.loc0, ⟨m, hm.sameBut hs (Ne.symm (ns_cell_ne hm h4)), fun j x w e l => ?_⟩, fun j x e => ?_, fun x c' e => ?_⟩
    · have hji : j ≠ i := by rintro rfl; rw [q'] at e; cases e
      rw [lk_ls_ne (Ne.symm hji)] at l
      obtain ⟨cw, e1, e2⟩ := rm j x w e l
      exact ⟨cw, e1, e2.keep st.vk⟩
    · by_cases hji : j = i
      · subst hji
        rw [q'] at e; cases e
        refine ⟨c, some cv, h1, h2, h3, hn, fun w l => ?_⟩
        obtain rfl := lk_ls_self l
        exact ⟨cv, rfl, r.keep st.vk⟩
      · obtain ⟨c', oc', g1, g2, g3, g4, g5⟩ := fi.cel j x e
        have hcc : c' ≠ c := by
          rintro rfl
          have hx := ES.apt x id c' g1 h1
          subst hx
          exact hji (ES.uni j i _ _ _ e q' (by decide) (by decide))
        refine ⟨c', oc', g1, g2, g3, g4.sameBut hs hcc, fun w l => ?_⟩
        rw [lk_ls_ne (Ne.symm hji)] at l
        obtain ⟨cw, e1, e2⟩ := g5 w l
        exact ⟨cw, e1, e2.keep st.vk⟩
    · obtain ⟨g1, g2, oc, g3⟩ := fi.cex x c' e
      by_cases hcc : c' = c
      · subst hcc; exact ⟨g1, g2, _, hn⟩
      · exact ⟨g1, g2, oc, g3.sameBut hs hcc⟩

theorem FI.dm (fi : FI C env vs ρ H s.heap) : ∀ b, Dm env b → ∃ o, s.heap.get? b = some o := fun b hb => by
  rcases hb with rfl | ⟨x, e⟩
  · obtain ⟨m, ⟨o, _, _, ho, _⟩, _⟩ := fi.ns; exact ⟨o, ho⟩
  · obtain ⟨_, _, _, o, ho, _⟩ := fi.cex x b e; exact ⟨o, ho⟩

theorem names_noStar {tg : List Str} : ∀ {es : List Expr}, names? es = some tg → (assignEach es env).findIdx? (·.1) = none ∧ (assignEach es env).length = tg.length := by
  intro es
  induction es generalizing tg with
  | nil => intro h; cases h; exact ⟨rfl, rfl⟩
  | cons e es ih =>
    intro h
    cases e with
    | Name id p =>
      dsimp only [names?] at h
      obtain ⟨r, e1, e2⟩ := Option.map_eq_some_iff.mp h
      subst e2
      have := ih e1
      refine ⟨?_, ?_⟩
      · show List.findIdx? (·.1) ((false, assign (.Name id p) env) :: assignEach es env) = none
        rw [List.findIdx?_cons]; simp [this.1]
      · show (assignEach es env).length + 1 = _
        rw [this.2]; rfl
    | _ => exact (Option.some_ne_none _ h.symm).elim

theorem assign_each {tg : List Str} {Q : Unit → Shared → Prop} (ES : EnvS env vs ns) : ∀ {es : List Expr} {tg : List Str} {idx : List Nat} {xs : List V} {cvs : List Value} {ρ : Lo} {s : Shared}, names? es = some tg → chkTg vs idx tg = true →
    Ok C d H A s → FI C env vs ρ H s.heap → VRs C s.heap xs cvs → xs.length = idx.length →
    (∀ s', Step C (Dxs env vs idx) H s H s' → FI C env vs (lss ρ idx xs) H s'.heap → Q () s') → wpAny C.M A (assignInOrder ((assignEach es env).map (·.2)) cvs) Q E s := by
  intro es
  induction es with
  | nil =>
    intro tg idx xs cvs ρ s h hc ok fi r hl hQ
    cases h
    cases idx with
    | cons i is => exact (Bool.false_ne_true hc).elim
    | nil =>
      cases xs with
      | cons x xs => simp at hl
      | nil =>
        have : wpAny C.M A (pure ()) Q E s := wpAny_pure (hQ s (.refl ok.rel ok.top) fi)
        obtain rfl := r.inv_nil
        exact this
  | cons e es ih =>
    intro tg idx xs cvs ρ s h hc ok fi r hl hQ
    cases e with
    | Name id p =>
      dsimp only [names?] at h
      obtain ⟨tg', e1, e2⟩ := Option.map_eq_some_iff.mp h
      subst e2
      cases idx with
      | nil => exact (Bool.false_ne_true hc).elim
      | cons i is =>
        cases xs with
        | nil => simp at hl
        | cons x xs =>
          obtain ⟨cv, cvs', rfl, r1, r2⟩ := r.inv_cons
          simp only [chkTg, Bool.and_eq_true] at hc
          show wpAny C.M A (holding cvs' (assign (.Name id p) env cv) >>= fun _ => assignInOrder ((assignEach es env).map (·.2)) cvs') Q E s
          refine wpAny_bind (wpAny_holding (wpAny_assign_Name (store_one ES ok fi hc.1 r1 fun s1 st fi1 => ?_)))
          refine ih e1 hc.2 (ok.step st) fi1 (r2.keep st.vk) (by simpa using hl) fun s2 st2 fi2 => hQ s2 ((st.widen fun b hb => ⟨i, .head _, hb⟩).trans (st2.widen fun b ⟨j, hj, hb⟩ => ⟨j, .tail _ hj, hb⟩)) fi2
    | _ => exact (Option.some_ne_none _ h.symm).elim

theorem assign_tgt {t' : Expr} {tg : List Str} {idx : List Nat} {x : V} {xs : List V} {cv : Value} {Q : Unit → Shared → Prop} (ES : EnvS env vs ns) (ht : tgt? t' = some tg) (hc : chkTg vs idx tg = true)
    (ok : Ok C d H A s) (fi : FI C env vs ρ H s.heap) (r : VR C s.heap x cv) (hp : parts idx.length x = some xs)
    (hQ : ∀ s', Step C (Dxs env vs idx) H s H s' → FI C env vs (lss ρ idx xs) H s'.heap → Q () s') : wpAny C.M A (assign t' env cv) Q E s := by
  cases t' with
  | Name id p =>
    cases ht
    cases idx with
    | nil => exact (Bool.false_ne_true hc).elim
    | cons i is =>
      cases is with
      | cons j js => simp [chkTg] at hc
      | nil =>
        simp [parts] at hp
        subst hp
        simp only [chkTg, Bool.and_true] at hc
        exact wpAny_assign_Name (store_one ES ok fi hc r fun s' st fi' => hQ s' (st.widen fun b hb => ⟨i, .head _, hb⟩) fi')
  | Tuple es k p =>
    dsimp only [tgt?] at ht
    split at ht
    · rename_i hlen
      have hlt : idx.length = tg.length := by
        clear hp hQ ht
        induction idx generalizing tg with
        | nil => cases tg <;> simp [chkTg] at hc; rfl
        | cons i is ih => cases tg <;> simp [chkTg] at hc; simp [ih hc.2]
      have hes : (assignEach es env).length = tg.length := (names_noStar ht).2
      have hel : ∀ es : List Expr, (assignEach es env).length = es.length := fun es => by
        induction es with
        | nil => rfl
        | cons e es ih => cases e <;> (show (assignEach es env).length + 1 = _; rw [ih]; rfl)
      have h2 : 2 ≤ idx.length := by rw [hlt, ← hes, hel]; exact hlen
      unfold parts at hp
      rw [if_neg (by omega)] at hp
      split at hp
      · rename_i l
        split at hp
        · rename_i hl
          cases hp
          dsimp only [VR] at r
          obtain ⟨a, items, rfl, htu, rs⟩ := r
          have hlr := rs.length
          refine assign_tupleH ok.hnd.2 htu (by rw [hes, ← hlt, ← hl, hlr]; simp) (names_noStar ht).1 fun h' eb => ?_
          have st : Step C No H s H { s with heap := h' } := Step.keeps ok.rel ok.top (fun b o e => eb b o (Nat.ne_of_lt (Heap.lt_size e)) e) rfl rfl
          refine assign_each (tg := []) ES ht hc (ok.step st) (fi.stepN st) (rs.keep st.vk) hl fun s2 st2 fi2 => hQ s2 ((st.weaken fun b hb => fi.dm b (dxs_dm hb)).trans st2) fi2
        · cases hp
      · cases hp
    · cases ht
  | _ => cases ht
end
end Vc
end

section
set_option autoImplicit false
set_option linter.unusedVariables false
namespace Vc
open PySem

noncomputable def closA (env : Env) : Ns → List (Str × Addr) → List (Str × Addr)
  | [], acc => acc
  | (n, k) :: r, acc => if k == .free then closA env r ((n, (env.cells.lookup n).getD 0) :: acc) else closA env r acc

theorem closA_sub {env : Env} : ∀ {l : Ns} {acc : List (Str × Addr)}, (∀ x ∈ l, x.2 = .free → (env.cells.lookup x.1).isSome = true) → (∀ x c, acc.lookup x = some c → env.cells.lookup x = some c) →
    ∀ x c, (closA env l acc).lookup x = some c → env.cells.lookup x = some c
  | [], _, _, h => h
  | (n, k) :: r, acc, hf, h => by
    unfold closA
    have hf' : ∀ x ∈ r, x.2 = .free → (env.cells.lookup x.1).isSome = true := fun x hx => hf x (.tail _ hx)
    split
    · rename_i hk
      refine closA_sub hf' fun x c e => ?_
      rw [List.lookup_cons] at e
      split at e
      · rename_i hx
        cases e
        have hx' : x = n := beq_iff_eq.mp hx
        subst hx'
        obtain ⟨c, hc⟩ := Option.isSome_iff_exists.mp (hf (x, k) (.head _) (beq_iff_eq.mp hk))
        rw [hc]; rfl
      · exact h x c e
    · exact closA_sub hf' h
theorem closA_has {env : Env} : ∀ {l : Ns} {acc : List (Str × Addr)} {x : Str}, ((x, NameKind.free) ∈ l ∨ (acc.lookup x).isSome = true) → ((closA env l acc).lookup x).isSome = true
  | [], _, _, h => h.elim (fun e => nomatch e) id
  | (n, k) :: r, acc, x, h => by
    unfold closA
    split
    · refine closA_has ?_
      by_cases hx : x = n
      · subst hx; exact .inr (by simp)
      · refine h.imp (fun e => ?_) fun e => ?_
        · cases e with
          | head => exact (hx rfl).elim
          | tail _ e => exact e
        · rw [List.lookup_cons]
          have : (x == n) = false := by simpa using hx
          rw [this]; exact e
    · rename_i hk
      refine closA_has (h.imp (fun e => ?_) id)
      cases e with
      | head => exact absurd (beq_self_eq_true NameKind.free) hk
      | tail _ e => exact e

theorem closure_of {scope : Scope} {env : Env} (hf : ∀ x ∈ scope.names, x.2 = .free → (env.cells.lookup x.1).isSome = true) : closureFor scope env = pure (closA env scope.names []) := by
  simp only [closureFor]
  have key : ∀ (l : Ns) (acc : List (Str × Addr)), (∀ x ∈ l, x.2 = .free → (env.cells.lookup x.1).isSome = true) →
      (forIn l acc fun x r => (if (x.2 == NameKind.free) = true then (do let a ← cellOf env x.1; pure (ForInStep.yield ((x.1, a) :: r))) else pure (ForInStep.yield r) : Sem _)) = pure (closA env l acc) := by
    intro l
    induction l with
    | nil => intro acc _; rfl
    | cons x l ih =>
      intro acc h
      obtain ⟨n, k⟩ := x
      rw [List.forIn_cons]
      have ih' := fun acc => ih acc fun x hx => h x (.tail _ hx)
      by_cases hk : (k == NameKind.free) = true
      · obtain ⟨c, hc⟩ := Option.isSome_iff_exists.mp (h (n, k) (.head _) (beq_iff_eq.mp hk))
        have hc' : env.cells.lookup n = some c := hc
        simp only [hk, if_true, closA]
        rw [show cellOf env n = pure c from by unfold cellOf; rw [hc']]
        show (forIn l ((n, c) :: acc) _ : Sem _) = _
        rw [ih', hc']; rfl
      · simp only [hk, closA, Bool.false_eq_true, if_false]
        show (forIn l acc _ : Sem _) = _
        rw [ih']
  have := key scope.names [] hf
  rw [this]; rfl

theorem relab_map : ∀ (inner outer : Ns), inner.map (fun (n, k) => if (k == NameKind.free && true && outer.lookup n == some NameKind.cell) = true then (n, NameKind.cell) else (n, k)) = relab inner outer
  | [], _ => rfl
  | (n, k) :: r, outer => by
    rw [List.map_cons, relab_map r outer, relab]
    dsimp only
    rw [Bool.and_true]
    by_cases hc : (k == NameKind.free && outer.lookup n == some NameKind.cell) = true
    · rw [hc]; rfl
    · rw [if_neg hc, if_neg hc]
theorem relab_eq {sc : Scope} {env : Env} {ns : Ns} (hk : env.scope.kind = .function) (hn : env.scope.names = ns) : (relabel sc env).names = relab sc.names ns := by
  rw [← relab_map]
  unfold relabel
  simp only [hk, Env.kindOf, hn]
  rfl

theorem relab_local {outer : Ns} {x : Str} : ∀ {inner : Ns}, inner.lookup x = some .local → (relab inner outer).lookup x = some .local
  | [], h => by simp at h
  | (n, k) :: l, h => by
    rw [relab, List.lookup_cons]
    rw [List.lookup_cons] at h
    cases hx : x == n with
    | true => rw [hx] at h; cases h; rfl
    | false => rw [hx] at h; exact relab_local h

theorem relab_cell {outer : Ns} {x : Str} : ∀ {inner : Ns}, (∀ y ∈ inner, y.2 ≠ .cell) → (relab inner outer).lookup x = some .cell → (x, NameKind.free) ∈ inner
  | [], _, h => by simp [relab] at h
  | (n, k) :: l, hn, h => by
    rw [relab, List.lookup_cons] at h
    cases hx : x == n with
    | true =>
      rw [hx] at h
      by_cases hc : (k == NameKind.free && outer.lookup n == some NameKind.cell) = true
      · have hk : k = .free := by simp at hc; exact hc.1
        rw [beq_iff_eq.mp hx, hk]; exact .head _
      · simp only [hc] at h
        exact absurd (by simpa using h) (hn (n, k) (.head _))
    | false => rw [hx] at h; exact .tail _ (relab_cell (fun y hy => hn y (.tail _ hy)) h)

section
variable {vs : Vs} {inner : Ns} {tg : List Str}
theorem inner_lt {i : Nat} {x : Str} {k : Vk} (h : (innerVs vs inner tg)[i]? = some (x, k)) (hi : i < vs.length) : (k = .cel ∧ vs[i]? = some (x, .cel) ∧ inner.lookup x = some .cell) ∨ k = .hid := by
  unfold innerVs at h
  rw [List.getElem?_append_left (by simpa using hi), List.getElem?_map] at h
  obtain ⟨y, e1, e2⟩ := Option.map_eq_some_iff.mp h
  obtain ⟨n, k'⟩ := y
  dsimp only at e2
  split at e2
  · rename_i hc
    cases e2
    simp only [Bool.and_eq_true, beq_iff_eq] at hc
    obtain ⟨h1, h2⟩ := hc
    subst h1
    exact .inl ⟨rfl, e1, h2⟩
  · cases e2; exact .inr rfl
theorem inner_ge {i : Nat} {x : Str} {k : Vk} (h : (innerVs vs inner tg)[i]? = some (x, k)) (hi : ¬ i < vs.length) : k = .loc ∧ tg[i - vs.length]? = some x := by
  unfold innerVs at h
  rw [List.getElem?_append_right (by simpa using hi), List.getElem?_map, List.length_map] at h
  obtain ⟨y, e1, e2⟩ := Option.map_eq_some_iff.mp h
  cases e2
  exact ⟨rfl, e1⟩
theorem inner_tg {j : Nat} {x : Str} (h : tg[j]? = some x) : (innerVs vs inner tg)[vs.length + j]? = some (x, .loc) := by
  unfold innerVs
  rw [List.getElem?_append_right (by simp), List.getElem?_map, List.length_map]
  simp [h]
theorem inner_length : (innerVs vs inner tg).length = vs.length + tg.length := by simp [innerVs]
end

section
variable {C : Cx} {d : Md} {env : Env} {vs : Vs} {ns : Ns} {ρ : Lo} {H H' : MH} {s s' : Shared} {A : Around} {E : Value → Shared → Prop} {sc : Scope} {tg : List Str} {Cn : Addr}

theorem comp_envS (ES : EnvS env vs ns) (hk : sc.kind = .function) (hl : ∀ x ∈ tg, sc.names.lookup x = some .local) (nd : tg.Nodup) (hf : ∀ x ∈ sc.names, x.2 = .free → (env.cells.lookup x.1).isSome = true) :
    EnvS (compEnvC sc (closA env sc.names []) Cn env) (innerVs vs (relab sc.names ns) tg) (relab sc.names ns) where
  kind := hk
  names := relab_eq ES.kind ES.names
  glb := ES.glb
  blt := ES.blt
  loc := fun i x h => by
    by_cases hi : i < vs.length
    · rcases inner_lt h hi with ⟨q, _⟩ | q <;> cases q
    · exact relab_local (hl x (List.mem_of_getElem? (inner_ge h hi).2))
  cel := fun i x h => by
    by_cases hi : i < vs.length
    · rcases inner_lt h hi with ⟨_, _, q⟩ | q
      · exact q
      · cases q
    · have := (inner_ge h hi).1; cases this
  uni := fun i j x k k' h h' n n' => by
    by_cases hi : i < vs.length <;> by_cases hj : j < vs.length
    · rcases inner_lt h hi with ⟨_, q, _⟩ | q
      · rcases inner_lt h' hj with ⟨_, q', _⟩ | q'
        · exact ES.uni i j x _ _ q q' (by decide) (by decide)
        · exact (n' q').elim
      · exact (n q).elim
    · rcases inner_lt h hi with ⟨_, _, q⟩ | q
      · have := relab_local (outer := ns) (hl x (List.mem_of_getElem? (inner_ge h' hj).2)); rw [q] at this; cases this
      · exact (n q).elim
    · rcases inner_lt h' hj with ⟨_, _, q⟩ | q
      · have := relab_local (outer := ns) (hl x (List.mem_of_getElem? (inner_ge h hi).2)); rw [q] at this; cases this
      · exact (n' q).elim
    · have h1 := (inner_ge h hi).2
      have h2 := (inner_ge h' hj).2
      have := (List.getElem?_inj (List.getElem?_eq_some_iff.mp h1).1 nd).mp (h1.trans h2.symm)
      omega
  apt := fun x y c h h' => ES.apt x y c (closA_sub hf (by simp) x c h) (closA_sub hf (by simp) y c h')

theorem lk_none {k : Nat} : ∀ {i : Nat}, lk (List.replicate k (none : Option V)) i = none := by
  induction k with
  | zero => intro i; rfl
  | succ k ih => intro i; cases i with
    | zero => rfl
    | succ i => simpa [List.replicate_succ, lk] using ih

theorem comp_fi {m : Str → Option Value} (ES : EnvS env vs ns) (fi : FI C env vs ρ H s.heap) (hnc : ∀ x ∈ sc.names, x.2 ≠ .cell) (hf : ∀ x ∈ sc.names, x.2 = .free → (env.cells.lookup x.1).isSome = true)
    (hCH : H Cn = none) (hC0 : C.h0.get? Cn = none) (hns : s.heap.Ns Cn m) :
    FI C (compEnvC sc (closA env sc.names []) Cn env) (innerVs vs (relab sc.names ns) tg) (ρ ++ List.replicate tg.length none) H s.heap where
  len := by rw [inner_length, List.length_append, List.length_replicate, fi.len]
  locH := hCH
  loc0 := hC0
  ns := ⟨m, hns, fun i x v h l => by
    by_cases hi : i < vs.length
    · rcases inner_lt h hi with ⟨q, _⟩ | q <;> cases q
    · exfalso
      have e : i = ρ.length + (i - vs.length) := by have := fi.len; omega
      rw [e, lk_append, lk_none] at l; cases l⟩
  cel := fun i x h => by
    by_cases hi : i < vs.length
    · rcases inner_lt h hi with ⟨_, q, q2⟩ | q
      · obtain ⟨c, oc, h1, h2, h3, h4, h5⟩ := fi.cel i x q
        refine ⟨c, oc, ?_, h2, h3, h4, fun v l => h5 v ?_⟩
        · obtain ⟨c', hc'⟩ := Option.isSome_iff_exists.mp (closA_has (env := env) (acc := []) (.inl (relab_cell hnc q2)))
          have := closA_sub hf (by simp) x c' hc'
          rw [h1] at this; cases this
          exact hc'
        · rwa [lk_append_lt (by rw [fi.len]; exact hi)] at l
      · cases q
    · have := (inner_ge h hi).1; cases this
  cex := fun x c h => fi.cex x c (closA_sub hf (by simp) x c h)
end
end Vc
end

section
set_option autoImplicit false
set_option linter.unusedVariables false
namespace Vc
open PySem

section
variable {C : Cx} {A : Around} {R : Result → Shared → Prop} {s : Shared}
theorem compLoop_any {elt target iter : Expr} {ifs : List Expr} {scope : Scope} {pos : Pos} {it acc : Value} {env : Env} (I : Nat → Shared → Prop)
    (turn : ∀ n s, I n s → wpAny C.M A (pyNext it) (fun r s₁ => match r with
      | none => R (.ok .next) s₁
      | some v => wpAny C.M A (letOwnedTupleGo target it v) (fun _ s₁' => wpAny C.M A (assign target env v) (fun _ s₂ =>
          wpAny C.M A (forIn ifs true fun c r => if r = true then do let ok ← isTrue c env (eval c env); pure (ForInStep.yield ok) else pure (ForInStep.yield r)) (fun ok s₃ =>
            if ok = true then wpAny C.M A (eval elt env) (fun x s₄ =>
              wpAny C.M A (call (.builtin "list.append") [acc, x]) (fun _ s₅ => ∃ m, m < n ∧ I m s₅) (notedBy C.M A env fun e s' => R (.error e) s') s₄) (notedBy C.M A env fun e s' => R (.error e) s') s₃
            else ∃ m, m < n ∧ I m s₃) (notedBy C.M A env fun e s' => R (.error e) s') s₂) (notedBy C.M A env fun e s' => R (.error e) s') s₁') (notedBy C.M A env fun e s' => R (.error e) s') s₁) (notedBy C.M A env fun e s' => R (.error e) s') s)
    (n : Nat) (h : I n s) :
    codeAny C.M A (.compLoop (.ListComp elt [⟨target, iter, ifs, 0⟩] scope pos) 0 it acc env) R s := by
  refine codeAny_loop rfl I (fun n s hI => ?_) n h
  show wpAny _ A ((compTurn (.ListComp elt [⟨target, iter, ifs, 0⟩] scope pos) 0 it acc env).onRaise (fun x => do noteFrame x env; theTreesLotGoes x)) _ _ s
  refine wpAny_noted ?_
  rw [compTurn_list]
  refine wpAny_bind (wpAny_standAt (wpAny_bind (wpAny_mono (turn n s hI) (fun r s₁ h₁ => ?_) fun _ _ h' => h')))
  cases r with
  | none => exact wpAny_pure h₁
  | some v =>
    refine wpAny_bind (wpAny_mono h₁ (fun _ s₁' h₁' => ?_) fun _ _ h' => h')
    refine wpAny_bind (wpAny_mono h₁' (fun _ s₂ h₂ => wpAny_bind (wpAny_mono h₂ (fun ok s₃ h₃ => ?_) fun _ _ h' => h')) fun _ _ h' => h')
    cases ok with
    | false => exact wpAny_pure ⟨rfl, h₃⟩
    | true =>
      exact wpAny_bind (wpAny_bind (wpAny_mono h₃ (fun x s₄ h₄ => wpAny_bind (wpAny_mono h₄ (fun _ s₅ h₅ => wpAny_pure (wpAny_pure ⟨rfl, h₅⟩)) fun _ _ h' => h')) fun _ _ h' => h'))
end

theorem ls_mid : ∀ (ρ : Lo) (y : Option V) (t : Lo) (x : V), ls (ρ ++ y :: t) ρ.length x = ρ ++ some x :: t
  | [], _, _, _ => rfl
  | z :: ρ, y, t, x => by simp [ls, ls_mid ρ y t x]
theorem lss_new : ∀ (xs : List V) (ρ : Lo), lss (ρ ++ List.replicate xs.length none) (List.range' ρ.length xs.length) xs = ρ ++ xs.map some
  | [], ρ => by simp [lss]
  | x :: xs, ρ => by
    rw [List.length_cons, List.replicate_succ, List.range'_succ, lss, ls_mid]
    have := lss_new xs (ρ ++ [some x])
    simp only [List.length_append, List.length_singleton, List.append_assoc, List.singleton_append] at this
    rw [this]; simp
theorem parts_length {k : Nat} {x : V} {xs : List V} (h : parts k x = some xs) : xs.length = k := by
  unfold parts at h
  split at h
  · rename_i e; cases h; exact e.symm
  · split at h
    · split at h
      · rename_i e; cases h; exact e
      · cases h
    · cases h
theorem chkTg_inner {vs : Vs} {inner : Ns} {tg : List Str} : ∀ {l : List Str} {n : Nat}, (∀ j, l[j]? = tg[n + j]?) → chkTg (innerVs vs inner tg) (List.range' (vs.length + n) l.length) l = true
  | [], _, _ => rfl
  | x :: l, n, h => by
    rw [List.length_cons, List.range'_succ, chkTg]
    have h0 : tg[n]? = some x := by have := h 0; simpa using this.symm
    have := inner_tg (vs := vs) (inner := inner) h0
    simp only [vOk, this]
    have ih := chkTg_inner (vs := vs) (inner := inner) (tg := tg) (l := l) (n := n + 1) fun j => by
      have := h (j + 1); simp only [List.getElem?_cons_succ] at this; rw [this]; congr 1; omega
    rw [← Nat.add_assoc] at ih
    simp [ih]

section
variable {C : Cx} {d : Md} {env : Env} {vs : Vs} {ns : Ns} {ρ : Lo} {H H' : MH} {s s' s'' : Shared} {A : Around} {E : Value → Shared → Prop} {sc : Scope} {tg : List Str} {Cn : Addr} {D : Addr → Prop}

theorem FI.forget {ts : Lo} {k : Nat} {h : Heap} (fi : FI C env vs (ρ ++ ts) H h) (hk : ts.length = k) : FI C env vs (ρ ++ List.replicate k none) H h := by
  have key : ∀ (i : Nat) (v : V), lk (ρ ++ List.replicate k none) i = some v → lk (ρ ++ ts) i = some v := fun i v l => by
    by_cases hi : i < ρ.length
    · rw [lk_append_lt hi] at l ⊢; exact l
    · rw [show i = ρ.length + (i - ρ.length) by omega, lk_append, lk_none] at l; cases l
  obtain ⟨m, hm, r⟩ := fi.ns
  refine ⟨by have := fi.len; simp only [List.length_append, List.length_replicate, hk] at this ⊢; exact this, fi.locH, fi.loc0, ⟨m, hm, fun i x v e l => r i x v e (key i v l)⟩, fun i x e => ?_, fi.cex⟩
  obtain ⟨c, oc, h1, h2, h3, h4, h5⟩ := fi.cel i x e
  exact ⟨c, oc, h1, h2, h3, h4, fun v l => h5 v (key i v l)⟩

theorem old_of' (x : Step C D H s H' s') (hD : ∀ b, D b → s.heap.get? b = none) {b : Addr} (e : s'.heap.get? b = none) : s.heap.get? b = none := by
  cases q : s.heap.get? b with
  | none => rfl
  | some o =>
    by_cases u : (H b).isSome = true
    · obtain ⟨ob, w⟩ := x.rel.there (x.dom b u); rw [e] at w; cases w
    · by_cases dd : D b
      · rw [hD b dd] at q; cases q
      · obtain ⟨sl, w, _⟩ := x.chg b o q (by simpa using u) dd; rw [e] at w; cases w

theorem Fly.back' {tr : Bool} {a : Addr} {c : String} {h : Heap} (st : Step C D H s H' s') (hD : ∀ b, D b → s.heap.get? b = none) (x : Fly C tr s' a c h) : Fly C tr s a c h := by
  obtain ⟨new, o, ws, r, h1, h2, h3, h4, h5, h6, h7⟩ := x
  exact ⟨old_of' st hD new, o, ws, r, h1, h2, h3, h4, h5, h6, h7.imp id fun ⟨T, oT, ts, g1, g2, g3⟩ => ⟨T, oT, ts, g1, old_of' st hD g2, g3⟩⟩

theorem XG.lift {tr : Bool} {X : XP} {X' : XH} {e : Value} (st : Step C D H s H' s') (hD : ∀ b, D b → s.heap.get? b = none) (hx : ∀ b, D b → ∃ o, s'.heap.get? b = some o)
    (hX : ∀ c H2 s2, Step C No H' s' H2 s2 → X c H2 → X' c H2 s2.heap) (hN : ∀ b, D b → H' b = none) (x : XQ tr C No H' s' X e s'') : XG tr C D H s X' e s'' := by
  obtain ⟨a, c, H2, h1, h2, h3, h4, h5⟩ := x
  refine ⟨a, c, H2, h1, st.trans (h2.weaken hx), fun b hb => ?_, h4.back' st hD, hX c H2 s'' h2 h5⟩
  obtain ⟨o, w⟩ := hx b hb
  obtain ⟨sl, w', _⟩ := h2.chg b o w (hN b hb) (fun f => f)
  exact ⟨_, w'⟩

end
end Vc
end

section
set_option autoImplicit false
set_option linter.unusedVariables false
namespace Vc
open PySem

noncomputable def DI (I Dl Cn : Addr) : Addr → Prop := fun b => b = I ∨ b = Dl ∨ b = Cn

noncomputable def testsOf (ifs : List Expr) (env : Env) : Sem Bool := forIn ifs true fun c r => if r = true then do let ok ← isTrue c env (eval c env); pure (ForInStep.yield ok) else pure (ForInStep.yield r)

section
variable {C : Cx} {d : Md} {env : Env} {vs : Vs} {ns : Ns} {ρ : Lo} {H1 : MH} {s1 s2 : Shared} {A : Around} {E : Value → Shared → Prop} {sc : Scope} {tg : List Str} {X : XP}
  {elt it : Ex} {ifs : List Ex} {elt' it' t' : Expr} {ifs' : List Expr} {p : Pos} {iv : V} {all : List V} {I : Addr}

theorem comp_loop {ce : Env} {vs' : Vs} {ns' : Ns} {fenv : Env} {outer : List Env} {Dl : Addr} {stp : List V → MH → (Option V → MH → Prop) → Prop} {K : List V → MH → Prop} {R : Value → Addr → Result → Shared → Prop} {s0 : Shared} {n0 : Nat}
    (hst : ∀ vs H2 Q', stp vs H2 Q' → wpTs C d ifs (ρ ++ vs.map some) H2 (fun t H3 => if t = true then wpE C d elt (ρ ++ vs.map some) H3 (fun v H4 => Q' (some v) H4) X else Q' none H3) X)
    (ES' : EnvS ce vs' ns') (hfr : A.frames = some (fenv :: outer)) (hff : fenv.frame = ce.frame) (ok : Ok C d H1 A s1) (ht : tgt? t' = some tg) (hidx : chkTg vs' (List.range' ρ.length tg.length) tg = true)
    (hcl : ∀ j x, ρ.length ≤ j → vs'[j]? ≠ some (x, Vk.cel))
    (hT : ∀ s H ρ' (Q : Bool → MH → Prop), Ok C d H A s → FI C ce vs' ρ' H s.heap → wpTs C d ifs ρ' H Q X → wpAny C.M A (testsOf ifs' ce) (fun b s' => ∃ H', Step C No H s H' s' ∧ Q b H') (XQ false C No H s X) s)
    (hE : ∀ s H ρ' (Q : V → MH → Prop), Ok C d H A s → FI C ce vs' ρ' H s.heap → wpE C d elt ρ' H Q X → wpAny C.M A (eval elt' ce) (QP C H s Q) (XQ false C No H s X) s)
    (hq : Itq d iv) (hsz : all.length ≤ sizeLine) (hDl1 : s1.heap.get? Dl = none) (hCn1 : s1.heap.get? ce.locals = none) (hDC : Dl ≠ ce.locals) (hnew : ∀ b, DI I Dl ce.locals b → s1.heap.get? b = none) (hz : ∀ b, DI I Dl ce.locals b → C.h0.get? b = none)
    (hok : ∀ s' av Hc items, Step C (DI I Dl ce.locals) H1 s1 Hc s' → Hc Dl = none → Hc ce.locals = none → s'.heap.PlainList Dl items → VRs C s'.heap av items.toList →
      (∃ m, s'.heap.Ns ce.locals m) → K av Hc → R (.ref Dl) ce.locals (.ok .next) s')
    (herr : ∀ s' e, XG true C (DI I Dl ce.locals) H1 s1 (fun c H h => X c H ∧ H ce.locals = none ∧ ∃ m, h.Ns ce.locals m) e s' → R (.ref Dl) ce.locals (.error e) s')
    (h0' : ∃ i Hc av items, n0 = all.length - i ∧ i ≤ all.length ∧ Step C (DI I Dl ce.locals) H1 s1 Hc s0 ∧ ItAt C s0.heap iv I i ∧ (∀ b, DI I Dl ce.locals b → Hc b = none) ∧ s0.heap.PlainList Dl items ∧
      VRs C s0.heap av items.toList ∧ av.length ≤ i ∧ FI C ce vs' (ρ ++ List.replicate tg.length none) Hc s0.heap ∧
      wpC tg.length iv all stp (all.drop i) av Hc K) :
    codeAny C.M A (.compLoop (.ListComp elt' [⟨t', it', ifs', 0⟩] sc p) 0 (.ref I) (.ref Dl) ce) (R (.ref Dl) ce.locals) s0 := by
  refine compLoop_any (fun n s => ∃ i Hc av items, n = all.length - i ∧ i ≤ all.length ∧ Step C (DI I Dl ce.locals) H1 s1 Hc s ∧ ItAt C s.heap iv I i ∧ (∀ b, DI I Dl ce.locals b → Hc b = none) ∧ s.heap.PlainList Dl items ∧
    VRs C s.heap av items.toList ∧ av.length ≤ i ∧ FI C ce vs' (ρ ++ List.replicate tg.length none) Hc s.heap ∧
    wpC tg.length iv all stp (all.drop i) av Hc K)
    (fun n s hI => ?_) n0 h0'
  obtain ⟨i, Hc, av, items, hn, hi, st, hitc, hHc, hplc, rs, hsza, fic, Wc⟩ := hI
  have okc := ok.step st
  have exs : ∀ (s : Shared) (i : Nat) (items : Array Value) (Hc : MH) (ρ' : Lo), ItAt C s.heap iv I i → s.heap.PlainList Dl items → FI C ce vs' ρ' Hc s.heap →
      ∀ b, DI I Dl ce.locals b → ∃ o, s.heap.get? b = some o := fun s i items Hc ρ' x y z b hb => by
    rcases hb with rfl | rfl | rfl
    · obtain ⟨o, _, _, h1, _⟩ := x.there; exact ⟨o, h1⟩
    · obtain ⟨n, h1⟩ := y; exact ⟨_, h1⟩
    · obtain ⟨m, ⟨o, _, _, ho, _⟩, _⟩ := z.ns; exact ⟨o, ho⟩
  have err : ∀ (Hx : MH) (sx : Shared) (i : Nat) (items : Array Value) (ρ' : Lo), Step C (DI I Dl ce.locals) H1 s1 Hx sx → ItAt C sx.heap iv I i → sx.heap.PlainList Dl items → (∀ b, DI I Dl ce.locals b → Hx b = none) →
      FI C ce vs' ρ' Hx sx.heap → ∀ e s', XQ false C No Hx sx X e s' → notedBy C.M A ce (fun e s' => R (.ref Dl) ce.locals (.error e) s') e s' := by
    intro Hx sx i items ρ' stx itx plx hNx fix e s' hx
    have lifted : XG false C (DI I Dl ce.locals) H1 s1 (fun c H h => X c H ∧ H ce.locals = none ∧ ∃ m, h.Ns ce.locals m) e s' :=
      XG.lift stx hnew (exs sx i items Hx ρ' itx plx fix) (fun c H2 s2 st' hX => ⟨hX, (fix.stepN st').locH, let ⟨m, hm, _⟩ := (fix.stepN st').ns; ⟨m, hm⟩⟩) hNx hx
    have stable : StX C (fun c H h => X c H ∧ H ce.locals = none ∧ ∃ m, h.Ns ce.locals m) := fun c H sa sb D stD hrec hX => ⟨hX.1, hX.2.1, by
      obtain ⟨m, o, es, ep, ho, hd, r⟩ := hX.2.2
      have hnD : ¬ D ce.locals := fun q => by obtain ⟨vs, w⟩ := hrec ce.locals o q ho; rw [hd] at w; cases w
      obtain ⟨sl, w, _⟩ := stD.chg ce.locals o ho hX.2.1 hnD
      exact ⟨m, _, es, ep, w, hd, r⟩⟩
    refine wpAny_mono (note (fenv := fenv) (outer := outer) (env := ce) stable ok hfr hff (fun H' s' stl => ?_) lifted) (fun _ s'' h => herr s'' e h) fun e' s'' h => herr s'' e' h
    obtain ⟨l, hl', hfl⟩ := ok.frs
    rw [hfr] at hl'; cases hl'
    exact hfl.step stl
  have hIc : Hc I = none := hHc I (.inl rfl)
  have hI0 : C.h0.get? I = none := hz I (.inl rfl)
  have wid : ∀ {Hx : MH} {sa sb : Shared}, Step C (· = I) Hx sa Hx sb → Step C (DI I Dl ce.locals) Hx sa Hx sb := fun x => x.widen fun b e => .inl e
  rcases Nat.lt_or_ge i all.length with hlt | hge
  · -- one more item
    have hdrop : all.drop i = all[i] :: all.drop (i + 1) := List.drop_eq_getElem_cons hlt
    (rw [hdrop] at Wc; dsimp only [wpC] at Wc)
    obtain ⟨hitems, xs, hparts, Wx⟩ := Wc
    have Wx := hst _ _ _ Wx
    refine next_item okc hitc hIc hI0 hitems (x := all[i]) (by simp [hlt]) fun sb cv stb itb vrb => ?_
    have stB := st.trans (wid stb)
    have okb := okc.step stb
    have plb : sb.heap.PlainList Dl items := hplc.at fun o e => by
      obtain ⟨sl, w, q⟩ := stb.chg Dl o e (hHc Dl (.inr (.inl rfl))) (fun q => by
        obtain ⟨n, h1⟩ := hplc; obtain ⟨o2, T, ws, h2, _, _, _, h3⟩ := hitc.there
        rw [q, h2] at h1; cases h1; cases h3)
      obtain ⟨n, h1⟩ := hplc; rw [h1] at e; cases e
      rw [q (by intro es ep z; cases z)] at w; exact w
    have fib : FI C ce vs' (ρ ++ List.replicate tg.length none) Hc sb.heap := by
      refine fic.step stb (fun q => ?_) fun z c e q => ?_
      · obtain ⟨m, ⟨o, es, ep, ho, hd, _⟩, _⟩ := fic.ns; obtain ⟨o2, T, ws, h2, _, _, _, h3⟩ := hitc.there
        have q' : ce.locals = I := q
        have ho' : s.heap.get? ce.locals = some o := ho
        rw [q', h2] at ho'; cases ho'; rw [h3] at hd; cases hd
      · obtain ⟨_, _, oc, o, ho, hd⟩ := fic.cex z c e; obtain ⟨o2, T, ws, h2, _, _, _, h3⟩ := hitc.there
        rw [q, h2] at ho; cases ho; rw [h3] at hd; cases hd
    refine it_go itb ?_
    have hxl := parts_length hparts
    refine assign_tgt (idx := List.range' ρ.length tg.length) ES' ht ?_ okb fib vrb (by rw [List.length_range']; exact hparts) fun sc' stc fic' => ?_
    · exact hidx
    rw [← hxl, lss_new] at fic'
    have stc' : Step C (DI I Dl ce.locals) Hc sb Hc sc' := stc.widen fun b hb => by
      obtain ⟨j, hj, hb⟩ := hb
      rcases hb with ⟨_, e⟩ | ⟨x, e, _⟩
      · exact .inr (.inr e)
      · exfalso
        have hj' := List.mem_range'.mp hj
        obtain ⟨q, hq1, hq2⟩ := hj'
        exact hcl j x (by omega) e
    have stC := stB.trans stc'
    have okcc := okb.step stc'
    have itc : ItAt C sc'.heap iv I (i + 1) := by
      refine itb.step stc hIc fun hb => ?_
      obtain ⟨j, hj, hb⟩ := hb
      rcases hb with ⟨_, e⟩ | ⟨x, e, e2⟩
      · obtain ⟨m, ⟨o, es, ep, ho, hd, _⟩, _⟩ := fib.ns; obtain ⟨o2, T, ws, h2, _, _, _, h3⟩ := itb.there
        rw [← e, h2] at ho; cases ho; rw [h3] at hd; cases hd
      · obtain ⟨_, _, oc, o, ho, hd⟩ := fib.cex x I e2; obtain ⟨o2, T, ws, h2, _, _, _, h3⟩ := itb.there
        rw [h2] at ho; cases ho; rw [h3] at hd; cases hd
    have plstep : ∀ {Hx Hy : MH} {sa sb : Shared} {D : Addr → Prop} {its : Array Value}, sa.heap.PlainList Dl its → Step C D Hx sa Hy sb → Hx Dl = none → ¬ D Dl → sb.heap.PlainList Dl its := fun x y hx nd => x.at fun o e => by
      obtain ⟨sl, w, q⟩ := y.chg Dl o e hx nd
      obtain ⟨n, h1⟩ := x; rw [h1] at e; cases e
      rw [q (by intro es ep z; cases z)] at w; exact w
    have plc' : sc'.heap.PlainList Dl items := by
      refine plstep plb stc (hHc Dl (.inr (.inl rfl))) fun hb => ?_
      obtain ⟨j, hj, hb⟩ := hb
      obtain ⟨n, h1⟩ := plb
      rcases hb with ⟨_, e⟩ | ⟨x, e, e2⟩
      · exact hDC e
      · obtain ⟨_, _, oc, o, ho, hd⟩ := fib.cex x Dl e2
        rw [h1] at ho; cases ho; cases hd
    have rsc : VRs C sc'.heap av items.toList := rs.keep (stb.vk.trans stc.vk)
    refine wpAny_mono (hT sc' Hc _ _ okcc fic' Wx) (fun b s3 hb => ?_) fun e s' he => err Hc sc' (i + 1) items _ stC itc plc' hHc fic' e s' he
    obtain ⟨H3, st3, Q3⟩ := hb
    have gone3 : ∀ b, DI I Dl ce.locals b → H3 b = none := fun b hb => by
      obtain ⟨o, w⟩ := exs sc' (i + 1) items Hc _ itc plc' fic' b hb
      exact st3.gone w (hHc b hb)
    have stD := stC.trans (st3.weaken (exs sc' (i + 1) items Hc _ itc plc' fic'))
    have it3 := itc.step st3 hIc (fun f => f)
    have pl3 := plstep plc' st3 (hHc Dl (.inr (.inl rfl))) (fun f => f)
    have fi3 := fic'.stepN st3
    have rs3 := rsc.keep st3.vk
    cases b with
    | false =>
      rw [if_neg (by decide)]
      rw [if_neg (by decide)] at Q3
      refine ⟨all.length - (i + 1), by omega, i + 1, H3, av, items, rfl, hlt, stD, it3, gone3, pl3, rs3, by omega, fi3.forget (by simpa using hxl), ?_⟩
      simpa using Q3
    | true =>
      rw [if_pos rfl]
      rw [if_pos rfl] at Q3
      refine wpAny_mono (hE s3 H3 _ _ (okcc.step st3) fi3 Q3) (fun cv s4 hb => ?_) fun e s' he => err H3 s3 (i + 1) items _ stD it3 pl3 gone3 fi3 e s' he
      obtain ⟨v, H4, st4, vr4, Q4⟩ := hb
      have gone4 : ∀ b, DI I Dl ce.locals b → H4 b = none := fun b hb => by
        obtain ⟨o, w⟩ := exs s3 (i + 1) items H3 _ it3 pl3 fi3 b hb
        exact st4.gone w (gone3 b hb)
      have stE := stD.trans (st4.weaken (exs s3 (i + 1) items H3 _ it3 pl3 fi3))
      have it4 := it3.step st4 (gone3 I (.inl rfl)) (fun f => f)
      have pl4 := plstep pl3 st4 (gone3 Dl (.inr (.inl rfl))) (fun f => f)
      have fi4 := fi3.stepN st4
      have rs4 := rs3.keep st4.vk
      have hszi : items.size ≤ sizeLine := by
        have := rs4.length; simp at this; omega
      have ok4 := (okcc.step st3).step st4
      refine wpAny_list_append_plain pl4 (fun h5 pl5 sb5 => ?_) hszi
      have st5 : Step C (· = Dl) H4 s4 H4 { s4 with heap := h5 } := by
        obtain ⟨n, h1⟩ := pl4
        refine Step.but ok4.rel ok4.top (fun b o e nb => (sb5.2 b nb).trans e) (fun b e => e ▸ gone4 Dl (.inr (.inl rfl))) (fun b e => e ▸ hz Dl (.inr (.inl rfl))) (fun b o e q => ?_) (fun b o es ep e q z => ?_) rfl rfl
        · subst q; rw [h1] at e; cases e; exact .inr (.inr ⟨"list", rfl, by decide, by decide⟩)
        · subst q; rw [h1] at e; cases e; cases z
      have stF := stE.trans (st5.widen (D' := DI I Dl ce.locals) fun b e => .inr (.inl e))
      have hIDl : I ≠ Dl := by
        rintro rfl
        obtain ⟨n, h1⟩ := pl4; obtain ⟨o2, T, ws, h2, _, _, _, h3⟩ := it4.there
        rw [h2] at h1; cases h1; cases h3
      refine ⟨all.length - (i + 1), by omega, i + 1, H4, av ++ [v], items.push cv, rfl, hlt, stF, it4.step st5 (gone4 I (.inl rfl)) hIDl, gone4, pl5, ?_, by simp; omega, ?_, ?_⟩
      · rw [Array.toList_push]
        exact (rs4.keep st5.vk).append (VRs.cons (vr4.keep st5.vk) VRs.nil)
      · refine (fi4.step st5 (fun q => hDC q.symm) fun z c e q => ?_).forget (by simpa using hxl)
        obtain ⟨_, _, oc, o, ho, hd⟩ := fi4.cex z c e
        obtain ⟨n, h1⟩ := pl4
        rw [q, h1] at ho; cases ho; cases hd
      · simpa using Q4
  · -- the end
    have hdrop : all.drop i = [] := by simp; omega
    (rw [hdrop] at Wc; dsimp only [wpC] at Wc)
    refine next_end okc hq hitc hIc hI0 Wc.1 hge fun sb stb => ?_
    have plb : sb.heap.PlainList Dl items := hplc.at fun o e => by
      obtain ⟨sl, w, q⟩ := stb.chg Dl o e (hHc Dl (.inr (.inl rfl))) (fun q => by
        obtain ⟨n, h1⟩ := hplc; obtain ⟨o2, T, ws, h2, _, _, _, h3⟩ := hitc.there
        rw [q, h2] at h1; cases h1; cases h3)
      obtain ⟨n, h1⟩ := hplc; rw [h1] at e; cases e
      rw [q (by intro es ep z; cases z)] at w; exact w
    refine hok sb av Hc items (st.trans (wid stb)) (hHc _ (.inr (.inl rfl))) (hHc _ (.inr (.inr rfl))) plb (rs.keep stb.vk) ?_ Wc.2
    obtain ⟨m, hm, _⟩ := fic.ns
    refine ⟨m, Ns.slots hm fun o ho => ?_⟩
    have hCI : ¬ ce.locals = I := fun q => by
      obtain ⟨o2, T, ws, h2, _, _, _, h3⟩ := hitc.there
      obtain ⟨o', es, ep, ho', hd, _⟩ := hm
      have ho'' : s.heap.get? ce.locals = some o' := ho'
      rw [q, h2] at ho''; cases ho''; rw [h3] at hd; cases hd
    obtain ⟨sl, w, _⟩ := stb.chg ce.locals o ho (hHc _ (.inr (.inr rfl))) hCI
    exact ⟨sl, w⟩

theorem comp_core (ES : EnvS env vs ns) (ea : EA A env) (ok : Ok C d H1 A s1) (fi : FI C env vs ρ H1 s1.heap)
    (ht : tgt? t' = some tg) (hl : ∀ x ∈ tg, sc.names.lookup x = some .local) (nd : tg.Nodup) (hk : sc.kind = .function) (hnc : ∀ x ∈ sc.names, x.2 ≠ .cell)
    (hf : ∀ x ∈ sc.names, x.2 = .free → (env.cells.lookup x.1).isSome = true)
    (hT : ∀ env' s H ρ' (Q : Bool → MH → Prop), EnvS env' (innerVs vs (relab sc.names ns) tg) (relab sc.names ns) → EA A env' → Ok C d H A s → FI C env' (innerVs vs (relab sc.names ns) tg) ρ' H s.heap → wpTs C d ifs ρ' H Q X →
      wpAny C.M A (testsOf ifs' env') (fun b s' => ∃ H', Step C No H s H' s' ∧ Q b H') (XQ false C No H s X) s)
    (hE : ∀ env' s H ρ' (Q : V → MH → Prop), EnvS env' (innerVs vs (relab sc.names ns) tg) (relab sc.names ns) → EA A env' → Ok C d H A s → FI C env' (innerVs vs (relab sc.names ns) tg) ρ' H s.heap → wpE C d elt ρ' H Q X →
      wpAny C.M A (eval elt' env') (QP C H s Q) (XQ false C No H s X) s)
    {K : List V → MH → Prop} (hq : Itq d iv) (hsz : all.length ≤ sizeLine)
    (W : wpC tg.length iv all (fun vs H2 Q' => wpTs C d ifs (ρ ++ vs.map some) H2 (fun t H3 => if t = true then wpE C d elt (ρ ++ vs.map some) H3 (fun v H4 => Q' (some v) H4) X else Q' none H3) X) all [] H1 K)
    (st2 : Step C No H1 s1 H1 s2) (hI1 : s1.heap.get? I = none) (hit : ItAt C s2.heap iv I 0)
    {R : Value → Addr → Result → Shared → Prop}
    (hok : ∀ Dl Cn s' av Hc items, Step C (DI I Dl Cn) H1 s1 Hc s' → s1.heap.get? Dl = none → s1.heap.get? Cn = none → Dl ≠ Cn → Hc Dl = none → Hc Cn = none → s'.heap.PlainList Dl items → VRs C s'.heap av items.toList →
      (∃ m, s'.heap.Ns Cn m) → K av Hc → R (.ref Dl) Cn (.ok .next) s')
    (herr : ∀ Dl Cn s' e, s1.heap.get? Dl = none → s1.heap.get? Cn = none → XG true C (DI I Dl Cn) H1 s1 (fun c H h => X c H ∧ H Cn = none ∧ ∃ m, h.Ns Cn m) e s' → R (.ref Dl) Cn (.error e) s') :
    wpAny C.M A (newList []) (fun acc s3 => wpAny C.M A (newFunctionEnv sc env.globals (closA env sc.names []) [] env.qual none .none (some env)) (fun cenv s4 =>
      codeAny C.M A (.compStart (.ListComp elt' [⟨t', it', ifs', 0⟩] sc p) 0 (.ref I) acc { cenv with scope := relabel sc env }) (R acc cenv.locals) s4) E s3) E s2 := by
  have ok2 := ok.step st2
  refine wpAny_newObj_type (wpAny_newFunctionEnv hnc (by intro y hy; simp at hy) (fun h₁ hns₁ hsb₁ => ?_) hk)
  dsimp only at hns₁ hsb₁ ⊢
  generalize hDl : s2.heap.objs.size = Dl at *
  generalize hP : s2.heap.push { cls := .type "list", dict := none, data := .seq ([] : List Value).toArray } = P at *
  generalize hCn : P.objs.size = Cn at *
  have hCn' : Cn = Dl + 1 := by rw [← hCn, ← hP, Heap.size_push, hDl]
  have hDC : Dl ≠ Cn := by omega
  have k2 : ∀ b o, s2.heap.get? b = some o → h₁.get? b = some o := fun b o e => by
    have hb : b < Dl := hDl ▸ Heap.lt_size e
    rw [hsb₁.2 b (hCn' ▸ Nat.ne_of_lt (Nat.lt_succ_of_lt hb))]
    exact Heap.get?_push_of_some _ (hP ▸ Heap.get?_push_of_some _ e)
  have hDl2 : s2.heap.get? Dl = none := hDl ▸ fresh_size _
  have hCn2 : s2.heap.get? Cn = none := by
    cases q : s2.heap.get? Cn with
    | none => rfl
    | some o => have := Heap.lt_size q; rw [hDl, hCn'] at this; exact absurd this (Nat.not_lt.mpr (Nat.le_succ _))
  have hDl1 := old_of st2 hDl2
  have hCn1 := old_of st2 hCn2
  have hpl : h₁.PlainList Dl #[] := ⟨0, by
    rw [hsb₁.2 Dl hDC]
    exact Heap.get?_push_of_some _ (hP ▸ hDl ▸ Heap.get?_push_size _ rfl)⟩
  obtain ⟨fenv, outer, hfr, hff⟩ := ea
  have stA : Step C No H1 s2 H1 { s2 with heap := h₁, toks := s2.toks + ([] : List (Str × Value)).length } := Step.keeps ok2.rel ok2.top k2 rfl rfl
  have st0 := st2.trans stA
  generalize hs0 : ({ s2 with heap := h₁, toks := s2.toks + ([] : List (Str × Value)).length } : Shared) = s0 at *
  have hh0 : s0.heap = h₁ := by rw [← hs0]
  have hnew : ∀ b, DI I Dl Cn b → s1.heap.get? b = none := fun b hb => by
    rcases hb with rfl | rfl | rfl
    · exact hI1
    · exact hDl1
    · exact hCn1
  have hH : ∀ b, DI I Dl Cn b → H1 b = none := fun b hb => ok.rel.fresh (hnew b hb)
  have hz : ∀ b, DI I Dl Cn b → C.h0.get? b = none := fun b hb => fresh_top ok.top (hnew b hb)
  have hit0 : ItAt C s0.heap iv I 0 := hit.step stA (ok.rel.fresh hI1) (fun f => f)
  have ES' : EnvS (compEnvC sc (closA env sc.names []) Cn env) (innerVs vs (relab sc.names ns) tg) (relab sc.names ns) := comp_envS ES hk hl nd hf
  have fi0 : FI C (compEnvC sc (closA env sc.names []) Cn env) (innerVs vs (relab sc.names ns) tg) (ρ ++ List.replicate tg.length none) H1 s0.heap :=
    comp_fi ES (fi.stepN st0) hnc hf (hH _ (.inr (.inr rfl))) (hz _ (.inr (.inr rfl))) (by rw [hh0]; exact hns₁)
  have e0 : Step C (DI I Dl Cn) H1 s1 H1 s0 := { st0 with chg := fun b o e n _ => st0.chg b o e n (fun f => f), dn := fun b hb _ => hH b hb }
  have loop := comp_loop (ce := compEnvC sc (closA env sc.names []) Cn env) (vs' := innerVs vs (relab sc.names ns) tg) (ns' := relab sc.names ns) (fenv := fenv) (outer := outer) (Dl := Dl) (R := R) (s0 := s0) (n0 := all.length) (sc := sc) (p := p) (it' := it') (elt' := elt') (ifs' := ifs') (t' := t') (I := I)
    (fun _ _ _ h => h) ES' hfr hff ok ht (by
      rw [fi.len]
      have := chkTg_inner (vs := vs) (inner := relab sc.names ns) (tg := tg) (l := tg) (n := 0) (fun j => by simp)
      simpa using this) (fun j x hj e => by
      have := (inner_ge e (by rw [← fi.len]; omega)).1; cases this) (fun s H ρ' Q o f w => hT _ s H ρ' Q ES' ⟨fenv, outer, hfr, hff⟩ o f w) (fun s H ρ' Q o f w => hE _ s H ρ' Q ES' ⟨fenv, outer, hfr, hff⟩ o f w) hq hsz hDl1 hCn1 hDC hnew hz
      (fun s' av Hc items a1 a2 a3 a4 a5 a6 a7 => hok Dl Cn s' av Hc items a1 hDl1 hCn1 hDC a2 a3 a4 a5 a6 a7) (fun s' e x => herr Dl Cn s' e hDl1 hCn1 x)
      ⟨0, H1, [], #[], by simp, Nat.zero_le _, e0, hit0, hH, by rw [hh0]; exact hpl, by simpa using VRs.nil, Nat.le_refl _, fi0, by simpa using W⟩
  exact codeAny_compStart_list loop (iter_self hit0 loop)
end
end Vc
end

section
set_option autoImplicit false
set_option linter.unusedVariables false
namespace Vc
open PySem

theorem starEach_cons {e : Expr} {es : List Expr} {env : Env} (h : ∀ x p, e ≠ .Starred x p) : starEach (e :: es) env = (false, eval e env) :: starEach es env := by
  cases e <;> first | rfl | exact absurd rfl (h _ _)
theorem backTo_cons {pos : Pos} {t : Sem Value} {l : List (Bool × Sem Value)} : backTo pos ((false, t) :: l) = (false, t) :: backTo pos l := rfl

section
variable {C : Cx} {d : Md} {env : Env} {vs : Vs} {ns : Ns} {ρ : Lo} {H H1 H' : MH} {s s1 s' : Shared} {A : Around} {X : XP} {Q : V → MH → Prop}

noncomputable def SndE (C : Cx) (d : Md) (e : Ex) (e' : Expr) (vs : Vs) (ns : Ns) : Prop :=
  ∀ env A s ρ H Q X, EnvS env vs ns → EA A env → Ok C d H A s → FI C env vs ρ H s.heap → wpE C d e ρ H Q X → wpAny C.M A (eval e' env) (QP C H s Q) (XQ false C No H s X) s
noncomputable def SndT (C : Cx) (d : Md) (e : Ex) (e' : Expr) (vs : Vs) (ns : Ns) : Prop :=
  ∀ env A s ρ H (Q : Bool → MH → Prop) X, EnvS env vs ns → EA A env → Ok C d H A s → FI C env vs ρ H s.heap → wpT C d e ρ H Q X → wpAny C.M A (isTrue e' env (eval e' env)) (fun b s' => ∃ H', Step C No H s H' s' ∧ Q b H') (XQ false C No H s X) s
noncomputable def SndEs (C : Cx) (d : Md) (es : List Ex) (es' : List Expr) (vs : Vs) (ns : Ns) : Prop :=
  ∀ env A s ρ H (Q : List V → MH → Prop) X pos, EnvS env vs ns → EA A env → Ok C d H A s → FI C env vs ρ H s.heap → wpEs C d es ρ H Q X →
    wpAny C.M A (spliced (backTo pos (starEach es' env))) (fun cvs s' => ∃ xs H', Step C No H s H' s' ∧ VRs C s'.heap xs cvs ∧ Q xs H') (XQ false C No H s X) s

theorem snd_bin {op : Operator} {l r : Ex} {l' r' : Expr} {p : Pos} (hl : SndE C d l l' vs ns) (hr : SndE C d r r' vs ns) : SndE C d (.bin op l r) (.BinOp l' op r' p) vs ns := by
  intro env A s ρ H Q X ES ea ok fi W
  dsimp only [wpE] at W
  refine wpAny_BinOp (wpAny_mono (hl env A s ρ H _ X ES ea ok fi W) (fun a s1 ⟨va, H1, st1, r1, W1⟩ => ?_) fun _ _ h => h)
  refine wpAny_mono (hr env A s1 ρ H1 _ X ES ea (ok.step st1) (fi.stepN st1) W1) (fun b s2 ⟨vb, H2, st2, r2, W2⟩ => ?_) fun _ _ h => h.back st1
  have st := st1.trans st2
  exact wpAny_mono (W2 A s2 a b (ok.step st) (r1.keep st2.vk) r2) (fun _ _ h => h.back st) fun _ _ h => h.back st

theorem snd_una {op : UnaryOp} {e : Ex} {e' : Expr} {p : Pos} (he : SndE C d e e' vs ns) : SndE C d (.una op e) (.UnaryOp op e' p) vs ns := by
  intro env A s ρ H Q X ES ea ok fi W
  dsimp only [wpE] at W
  rw [arm_eval_UnaryOp]
  refine wpAny_bind (wpAny_mono (he env A s ρ H _ X ES ea ok fi W) (fun a s1 ⟨va, H1, st1, r1, W1⟩ => ?_) fun _ _ h => h)
  exact wpAny_bind (wpAny_standAt (wpAny_holding (wpAny_mono (W1 A s1 a (ok.step st1) r1) (fun _ _ h => h.back st1) fun _ _ h => h.back st1)))

theorem marks_false {op : CmpOp} {e : Expr} (h : notSet e = true) : behindInMarks op e = false := by
  cases e <;> first | rfl | (exact (Bool.false_ne_true h).elim)

theorem snd_cmp {op : CmpOp} {l r : Ex} {l' r' : Expr} {p : Pos} (hs : notSet r' = true) (hl : SndE C d l l' vs ns) (hr : SndE C d r r' vs ns) : SndE C d (.cmp op l r) (.Compare l' [op] [r'] p) vs ns := by
  intro env A s ρ H Q X ES ea ok fi W
  dsimp only [wpE] at W
  refine wpAny_Compare1 (wpAny_mono (hl env A s ρ H _ X ES ea ok fi W) (fun a s1 ⟨va, H1, st1, r1, W1⟩ => ?_) fun _ _ h => h) (marks_false hs)
  refine wpAny_mono (hr env A s1 ρ H1 _ X ES ea (ok.step st1) (fi.stepN st1) W1) (fun b s2 ⟨vb, H2, st2, r2, W2⟩ => ?_) fun _ _ h => h.back st1
  have st := st1.trans st2
  exact wpAny_mono (W2 A s2 a b (ok.step st) (r1.keep st2.vk) r2) (fun _ _ h => h.back st) fun _ _ h => h.back st

theorem sndT_cmp {op : CmpOp} {l r : Ex} {l' r' : Expr} {p : Pos} (hs : notSet r' = true) (hl : SndE C d l l' vs ns) (hr : SndE C d r r' vs ns) : SndT C d (.cmp op l r) (.Compare l' [op] [r'] p) vs ns := by
  intro env A s ρ H Q X ES ea ok fi W
  dsimp only [wpT] at W
  · refine wpAny_isTrue_Compare1 (wpAny_mono (hl env A s ρ H _ X ES ea ok fi W) (fun a s1 ⟨va, H1, st1, r1, W1⟩ => ?_) fun _ _ h => h) (marks_false hs)
    refine wpAny_mono (hr env A s1 ρ H1 _ X ES ea (ok.step st1) (fi.stepN st1) W1) (fun b s2 ⟨vb, H2, st2, r2, W2⟩ => ?_) fun _ _ h => h.back st1
    have st := st1.trans st2
    refine wpAny_mono (W2 A s2 a b (ok.step st) (r1.keep st2.vk) r2) (fun c s3 ⟨vc, H3, st3, r3, W3⟩ => ?_) fun _ _ h => h.back st
    have st' := st.trans st3
    exact wpAny_mono (W3 A s3 c (ok.step st') r3) (fun b s4 ⟨H4, st4, W4⟩ => ⟨H4, st'.trans st4, W4⟩) fun _ _ h => h.back st'
  all_goals (intros; rename_i h; cases h)

theorem chain2 {env : Env} {l m r : Expr} {o1 o2 : CmpOp} {p : Pos} (hs : notSet r = true) : eval (.Compare l [o1, o2] [m, r] p) env = (do
    let a ← eval l env
    let b ← holding [a] (eval m env)
    standAt p
    let c ← holding [a, b] (compareOp o1 a b)
    release [a, b] [c]
    if ← holding [c, b] (truthy c) then do
      let b' ← holding [b] (eval r env)
      standAt p
      operate [b, b'] (compareOp o2 b b')
    else pure c) := by
  rw [arm_eval_Compare]
  have : markedEach [o1, o2] [m, r] (evalEach [m, r] env) = [eval m env, eval r env] := by
    show [eval m env, markedBehindIn o2 r (eval r env)] = _
    rw [markedBehindIn_of_false (marks_false hs)]
  rw [this]
  rfl
theorem testChain2 {env : Env} {l m r : Expr} {o1 o2 : CmpOp} {p : Pos} {t : Sem Value} (hs : notSet r = true) : isTrue (.Compare l [o1, o2] [m, r] p) env t = (do
    let a ← eval l env
    let b ← holding [a] (eval m env)
    standAt p
    let c ← holding [a, b] (compareOp o1 a b)
    release [a, b] [c]
    if ← holding [c, b] (truthy c) then do
      let b' ← holding [b] (eval r env)
      standAt p
      let c' ← operate [b, b'] (compareOp o2 b b')
      holding [c'] (truthy c')
    else pure false) := by
  show (do testChain p (← eval l env) [o1, o2] (markedEach [o1, o2] [m, r] (evalEach [m, r] env))) = _
  have : markedEach [o1, o2] [m, r] (evalEach [m, r] env) = [eval m env, eval r env] := by
    show [eval m env, markedBehindIn o2 r (eval r env)] = _
    rw [markedBehindIn_of_false (marks_false hs)]
  rw [this]
  rfl

theorem snd_cmp2 {o1 o2 : CmpOp} {l m r : Ex} {l' m' r' : Expr} {p : Pos} (hs : notSet r' = true) (hl : SndE C d l l' vs ns) (hm : SndE C d m m' vs ns) (hr : SndE C d r r' vs ns) :
    SndE C d (.cmp2 o1 o2 l m r) (.Compare l' [o1, o2] [m', r'] p) vs ns := by
  intro env A s ρ H Q X ES ea ok fi W
  dsimp only [wpE] at W
  rw [chain2 hs]
  refine wpAny_bind (wpAny_mono (hl env A s ρ H _ X ES ea ok fi W) (fun a s1 ⟨va, H1, st1, r1, W1⟩ => ?_) fun _ _ h => h)
  refine wpAny_bind (wpAny_holding (wpAny_mono (hm env A s1 ρ H1 _ X ES ea (ok.step st1) (fi.stepN st1) W1) (fun b s2 ⟨vb, H2, st2, r2, W2⟩ => ?_) fun _ _ h => h.back st1))
  have st := st1.trans st2
  refine wpAny_bind (wpAny_standAt (wpAny_bind (wpAny_holding (wpAny_mono (W2 A s2 a b (ok.step st) (r1.keep st2.vk) r2) (fun c s3 ⟨vc, H3, st3, r3, W3⟩ => ?_) fun _ _ h => h.back st))))
  have st' := st.trans st3
  refine wpAny_bind (wpAny_release (wpAny_bind (wpAny_holding (wpAny_mono (W3 A s3 c (ok.step st') r3) (fun t s4 ⟨H4, st4, W4⟩ => ?_) fun _ _ h => h.back st'))))
  have st'' := st'.trans st4
  cases t with
  | false => rw [if_neg (by decide)] at W4 ⊢; exact wpAny_pure ⟨vc, H4, st'', r3.keep st4.vk, W4⟩
  | true =>
    rw [if_pos rfl] at W4 ⊢
    refine wpAny_bind (wpAny_holding (wpAny_mono (hr env A s4 ρ H4 _ X ES ea (ok.step st'') (fi.stepN st'') W4) (fun b' s5 ⟨vb', H5, st5, r5, W5⟩ => ?_) fun _ _ h => h.back st''))
    have st5' := st''.trans st5
    exact wpAny_bind (wpAny_standAt (wpAny_operateT (wpAny_mono (W5 A s5 b b' (ok.step st5') ((r2.keep (st3.vk.trans st4.vk)).keep st5.vk) r5) (fun _ _ h => h.back st5') fun _ _ h => h.back st5')))

theorem sndT_cmp2 {o1 o2 : CmpOp} {l m r : Ex} {l' m' r' : Expr} {p : Pos} (hs : notSet r' = true) (hl : SndE C d l l' vs ns) (hm : SndE C d m m' vs ns) (hr : SndE C d r r' vs ns) :
    SndT C d (.cmp2 o1 o2 l m r) (.Compare l' [o1, o2] [m', r'] p) vs ns := by
  intro env A s ρ H Q X ES ea ok fi W
  dsimp only [wpT] at W
  rw [testChain2 hs]
  refine wpAny_bind (wpAny_mono (hl env A s ρ H _ X ES ea ok fi W) (fun a s1 ⟨va, H1, st1, r1, W1⟩ => ?_) fun _ _ h => h)
  refine wpAny_bind (wpAny_holding (wpAny_mono (hm env A s1 ρ H1 _ X ES ea (ok.step st1) (fi.stepN st1) W1) (fun b s2 ⟨vb, H2, st2, r2, W2⟩ => ?_) fun _ _ h => h.back st1))
  have st := st1.trans st2
  refine wpAny_bind (wpAny_standAt (wpAny_bind (wpAny_holding (wpAny_mono (W2 A s2 a b (ok.step st) (r1.keep st2.vk) r2) (fun c s3 ⟨vc, H3, st3, r3, W3⟩ => ?_) fun _ _ h => h.back st))))
  have st' := st.trans st3
  refine wpAny_bind (wpAny_release (wpAny_bind (wpAny_holding (wpAny_mono (W3 A s3 c (ok.step st') r3) (fun t s4 ⟨H4, st4, W4⟩ => ?_) fun _ _ h => h.back st'))))
  have st'' := st'.trans st4
  cases t with
  | false => rw [if_neg (by decide)] at W4 ⊢; exact wpAny_pure ⟨H4, st'', W4⟩
  | true =>
    rw [if_pos rfl] at W4 ⊢
    refine wpAny_bind (wpAny_holding (wpAny_mono (hr env A s4 ρ H4 _ X ES ea (ok.step st'') (fi.stepN st'') W4) (fun b' s5 ⟨vb', H5, st5, r5, W5⟩ => ?_) fun _ _ h => h.back st''))
    have st5' := st''.trans st5
    refine wpAny_bind (wpAny_standAt (wpAny_bind (wpAny_operateT (wpAny_mono (W5 A s5 b b' (ok.step st5') ((r2.keep (st3.vk.trans st4.vk)).keep st5.vk) r5) (fun c' s6 ⟨vc', H6, st6, r6, W6⟩ => ?_) fun _ _ h => h.back st5'))))
    have st6' := st5'.trans st6
    exact wpAny_holding (wpAny_mono (W6 A s6 c' (ok.step st6') r6) (fun b s7 ⟨H7, st7, W7⟩ => ⟨H7, st6'.trans st7, W7⟩) fun _ _ h => h.back st6')

theorem snd_ife {c a b : Ex} {c' a' b' : Expr} {p : Pos} (hc : SndT C d c c' vs ns) (ha : SndE C d a a' vs ns) (hb : SndE C d b b' vs ns) : SndE C d (.ife c a b) (.IfExp c' a' b' p) vs ns := by
  intro env A s ρ H Q X ES ea ok fi W
  dsimp only [wpE] at W
  refine wpAny_IfExp (wpAny_mono (hc env A s ρ H _ X ES ea ok fi W) (fun t s1 ⟨H1, st1, W1⟩ => ?_) fun _ _ h => h)
  cases t with
  | true => rw [if_pos rfl] at W1 ⊢; exact wp_back st1 (ha env A s1 ρ H1 _ X ES ea (ok.step st1) (fi.stepN st1) W1)
  | false => rw [if_neg (by decide)] at W1 ⊢; exact wp_back st1 (hb env A s1 ρ H1 _ X ES ea (ok.step st1) (fi.stepN st1) W1)

theorem new_list {vs' : List V} {cvs : List Value} {Q : V → MH → Prop} {E : Value → Shared → Prop} (ok : Ok C d H A s) (r : VRs C s.heap vs' cvs) (W : NewL vs' H Q) : wpAny C.M A (newList cvs) (QP C H s Q) E s := by
  have hl := r.length
  refine wpAny_newObj_type ?_ (by show cvs.toArray.size ≤ sizeLine; simp; have := W.1; omega)
  have hf : H s.heap.objs.size = none := ok.rel.fresh (fresh_size _)
  have k : VK s.heap (s.heap.push { cls := .type "list", data := .seq cvs.toArray }) := .of_keeps fun b o e => Heap.get?_push_of_some _ e
  have st : Step C No H s (upd H s.heap.objs.size (.lst vs')) { s with heap := s.heap.push { cls := .type "list", dict := none, data := .seq cvs.toArray } } :=
    Step.alloc ok.rel ok.top ⟨fresh_top ok.top (fresh_size _), cvs.toArray, ⟨0, Heap.get?_push_size _ rfl⟩, by simpa using r.keep k⟩ rfl rfl rfl
  exact ⟨.ref s.heap.objs.size, _, st, by rw [VR], W.2 _ hf⟩
theorem new_tuple {vs' : List V} {cvs : List Value} {Q : V → MH → Prop} {E : Value → Shared → Prop} (ok : Ok C d H A s) (r : VRs C s.heap vs' cvs) (W : NewT vs' H Q) : wpAny C.M A (newTuple cvs) (QP C H s Q) E s := by
  have hl := r.length
  refine wpAny_newObj_type ?_ (by show cvs.toArray.size ≤ sizeLine; simp; have := W.1; omega)
  have st : Step C No H s H { s with heap := s.heap.push { cls := .type "tuple", dict := none, data := .seq cvs.toArray } } := Step.keeps ok.rel ok.top (fun b o e => Heap.get?_push_of_some _ e) rfl rfl
  refine ⟨.tup vs', H, st, ?_, W.2⟩
  dsimp only [VR]
  exact ⟨_, cvs.toArray, rfl, ⟨_, Heap.get?_push_size _ rfl, rfl, 0, rfl⟩, by simpa using r.keep st.vk⟩

theorem snd_lst {es : List Ex} {es' : List Expr} {p : Pos} (he : SndEs C d es es' vs ns) : SndE C d (.lst es) (.List es' p) vs ns := by
  intro env A s ρ H Q X ES ea ok fi W
  dsimp only [wpE] at W
  rw [arm_eval_List]
  refine wpAny_bind (wpAny_standAt (wpAny_bind (wpAny_mono (he env A s ρ H _ X p ES ea ok fi W) (fun cvs s1 ⟨xs, H1, st1, r1, W1⟩ => ?_) fun _ _ h => h)))
  exact wpAny_mono (new_list (E := fun _ _ => False) (ok.step st1) r1 W1) (fun _ _ h => h.back st1) fun _ _ h => h.elim
theorem snd_tup {es : List Ex} {es' : List Expr} {k : Nat} {p : Pos} (he : SndEs C d es es' vs ns) : SndE C d (.tup es) (.Tuple es' k p) vs ns := by
  intro env A s ρ H Q X ES ea ok fi W
  dsimp only [wpE] at W
  rw [arm_eval_Tuple]
  refine wpAny_bind (wpAny_standAt (wpAny_bind (wpAny_mono (he env A s ρ H _ X p ES ea ok fi W) (fun cvs s1 ⟨xs, H1, st1, r1, W1⟩ => ?_) fun _ _ h => h)))
  exact wpAny_mono (new_tuple (E := fun _ _ => False) (ok.step st1) r1 W1) (fun _ _ h => h.back st1) fun _ _ h => h.elim

theorem not_sys (G : C.Good) (ok : Ok C d H A s) : s.heap.objs.size ≠ sysModules := by
  obtain ⟨mc, ⟨o, _, _, ho, _⟩, _⟩ := G.nolimit
  have := Heap.lt_size (ok.top _ _ ho)
  intro e
  rw [e] at this
  exact absurd this (by decide)

theorem snd_emp {k : Nat} {p : Pos} (G : C.Good) : SndE C d (.emp k) (.Dict [] [] p) vs ns := by
  intro env A s ρ H Q X ES ea ok fi W
  dsimp only [wpE] at W
  refine wpAny_Dict_empty ?_
  have hf : H s.heap.objs.size = none := ok.rel.fresh (fresh_size _)
  have h0 := fresh_top ok.top (fresh_size s.heap)
  have W' := W _ hf
  match k with
  | 0 =>
    refine ⟨.ref s.heap.objs.size, _, Step.alloc (o := .dci []) ok.rel ok.top ⟨h0, not_sys G ok, [], ⟨_, #[], 0, Heap.get?_push_size _ rfl, ⟨rfl, rfl, rfl⟩, rfl, fun _ he => by simp at he, .nil, by simp⟩, rfl, VRs.nil⟩ rfl rfl rfl, by rw [VR], W'⟩
  | k + 1 =>
    refine ⟨.ref s.heap.objs.size, _, Step.alloc (o := .dcs []) ok.rel ok.top ⟨h0, not_sys G ok, [], ⟨_, #[], 0, Heap.get?_push_size _ rfl, ⟨rfl, rfl, rfl⟩, rfl, fun _ he => by simp at he, .nil, by simp⟩, rfl, VRs.nil⟩ rfl rfl rfl, by rw [VR], W'⟩
end
end Vc
end

section
set_option autoImplicit false
set_option linter.unusedVariables false
namespace Vc
open PySem

section
variable {C : Cx} {d : Md} {env : Env} {vs : Vs} {ns : Ns} {ρ : Lo} {H H1 H' : MH} {s s1 s' : Shared} {A : Around} {X : XP} {Q : V → MH → Prop}

theorem sndEs_nil : SndEs C d [] [] vs ns := by
  intro env A s ρ H Q X pos ES ea ok fi W
  dsimp only [wpEs] at W
  exact wpAny_pure ⟨[], H, ok.refl, VRs.nil, W⟩
theorem sndEs_cons {e : Ex} {es : List Ex} {e' : Expr} {es' : List Expr} (hs : ∀ x p, e' ≠ .Starred x p) (he : SndE C d e e' vs ns) (hes : SndEs C d es es' vs ns) : SndEs C d (e :: es) (e' :: es') vs ns := by
  intro env A s ρ H Q X pos ES ea ok fi W
  dsimp only [wpEs] at W
  rw [starEach_cons hs, backTo_cons]
  refine Calls.spliced_cons (wpAny_mono (he env A s ρ H _ X ES ea ok fi W) (fun cv s1 ⟨v, H1, st1, r1, W1⟩ => ?_) fun _ _ h => h)
  refine wpAny_mono (hes env A s1 ρ H1 _ X pos ES ea (ok.step st1) (fi.stepN st1) W1) (fun cvs s2 ⟨xs, H2, st2, r2, W2⟩ => ?_) fun _ _ h => h.back st1
  exact ⟨v :: xs, H2, st1.trans st2, VRs.cons (r1.keep st2.vk) r2, W2⟩

theorem starEach_false {es : List Ex} : ∀ {es' : List Expr}, chkEs vs ns es es' = true → ∀ pos, ∀ x ∈ backTo pos (starEach es' env), x.1 = false := by
  induction es with
  | nil => intro es' h pos x hx; rw [inv_nil h] at hx; simp [backTo, starEach] at hx
  | cons e es ih =>
    intro es' h pos x hx
    obtain ⟨e1, es1, rfl, h1, h2⟩ := inv_cons h
    rw [starEach_cons (chk_notStar h1), backTo_cons] at hx
    rcases List.mem_cons.mp hx with rfl | hx
    · rfl
    · exact ih h2 pos x hx

theorem snd_call {f : String} {es : List Ex} {es' : List Expr} {id : Str} {q p : Pos} (G : C.Good) (hg : gOk ns f id = true) (hc : chkEs vs ns es es' = true) (he : SndEs C d es es' vs ns) : SndE C d (.call f es) (.Call (.Name id q) es' [] p) vs ns := by
  intro env A s ρ H Q X ES ea ok fi W
  dsimp only [wpE] at W
  obtain ⟨⟨fv, gf, cf⟩, W⟩ := W
  refine wpAny_Call_Name_kw (load_gl G ES hg ok.top gf ?_)
  refine callWith_any (starEach_false hc p) cf ?_
  refine wpAny_mono (he env A s ρ H _ X p ES ea ok fi W) (fun cvs s1 ⟨xs, H1, st1, r1, W1⟩ => ⟨st1.top, ?_⟩) fun _ _ h => h
  rw [List.nil_append]
  exact wp_back st1 (W1 fv gf A s1 cvs (ok.step st1) r1)

theorem base_plain {o : Expr} {a : Str} {env : Env} {t : Sem Value} (h : notSuper o = true) : attributeBase o a env t = t := by
  unfold attributeBase
  cases o with
  | Call f args kws p =>
    cases f with
    | Name id q =>
      cases args with
      | nil =>
        cases kws with
        | nil => exact (Bool.false_ne_true h).elim
        | cons _ _ => rfl
      | cons _ _ => rfl
    | _ => rfl
  | _ => rfl

theorem form_true {es : List Ex} {es' : List Expr} {pos : Pos} (hc : chkEs vs ns es es' = true) (hl : es.length < 29) : methodCallForm (es'.length + ([] : List Keyword).length) (backTo pos (starEach es' env)) (backToKw pos (keywordEach [] env)) = true := by
  have h1 : ∀ x ∈ backTo pos (starEach es' env), x.1 = false := starEach_false hc pos
  have hlen : es.length = es'.length := by
    clear h1 hl
    induction es generalizing es' with
    | nil => rw [inv_nil hc]; rfl
    | cons e es ih => obtain ⟨e1, es1, rfl, _, h2⟩ := inv_cons hc; simp [ih h2]
  unfold methodCallForm
  have h2 : (backTo pos (starEach es' env)).all (fun x => !x.1) = true := List.all_eq_true.mpr fun x hx => by rw [h1 x hx]; rfl
  have h3 : (backToKw pos (keywordEach [] env)) = [] := rfl
  rw [h2, h3]
  simp
  omega

theorem snd_meth {o : Ex} {m : String} {es : List Ex} {o' : Expr} {ap p : Pos} {es' : List Expr} (hap : (ap.endLine == p.line) = true) (hl : es.length < 29) (hsup : notSuper o' = true) (hc : chkEs vs ns es es' = true)
    (ho : SndE C d o o' vs ns) (he : SndEs C d es es' vs ns) : SndE C d (.meth o m es) (.Call (.Attribute o' (Str.ofString m) ap) es' [] p) vs ns := by
  intro env A s ρ H Q X ES ea ok fi W
  dsimp only [wpE] at W
  rw [arm_eval_Call, base_plain hsup]
  refine wpAny_bind (wpAny_mono (ho env A s ρ H _ X ES ea ok fi W) (fun co s1 ⟨ov, H1, st1, r1, fv, mg, cf, W1⟩ => ?_) fun _ _ h => h)
  refine wpAny_bind (wpAny_standAt ?_)
  unfold methodCall
  rw [form_true hc hl]
  refine wpAny_bind (wpAny_holding ?_)
  unfold calleeOf
  rw [if_pos rfl]
  refine mg A s1 co _ _ _ (ok.step st1) r1 ?_
  refine wpAny_bind ?_
  unfold methodCallPos
  rw [hap]
  simp only [Bool.or_true, if_true]
  refine wpAny_pure ?_
  refine callWith_any (starEach_false hc p) cf ?_
  refine wpAny_mono (he env A s1 ρ H1 _ X p ES ea (ok.step st1) (fi.stepN st1) W1) (fun cvs s2 ⟨xs, H2, st2, r2, W2⟩ => ⟨st2.top, ?_⟩) fun _ _ h => h.back st1
  have st := st1.trans st2
  exact wp_back st (W2 A s2 (co :: cvs) (ok.step st) (VRs.cons (r1.keep st2.vk) r2))

theorem snd_att {o : Ex} {a : String} {o' : Expr} {p : Pos} (hsup : notSuper o' = true) (ho : SndE C d o o' vs ns) : SndE C d (.att o a) (.Attribute o' (Str.ofString a) p) vs ns := by
  intro env A s ρ H Q X ES ea ok fi W
  dsimp only [wpE] at W
  rw [arm_eval_Attribute, base_plain hsup]
  refine wpAny_bind (wpAny_mono (ho env A s ρ H _ X ES ea ok fi W) (fun co s1 ⟨ov, H1, st1, r1, W1⟩ => ?_) fun _ _ h => h)
  refine wpAny_bind (wpAny_standAt (wpAny_bind (wpAny_holding (wpAny_mono (W1 A s1 co (ok.step st1) r1) (fun cr s2 h2 => ?_) fun _ _ h => h.back st1))))
  exact wpAny_bind (wpAny_letTemporaryGo (wpAny_pure (h2.back st1)))

theorem sub_plain {i : Expr} {o iv : Value} (h : notSlice i = true) : subscripted i false o iv = operate [o, iv] (getItem o iv) := by
  cases i <;> first | rfl | (exact (Bool.false_ne_true h).elim)

theorem snd_sub {o i : Ex} {o' i' : Expr} {p : Pos} (hn : notSlice i' = true) (ho : SndE C d o o' vs ns) (hi : SndE C d i i' vs ns) : SndE C d (.sub o i) (.Subscript o' i' p) vs ns := by
  intro env A s ρ H Q X ES ea ok fi W
  dsimp only [wpE] at W
  rw [arm_eval_Subscript]
  refine wpAny_bind (wpAny_mono (ho env A s ρ H _ X ES ea ok fi W) (fun co s1 ⟨ov, H1, st1, r1, W1⟩ => ?_) fun _ _ h => h)
  refine wpAny_bind (wpAny_holding (wpAny_mono (hi env A s1 ρ H1 _ X ES ea (ok.step st1) (fi.stepN st1) W1) (fun ci s2 ⟨iv, H2, st2, r2, W2⟩ => ?_) fun _ _ h => h.back st1))
  have st := st1.trans st2
  obtain ⟨g1, g2⟩ := W2 A s2 co ci (ok.step st) (r1.keep st2.vk) r2
  refine wpAny_bind (wpAny_standAt (wpAny_bind (wpAny_mono g1 (fun b s3 ⟨hb, hs⟩ => ?_) fun _ _ h => h.elim)))
  subst hb hs
  rw [sub_plain hn]
  refine wpAny_bind (wpAny_operateT (wpAny_mono g2 (fun cr s4 h4 => ?_) fun _ _ h => h.back st))
  exact wpAny_bind (wpAny_letTemporaryGo (wpAny_pure (h4.back st)))

noncomputable def SndO (C : Cx) (d : Md) (e : Ex) (e' : Option Expr) (vs : Vs) (ns : Ns) : Prop :=
  ∀ env A s ρ H Q X, EnvS env vs ns → EA A env → Ok C d H A s → FI C env vs ρ H s.heap → wpE C d e ρ H Q X → wpAny C.M A (valueOrNone (evalOpt e' env)) (QP C H s Q) (XQ false C No H s X) s
theorem sndO_none : SndO C d .cn none vs ns := by
  intro env A s ρ H Q X ES ea ok fi W
  dsimp only [wpE] at W
  exact wpAny_pure ⟨.none, H, ok.refl, by rw [VR], W⟩

theorem snd_sli {o l u t : Ex} {o' : Expr} {l' u' t' : Option Expr} {q p : Pos} (ho : SndE C d o o' vs ns) (hl : SndO C d l l' vs ns) (hu : SndO C d u u' vs ns) (ht : SndO C d t t' vs ns) :
    SndE C d (.sli o l u t) (.Subscript o' (.Slice l' u' t' q) p) vs ns := by
  intro env A s ρ H Q X ES ea ok fi W
  dsimp only [wpE] at W
  rw [arm_eval_Subscript, arm_eval_Slice]
  refine wpAny_bind (wpAny_mono (ho env A s ρ H _ X ES ea ok fi W) (fun co s1 ⟨ov, H1, st1, r1, W1⟩ => ?_) fun _ _ h => h)
  refine wpAny_bind (wpAny_holding (wpAny_bind (wpAny_mono (hl env A s1 ρ H1 _ X ES ea (ok.step st1) (fi.stepN st1) W1) (fun cl s2 ⟨lv, H2, st2, r2, W2⟩ => ?_) fun _ _ h => h.back st1)))
  have stb := st1.trans st2
  refine wpAny_bind (wpAny_holding (wpAny_mono (hu env A s2 ρ H2 _ X ES ea (ok.step stb) (fi.stepN stb) W2) (fun cu s3 ⟨uv, H3, st3, r3, W3⟩ => ?_) fun _ _ h => h.back stb))
  have stc := stb.trans st3
  refine wpAny_bind (wpAny_holding (wpAny_mono (ht env A s3 ρ H3 _ X ES ea (ok.step stc) (fi.stepN stc) W3) (fun ct s4 ⟨tv, H4, st4, r4, W4⟩ => ?_) fun _ _ h => h.back stc))
  have std := stc.trans st4
  have okd := ok.step std
  unfold newFields
  refine wpAny_newObj_type ?_ (by size_fits)
  have ste : Step C No H4 s4 H4 { s4 with heap := s4.heap.push { cls := .type "slice", dict := none, data := .fields [cl, cu, ct].toArray } } := Step.keeps okd.rel okd.top (fun b o e => Heap.get?_push_of_some _ e) rfl rfl
  have st := std.trans ste
  obtain ⟨g1, g2⟩ := W4 A _ co cl cu ct s4.heap.objs.size (ok.step st) ((((r1.keep st2.vk).keep st3.vk).keep st4.vk).keep ste.vk) (((r2.keep st3.vk).keep st4.vk).keep ste.vk) ((r3.keep st4.vk).keep ste.vk) (r4.keep ste.vk) (Heap.get?_push_size _ rfl)
  refine wpAny_bind (wpAny_standAt (wpAny_bind (wpAny_mono g1 (fun b s5 ⟨hb, hs⟩ => ?_) fun _ _ h => h.elim)))
  subst hb hs
  have key : ∀ (t' : Option Expr) (o iv : Value), ∃ l, subscripted (.Slice l' u' t' q) false o iv = operate l (getItem o iv) := fun t' o iv => by
    cases t' <;> exact ⟨_, rfl⟩
  obtain ⟨l0, e0⟩ := key t' co (.ref s4.heap.objs.size)
  rw [e0]
  refine wpAny_bind (wpAny_operateT (wpAny_mono g2 (fun cr s6 h6 => ?_) fun _ _ h => h.back st))
  exact wpAny_bind (wpAny_letTemporaryGo (wpAny_pure (h6.back st)))

noncomputable def SndB (C : Cx) (d : Md) (op : BoolOp) (es : List Ex) (es' : List Expr) (vs : Vs) (ns : Ns) : Prop :=
  ∀ env A s ρ H Q X pos, EnvS env vs ns → EA A env → Ok C d H A s → FI C env vs ρ H s.heap → wpB C d op es ρ H Q X → wpAny C.M A (boolOp pos op (evalEach es' env)) (QP C H s Q) (XQ false C No H s X) s
theorem sndB_one {op : BoolOp} {e : Ex} {e' : Expr} (h : SndE C d e e' vs ns) : SndB C d op [e] [e'] vs ns := by
  intro env A s ρ H Q X pos ES ea ok fi W
  dsimp only [wpB] at W
  exact h env A s ρ H Q X ES ea ok fi W
theorem sndB_more {op : BoolOp} {e e2 : Ex} {es : List Ex} {e' e2' : Expr} {es' : List Expr} (h : SndE C d e e' vs ns) (hs : SndB C d op (e2 :: es) (e2' :: es') vs ns) : SndB C d op (e :: e2 :: es) (e' :: e2' :: es') vs ns := by
  intro env A s ρ H Q X pos ES ea ok fi W
  dsimp only [wpB] at W
  · show wpAny C.M A (do
      let v ← eval e' env
      standAt pos
      let t ← holding [v] (truthy v)
      match op, t with
      | .And, false | .Or, true => pure v
      | _, _ => boolOp pos op (evalEach (e2' :: es') env)) _ _ s
    refine wpAny_bind (wpAny_mono (h env A s ρ H _ X ES ea ok fi W) (fun cv s1 ⟨v, H1, st1, r1, W1⟩ => ?_) fun _ _ h => h)
    refine wpAny_bind (wpAny_standAt (wpAny_bind (wpAny_holding (wpAny_mono (W1 A s1 cv (ok.step st1) r1) (fun t s2 ⟨H2, st2, W2⟩ => ?_) fun _ _ h => h.back st1))))
    have st := st1.trans st2
    cases op <;> cases t <;> simp at W2
    · exact wpAny_pure ⟨v, H2, st, r1.keep st2.vk, W2⟩
    · exact wp_back st (hs env A s2 ρ H2 Q X pos ES ea (ok.step st) (fi.stepN st) W2)
    · exact wp_back st (hs env A s2 ρ H2 Q X pos ES ea (ok.step st) (fi.stepN st) W2)
    · exact wpAny_pure ⟨v, H2, st, r1.keep st2.vk, W2⟩

noncomputable def SndA (C : Cx) (d : Md) (op : BoolOp) (es : List Ex) (es' : List Expr) (vs : Vs) (ns : Ns) : Prop :=
  ∀ env A s ρ H (Q : Bool → MH → Prop) X, EnvS env vs ns → EA A env → Ok C d H A s → FI C env vs ρ H s.heap → wpA C d op es ρ H Q X → wpAny C.M A (allTrue op es' env) (fun b s' => ∃ H', Step C No H s H' s' ∧ Q b H') (XQ false C No H s X) s
theorem sndA_nil {op : BoolOp} : SndA C d op [] [] vs ns := by
  intro env A s ρ H Q X ES ea ok fi W
  dsimp only [wpA] at W
  show wpAny C.M A (pure (op == .And)) _ _ s
  refine wpAny_pure ⟨H, ok.refl, ?_⟩
  cases op <;> exact W
theorem sndA_cons {op : BoolOp} {e : Ex} {es : List Ex} {e' : Expr} {es' : List Expr} (h : SndT C d e e' vs ns) (hs : SndA C d op es es' vs ns) : SndA C d op (e :: es) (e' :: es') vs ns := by
  intro env A s ρ H Q X ES ea ok fi W
  dsimp only [wpA] at W
  show wpAny C.M A (do
    match op, ← isTrue e' env (eval e' env) with
    | .And, false => pure false
    | .Or, true => pure true
    | _, _ => allTrue op es' env) _ _ s
  refine wpAny_bind (wpAny_mono (h env A s ρ H _ X ES ea ok fi W) (fun t s1 ⟨H1, st1, W1⟩ => ?_) fun _ _ h => h)
  have nx : wpA C d op es ρ H1 Q X → wpAny C.M A (allTrue op es' env) (fun b s' => ∃ H', Step C No H s H' s' ∧ Q b H') (XQ false C No H s X) s1 := fun W1 =>
    wpAny_mono (hs env A s1 ρ H1 Q X ES ea (ok.step st1) (fi.stepN st1) W1) (fun b s2 ⟨H2, st2, W2⟩ => ⟨H2, st1.trans st2, W2⟩) fun _ _ h => h.back st1
  cases op <;> cases t <;> simp at W1
  · exact wpAny_pure ⟨H1, st1, W1⟩
  · exact nx W1
  · exact nx W1
  · exact wpAny_pure ⟨H1, st1, W1⟩

noncomputable def SndTs (C : Cx) (d : Md) (es : List Ex) (es' : List Expr) (vs : Vs) (ns : Ns) : Prop :=
  ∀ env A s ρ H (Q : Bool → MH → Prop) X, EnvS env vs ns → EA A env → Ok C d H A s → FI C env vs ρ H s.heap → wpTs C d es ρ H Q X → wpAny C.M A (testsOf es' env) (fun b s' => ∃ H', Step C No H s H' s' ∧ Q b H') (XQ false C No H s X) s
theorem sndTs_nil : SndTs C d [] [] vs ns := by
  intro env A s ρ H Q X ES ea ok fi W
  dsimp only [wpTs] at W
  exact wpAny_pure ⟨H, ok.refl, W⟩
theorem tests_false {es' : List Expr} {P : Bool → Shared → Prop} {E : Value → Shared → Prop} (h : P false s) :
    wpAny C.M A (forIn es' false fun c r => if r = true then do let ok ← isTrue c env (eval c env); pure (ForInStep.yield ok) else pure (ForInStep.yield r)) P E s := by
  induction es' with
  | nil => exact wpAny_pure h
  | cons e es ih =>
    rw [List.forIn_cons]
    simp only [Bool.false_eq_true, if_false]
    exact wpAny_bind (wpAny_pure ih)
theorem sndTs_cons {e : Ex} {es : List Ex} {e' : Expr} {es' : List Expr} (h : SndT C d e e' vs ns) (hs : SndTs C d es es' vs ns) : SndTs C d (e :: es) (e' :: es') vs ns := by
  intro env A s ρ H Q X ES ea ok fi W
  dsimp only [wpTs] at W
  unfold testsOf
  rw [List.forIn_cons]
  simp only [if_true]
  refine wpAny_bind (wpAny_bind (wpAny_mono (h env A s ρ H _ X ES ea ok fi W) (fun t s1 ⟨H1, st1, W1⟩ => ?_) fun _ _ h => h))
  refine wpAny_pure ?_
  cases t with
  | true =>
    rw [if_pos rfl] at W1
    exact wpAny_mono (hs env A s1 ρ H1 Q X ES ea (ok.step st1) (fi.stepN st1) W1) (fun b s2 ⟨H2, st2, W2⟩ => ⟨H2, st1.trans st2, W2⟩) fun _ _ h => h.back st1
  | false =>
    rw [if_neg (by decide)] at W1
    exact tests_false ⟨H1, st1, W1⟩

theorem sndT_not {e : Ex} {e' : Expr} {p : Pos} (h : SndT C d e e' vs ns) : SndT C d (.una .Not e) (.UnaryOp .Not e' p) vs ns := by
  intro env A s ρ H Q X ES ea ok fi W
  dsimp only [wpT] at W
  exact wpAny_isTrue_Not (wpAny_mono (h env A s ρ H _ X ES ea ok fi W) (fun b s1 ⟨H1, st1, W1⟩ => ⟨H1, st1, W1⟩) fun _ _ h => h)
theorem sndT_bop {op : BoolOp} {es : List Ex} {es' : List Expr} {p : Pos} (h : SndA C d op es es' vs ns) : SndT C d (.bop op es) (.BoolOp op es' p) vs ns := by
  intro env A s ρ H Q X ES ea ok fi W
  dsimp only [wpT] at W
  exact wpAny_isTrue_BoolOp (h env A s ρ H _ X ES ea ok fi W)
theorem sndT_ife {c a b : Ex} {c' a' b' : Expr} {p : Pos} (hc : SndT C d c c' vs ns) (ha : SndT C d a a' vs ns) (hb : SndT C d b b' vs ns) : SndT C d (.ife c a b) (.IfExp c' a' b' p) vs ns := by
  intro env A s ρ H Q X ES ea ok fi W
  dsimp only [wpT] at W
  show wpAny C.M A (do if ← isTrue c' env (eval c' env) then isTrue a' env (eval a' env) else isTrue b' env (eval b' env)) _ _ s
  refine wpAny_bind (wpAny_mono (hc env A s ρ H _ X ES ea ok fi W) (fun t s1 ⟨H1, st1, W1⟩ => ?_) fun _ _ h => h)
  cases t with
  | true => rw [if_pos rfl] at W1 ⊢; exact wpAny_mono (ha env A s1 ρ H1 _ X ES ea (ok.step st1) (fi.stepN st1) W1) (fun b s2 ⟨H2, st2, W2⟩ => ⟨H2, st1.trans st2, W2⟩) fun _ _ h => h.back st1
  | false => rw [if_neg (by decide)] at W1 ⊢; exact wpAny_mono (hb env A s1 ρ H1 _ X ES ea (ok.step st1) (fi.stepN st1) W1) (fun b s2 ⟨H2, st2, W2⟩ => ⟨H2, st1.trans st2, W2⟩) fun _ _ h => h.back st1
theorem sndT_val {e : Ex} {e' : Expr} (he : isTrue e' = fun env whole => (do let v ← whole; standAt e'.pos; holding [v] (truthy v))) (hw : ∀ ρ H Q X, wpT C d e ρ H Q X = wpE C d e ρ H (fun v H1 => TruW C d v H1 Q X) X) (h : SndE C d e e' vs ns) : SndT C d e e' vs ns := by
  intro env A s ρ H Q X ES ea ok fi W
  rw [hw] at W
  refine wpAny_isTrue_value ?_ (by rw [he])
  refine wpAny_mono (h env A s ρ H _ X ES ea ok fi W) (fun cv s1 ⟨v, H1, st1, r1, W1⟩ => ?_) fun _ _ h => h
  exact wpAny_mono (W1 A s1 cv (ok.step st1) r1) (fun b s2 ⟨H2, st2, W2⟩ => ⟨H2, st1.trans st2, W2⟩) fun _ _ h => h.back st1
end
end Vc
end

section
set_option autoImplicit false
set_option linter.unusedVariables false
namespace Vc
open PySem

section
variable {C : Cx} {d : Md} {env : Env} {vs : Vs} {ns : Ns} {ρ : Lo} {H H1 H' : MH} {s s1 s' : Shared} {A : Around} {X : XP} {Q : V → MH → Prop}

noncomputable def AllE (C : Cx) (d : Md) (vs : Vs) (ns : Ns) : List Ex → List Expr → Prop
  | [], [] => True
  | e :: es, e' :: es' => SndE C d e e' vs ns ∧ AllE C d vs ns es es'
  | _, _ => False
noncomputable def AllT (C : Cx) (d : Md) (vs : Vs) (ns : Ns) : List Ex → List Expr → Prop
  | [], [] => True
  | e :: es, e' :: es' => SndT C d e e' vs ns ∧ AllT C d vs ns es es'
  | _, _ => False

theorem AllE.es : ∀ {es : List Ex} {es' : List Expr}, chkEs vs ns es es' = true → AllE C d vs ns es es' → SndEs C d es es' vs ns
  | [], [], _, _ => sndEs_nil
  | e :: es, e' :: es', h, a => by
    obtain ⟨_, _, e1, h1, h2⟩ := inv_cons h
    cases e1
    exact sndEs_cons (chk_notStar h1) a.1 (a.2.es h2)
  | [], _ :: _, _, a => a.elim
  | _ :: _, [], _, a => a.elim
theorem AllE.b {op : BoolOp} : ∀ {es : List Ex} {es' : List Expr}, AllE C d vs ns es es' → SndB C d op es es' vs ns
  | [], [], _ => by intro env A s ρ H Q X pos ES ea ok fi W; dsimp only [wpB] at W; exact W.elim
  | [_], [_], a => sndB_one a.1
  | _ :: e2 :: es, _ :: e2' :: es', a => sndB_more a.1 (AllE.b (es := e2 :: es) (es' := e2' :: es') a.2)
  | [], _ :: _, a => a.elim
  | _ :: _, [], a => a.elim
  | [_], _ :: _ :: _, a => a.2.elim
  | _ :: _ :: _, [_], a => a.2.elim
theorem AllT.a {op : BoolOp} : ∀ {es : List Ex} {es' : List Expr}, AllT C d vs ns es es' → SndA C d op es es' vs ns
  | [], [], _ => sndA_nil
  | _ :: _, _ :: _, a => sndA_cons a.1 a.2.a
  | [], _ :: _, a => a.elim
  | _ :: _, [], a => a.elim
theorem AllT.ts : ∀ {es : List Ex} {es' : List Expr}, AllT C d vs ns es es' → SndTs C d es es' vs ns
  | [], [], _ => sndTs_nil
  | _ :: _, _ :: _, a => sndTs_cons a.1 a.2.ts
  | [], _ :: _, a => a.elim
  | _ :: _, [], a => a.elim

theorem Step.adopt {a : Addr} {o : O} (x : Step C No H s H' s') (hn : s.heap.get? a = none) (ho : OR C s'.heap a o) : Step C No H s (upd H' a o) s' where
  rel := fun b ob e => by
    by_cases q : b = a
    · subst q; rw [upd_self] at e; cases e; exact ho
    · rw [upd_ne q] at e; exact x.rel b ob e
  chg := x.chg
  top := x.top
  dom := fun b e => by
    by_cases q : b = a
    · subst q; rw [upd_self]; rfl
    · rw [upd_ne q]; exact x.dom b e
  new := fun b e => by
    by_cases q : b = a
    · subst q; exact .inr hn
    · rw [upd_ne q] at e; exact x.new b e
  dn := fun _ f => f.elim
  vk := x.vk
  gens := x.gens
  os := x.os

theorem folded {it' : Expr} {x : Value} (h : notSet it' = true) : foldedSetIterable it' env x = pure x := by
  cases it' <;> first | rfl | (exact (Bool.false_ne_true h).elim)

theorem Step.after {Cn : Addr} {Hc : MH} {D : Addr → Prop} {h' : Heap} (st : Step C D H1 s1 Hc s') (hC : s1.heap.get? Cn = none) (hHC : Hc Cn = none) (top1 : C.h0.StaysIn s1.heap)
    (hl : ∀ o, s'.heap.get? Cn = some o → Loose o) (sb : Heap.SameBut Cn s'.heap h') : Step C D H1 s1 Hc { s' with heap := h' } := by
  have vs : VS s'.heap h' := ⟨fun b o e so => (sb.2 b fun q => (hl o (q ▸ e)).not_solid so).trans e, fun b o ws r e c dd => ⟨o, ws, (sb.2 b fun q => (hl o (q ▸ e)).not_exc c dd).trans e, ⟨rfl, rfl⟩, dd, rfl⟩⟩
  have old : ∀ b o, s1.heap.get? b = some o → b ≠ Cn := fun b o e q => by rw [q, hC] at e; cases e
  refine ⟨fun b o e => ?_, fun b o e n nd => ?_, fun b o e => ?_, st.dom, st.new, st.dn, ⟨fun b o e so => ?_, fun b o ws r e c dd => ?_, fun b o es ep e dd => ?_⟩, st.gens, st.os⟩
  · exact (st.rel b o e).keepS vs fun ob w => (sb.2 b fun q => by rw [q, hHC] at e; cases e).trans w
  · obtain ⟨sl, w, q⟩ := st.chg b o e n nd
    exact ⟨sl, (sb.2 b (old b o e)).trans w, q⟩
  · exact (sb.2 b (old b o (top1 b o e))).trans (st.top b o e)
  · exact (sb.2 b (old b o e)).trans (st.vk.solid b o e so)
  · obtain ⟨o', ws', w, r'⟩ := st.vk.exc b o ws r e c dd
    exact ⟨o', ws', (sb.2 b (old b o e)).trans w, r'⟩
  · obtain ⟨o', es', ep', w, r'⟩ := st.vk.dct b o es ep e dd
    exact ⟨o', es', ep', (sb.2 b (old b o e)).trans w, r'⟩

theorem di_new {I Dl Cn : Addr} (h1 : s1.heap.get? I = none) (h2 : s1.heap.get? Dl = none) (h3 : s1.heap.get? Cn = none) : ∀ b, DI I Dl Cn b → s1.heap.get? b = none := fun b hb => by
  rcases hb with rfl | rfl | rfl
  · exact h1
  · exact h2
  · exact h3

theorem Step.shed {D : Addr → Prop} (st : Step C D H s H' s') (hD : ∀ b, D b → s.heap.get? b = none) : Step C No H s H' s' := st.narrow (fun _ f => f.elim) fun b hb => .inr (hD b hb)

theorem snd_comp {elt it : Ex} {ifs : List Ex} {elt' it' t' : Expr} {ifs' : List Expr} {sc : Scope} {p : Pos} {tg : List Str} (ht : tgt? t' = some tg) (hl : ∀ x ∈ tg, sc.names.lookup x = some .local) (nd : tg.Nodup) (hk : sc.kind = .function)
    (hnc : ∀ x ∈ sc.names, x.2 ≠ .cell) (hnl : ∀ x ∈ sc.names, x.2 = .local → sc.names.lookup x.1 = some .local) (hfr : ∀ x ∈ sc.names, x.2 = .free → (x.1, Vk.cel) ∈ vs) (hns : notSet it' = true)
    (hit : SndE C d it it' vs ns) (hE : SndE C d elt elt' (innerVs vs (relab sc.names ns) tg) (relab sc.names ns)) (hT : SndTs C d ifs ifs' (innerVs vs (relab sc.names ns) tg) (relab sc.names ns)) :
    SndE C d (.comp tg.length elt it ifs) (.ListComp elt' [⟨t', it', ifs', 0⟩] sc p) vs ns := by
  intro env A s ρ H Q X ES ea ok fi W
  dsimp only [wpE] at W
  have hf : ∀ x ∈ sc.names, x.2 = .free → (env.cells.lookup x.1).isSome = true := fun x hx e => by
    obtain ⟨i, hi⟩ := List.mem_iff_getElem?.mp (hfr x hx e)
    obtain ⟨c, oc, h1, _⟩ := fi.cel i x.1 hi
    rw [h1]; rfl
  rw [eval_ListComp]
  refine wpAny_comprehension_free (use := none) rfl (fun x => folded hns) (closure_of hf) hk hnl ?_
  refine wpAny_mono (hit env A s ρ H _ X ES ea ok fi W) (fun civ s1 ⟨iv, H1, st1, r1, all, hq, hi, hsz, W1⟩ => ?_) fun _ _ h => h
  have ok1 := ok.step st1
  refine iter_of ok1 hq r1 hi fun I s2 st2 hI hit2 => ?_
  refine comp_core (E := XQ false C No H s X) ES ea ok1 (fi.stepN st1) ht hl nd hk hnc hf (fun env' s H ρ' Q e1 e2 e3 e4 w => hT env' A s ρ' H Q X e1 e2 e3 e4 w) (fun env' s H ρ' Q e1 e2 e3 e4 w => hE env' A s ρ' H Q X e1 e2 e3 e4 w) hq hsz W1 st2 hI hit2
    (fun Dl Cn s' av Hc items st hDl hCn hDC hcD hcC pl rs hm hK => ?_) (fun Dl Cn s' e hDl hCn x => ?_)
  · obtain ⟨m, hm⟩ := hm
    refine ⟨m, hm, fun h' sb => ?_⟩
    have hlo : ∀ o, s'.heap.get? Cn = some o → Loose o := fun o e => by obtain ⟨o', es, ep, ho, hd, _⟩ := hm; rw [ho] at e; cases e; exact .inl ⟨es, ep, hd⟩
    have vsx : VS s'.heap h' := ⟨fun b o e so => (sb.2 b fun q => (hlo o (q ▸ e)).not_solid so).trans e, fun b o ws r e c dd => ⟨o, ws, (sb.2 b fun q => (hlo o (q ▸ e)).not_exc c dd).trans e, ⟨rfl, rfl⟩, dd, rfl⟩⟩
    have st' := (st.after hCn hcC ok1.top hlo sb).shed (di_new hI hDl hCn)
    have pl' : h'.PlainList Dl items := pl.at fun o e => (sb.2 Dl hDC).trans e
    refine ⟨.ref Dl, upd Hc Dl (.lst av), st1.trans (st'.adopt hDl ⟨fresh_top ok1.top hDl, items, pl', rs.keepS vsx⟩), by rw [VR], hK.2 Dl hcD⟩
  · obtain ⟨a, c, Hc, rfl, st, hD, fl, hX, hcC, m, hm⟩ := x
    refine ⟨m, hm, fun h' sb cenv' hcl => ?_⟩
    have hlo : ∀ o, s'.heap.get? Cn = some o → Loose o := fun o e => by obtain ⟨o', es, ep, ho, hd, _⟩ := hm; rw [ho] at e; cases e; exact .inl ⟨es, ep, hd⟩
    have st' := (st.after hCn hcC ok1.top hlo sb).shed (di_new hI hDl hCn)
    have hne : ∀ b o, s'.heap.get? b = some o → (∃ vs, o.data = .fields vs) → b ≠ Cn := fun b o e ⟨vs, hv⟩ q => by
      obtain ⟨o', es, ep, ho, hd, _⟩ := hm; rw [q, ho] at e; cases e; rw [hd] at hv; cases hv
    have fl' : Fly C true s1 a c h' := by
      obtain ⟨new, o, ws, r, h1, h2, h3, h4, h5, h6, h7⟩ := fl
      refine ⟨new, o, ws, r, (sb.2 a (hne a o h1 ⟨ws, h4⟩)).trans h1, h2, h3, h4, h5, h6, h7.imp id ?_⟩
      rintro ⟨T, oT, ts, g1, g2, g3, g4, g5, g6, g7⟩
      exact ⟨T, oT, ts, g1, g2, g3, (sb.2 T (hne T oT g4 ⟨ts, g6⟩)).trans g4, g5, g6, g7⟩
    have x' : XQ true C No H1 s1 X (.ref a) { s' with heap := h' } := ⟨a, c, Hc, rfl, st', fun _ f => f.elim, fl', hX⟩
    exact passing stX_up ok1 x' fun s'' x'' => (XG.mono x'').back st1
end
end Vc
end

section
set_option autoImplicit false
set_option linter.unusedVariables false
namespace Vc
open PySem

section
variable {C : Cx} {d : Md} {env : Env} {vs : Vs} {ns : Ns} {ρ : Lo} {H H1 H' : MH} {s s1 s' : Shared} {A : Around} {X : XP} {Q : V → MH → Prop}

theorem chkK_len : ∀ {ks : List String} {ks' : List (Option Expr)}, chkK ks ks' = true → ks.length = ks'.length ∧ ks'.all (·.isSome) = true
  | [], [], _ => ⟨rfl, rfl⟩
  | k :: ks, none :: _, h => by exact (Bool.false_ne_true h).elim
  | k :: ks, some e :: r, h => by
    unfold chkK at h
    split at h
    · rename_i e1; cases e1
    · rename_i k' ks1 y c p r' e1 e2
      cases e1; cases e2
      simp only [Bool.and_eq_true] at h
      have := chkK_len h.2
      exact ⟨by simp [this.1], by simpa using this.2⟩
    · cases h
  | [], _ :: _, h => by exact (Bool.false_ne_true h).elim
  | _ :: _, [], h => by exact (Bool.false_ne_true h).elim

noncomputable def KeyRow : List String → List Value → Prop
  | [], [] => True
  | k :: ks, v :: vs => (∃ t, v = .str (Str.ofString k) t) ∧ KeyRow ks vs
  | _, _ => False

theorem simple_walk {e : Ex} {e' : Expr} {Q : V → MH → Prop} {E : Value → Shared → Prop} (hs : simpE e = true) (hc : chkE vs ns e e' = true) (ES : EnvS env vs ns) (ok : Ok C d H A s) (fi : FI C env vs ρ H s.heap) (W : wpE C d e ρ H Q X) :
    wpAny C.M A (eval e' env) (fun v s' => ∃ r H', Step C No H s H' s' ∧ VR C s'.heap r v ∧ Q r H' ∧ ∀ b o, s.heap.get? b = some o → s'.heap.get? b = some o) E s := by
  cases e with
  | nm i =>
    obtain ⟨id, p, rfl, h1, h2⟩ := inv_nm hc
    dsimp only [wpE] at W
    obtain ⟨v, l, w⟩ := W
    exact wpAny_Name (load_nm ES fi h1 l fun cv r => ⟨v, H, ok.refl, r, w, fun _ _ e => e⟩) h2
  | ci i =>
    obtain ⟨k, p, rfl⟩ := inv_ci hc
    dsimp only [wpE] at W
    rw [arm_eval_Constant]
    exact wpAny_mkInt ⟨.int i, H, ok.toks _, by dsimp only [VR]; exact ⟨_, rfl⟩, W, fun _ _ e => e⟩
  | cs x =>
    obtain ⟨k, p, rfl⟩ := inv_cs hc
    dsimp only [wpE] at W
    exact Calls.Constant_str ⟨.str (Str.ofString x), H, ok.toks _, by dsimp only [VR]; exact ⟨_, rfl⟩, W, fun _ _ e => e⟩
  | cb b =>
    obtain ⟨k, p, rfl⟩ := inv_cb hc
    dsimp only [wpE] at W
    exact wpAny_pure ⟨.bool b, H, ok.refl, by rw [VR], W, fun _ _ e => e⟩
  | cn =>
    obtain ⟨k, p, rfl⟩ := inv_cn hc
    dsimp only [wpE] at W
    exact wpAny_pure ⟨.none, H, ok.refl, by rw [VR], W, fun _ _ e => e⟩
  | lst es =>
    cases es with
    | cons _ _ => exact (Bool.false_ne_true hs).elim
    | nil =>
      obtain ⟨es', p, rfl, h1⟩ := inv_lst hc
      rw [inv_nil h1, arm_eval_List]
      dsimp only [wpE] at W
      refine wpAny_bind (wpAny_standAt (wpAny_bind (Calls.spliced_nil ?_)))
      refine wpAny_newObj_type ?_ (by size_fits)
      have hf : H s.heap.objs.size = none := ok.rel.fresh (fresh_size _)
      exact ⟨.ref s.heap.objs.size, _, Step.alloc (o := .lst []) ok.rel ok.top ⟨fresh_top ok.top (fresh_size _), #[], ⟨0, Heap.get?_push_size _ rfl⟩, VRs.nil⟩ rfl rfl rfl, by rw [VR], W.2 _ hf, fun b o e => Heap.get?_push_of_some _ e⟩
  | _ => exact (Bool.false_ne_true hs).elim

theorem pairs_walk (pos : Pos) {E : Value → Shared → Prop} (ES : EnvS env vs ns) : ∀ {ks : List String} {es : List Ex} {ks' : List (Option Expr)} {es' : List Expr} {s : Shared} {H : MH} {Q : List V → MH → Prop}, chkK ks ks' = true → chkEs vs ns es es' = true → (∀ e ∈ es, simpE e = true) → ks.length = es.length → Ok C d H A s → FI C env vs ρ H s.heap → wpEs C d es ρ H Q X →
    wpAny C.M A (evalPairs (pairTrees ks' es' env pos)) (fun prs s' => ∃ xs H', Step C No H s H' s' ∧ VRs C s'.heap xs (prs.map (·.2)) ∧ KeyRow ks (prs.map (·.1)) ∧ Q xs H' ∧ ∀ b o, s.heap.get? b = some o → s'.heap.get? b = some o) E s
  | [], [], ks', es', s, H, Q, hk, hc, _, _, ok, fi, W => by
    dsimp only [wpEs] at W
    rw [inv_nil hc]
    cases ks' with
    | nil => exact pairTrees_nil_walk ⟨[], H, ok.refl, VRs.nil, trivial, W, fun _ _ e => e⟩
    | cons _ _ => exact (Bool.false_ne_true hk).elim
  | k :: ks, e :: es, ks0, es0, s, H, Q, hk, hc, hs, hl, ok, fi, W => by
    dsimp only [wpEs] at W
    obtain ⟨e', es', rfl, hc1, hc2⟩ := inv_cons hc
    have hk2 : ∃ c p ks', ks0 = some (.Constant (.str (Str.ofString k)) c p) :: ks' ∧ chkK ks ks' = true := by
      unfold chkK at hk
      split at hk
      · rename_i e1; cases e1
      · rename_i e1
        cases e1
        simp only [Bool.and_eq_true, beq_iff_eq] at hk
        exact ⟨_, _, _, by rw [hk.1], hk.2⟩
      · cases hk
    obtain ⟨c, p, ks', rfl, hk3⟩ := hk2
    refine pairTrees_cons_walk (Calls.Constant_str ?_)
    have st0 : Step C No H s H { s with toks := s.toks + 1 } := ok.toks _
    refine wpAny_mono (simple_walk (E := E) (hs e (.head _)) hc1 ES (ok.step st0) (fi.stepN st0) W) (fun cv s1 ⟨v, H1, st1, r1, W1, k1⟩ => ?_) fun _ _ h => h
    have st := st0.trans st1
    refine wpAny_mono (pairs_walk pos (E := E) ES hk3 hc2 (fun e he => hs e (.tail _ he)) (by simpa using hl) (ok.step st) (fi.stepN st) W1) (fun prs s2 ⟨xs, H2, st2, r2, kr, W2, k2⟩ => ?_) fun _ _ h => h
    exact ⟨v :: xs, H2, st.trans st2, VRs.cons (r1.keep st2.vk) r2, ⟨⟨_, rfl⟩, kr⟩, W2, fun b o e => k2 b o (k1 b o e)⟩
  | _ :: _, [], _, _, _, _, _, _, _, _, hl, _, _, _ => by simp at hl
  | [], _ :: _, _, _, _, _, _, _, _, _, hl, _, _, _ => by simp at hl

theorem carries_row : ∀ {ks : List String} {prs : List (Value × Value)}, KeyRow ks (prs.map (·.1)) → Carries (strKind C.prog C.w) prs ((ks.map Str.ofString).zip (prs.map (·.2)))
  | [], [], _ => trivial
  | k :: ks, (key, v) :: prs, h => by
    obtain ⟨⟨t, e⟩, h2⟩ := h
    refine ⟨?_, rfl, carries_row h2⟩
    have e' : key = .str (Str.ofString k) t := e
    rw [e']; exact strKind_is C.prog C.w _ t
  | [], _ :: _, h => h.elim
  | _ :: _, [], h => h.elim

theorem merged_new {K : Type} [DecidableEq K] : ∀ {kvs acc : List (K × Value)}, ((acc ++ kvs).map (·.1)).Nodup → merged acc kvs = acc ++ kvs
  | [], acc, _ => by simp [merged]
  | (k, v) :: r, acc, h => by
    have h1 : stored acc k v = acc ++ [(k, v)] := by
      unfold stored
      rw [if_neg]
      intro hc
      obtain ⟨x, hx, he⟩ := List.any_eq_true.mp hc
      have he' : x.1 = k := by simpa using he
      simp only [List.map_append, List.map_cons] at h
      have := List.nodup_append.mp h
      exact this.2.2 x.1 (List.mem_map_of_mem hx) k (.head _) he'
    show merged (stored acc k v) r = _
    rw [h1]
    have : acc ++ (k, v) :: r = (acc ++ [(k, v)]) ++ r := by simp
    rw [this] at h ⊢
    exact merged_new h

theorem keys_zip : ∀ {ks : List Str} {prs : List Value}, ks.length = prs.length → (ks.zip prs).map (·.1) = ks ∧ (ks.zip prs).map (·.2) = prs
  | [], [], _ => ⟨rfl, rfl⟩
  | k :: ks, p :: prs, h => by have := keys_zip (ks := ks) (prs := prs) (by simpa using h); simp [this.1, this.2]
  | [], _ :: _, h => by simp at h
  | _ :: _, [], h => by simp at h
theorem keys_zipV : ∀ {ks : List Str} {xs : List V}, ks.length = xs.length → (ks.zip xs).map (·.1) = ks ∧ (ks.zip xs).map (·.2) = xs
  | [], [], _ => ⟨rfl, rfl⟩
  | k :: ks, p :: prs, h => by have := keys_zipV (ks := ks) (xs := prs) (by simpa using h); simp [this.1, this.2]
  | [], _ :: _, h => by simp at h
  | _ :: _, [], h => by simp at h

theorem snd_dct {ks : List String} {es : List Ex} {ks' : List (Option Expr)} {es' : List Expr} {p : Pos} (G : C.Good) (h0 : ks ≠ []) (h15 : ks.length ≤ 15) (hl : ks.length = es.length) (hk : chkK ks ks' = true) (hc : chkEs vs ns es es' = true) (hs : ∀ e ∈ es, simpE e = true) :
    SndE C d (.dct ks es) (.Dict ks' es' p) vs ns := by
  intro env A s ρ H Q X ES ea ok fi W
  dsimp only [wpE] at W
  have hkl := chkK_len hk
  have hel : ∀ {es : List Ex} {es' : List Expr}, chkEs vs ns es es' = true → es.length = es'.length := by
    intro es
    induction es with
    | nil => intro es' h; rw [inv_nil h]; rfl
    | cons e es ih => intro es' h; obtain ⟨_, _, rfl, _, h2⟩ := inv_cons h; simp [ih h2]
  have hne : ks' ≠ [] := fun q => h0 (by have := hkl.1; rw [q] at this; exact List.length_eq_zero_iff.mp this)
  refine wpAny_Dict_walk (knd := strKind C.prog C.w) hkl.2 (by rw [← hkl.1, hl, hel hc]) hne (by omega) ?_
  have st0 : Step C No H s H { s with heap := s.heap.push { cls := .type "dict", data := .dict #[] } } := Step.keeps ok.rel ok.top (fun b o e => Heap.get?_push_of_some _ e) rfl rfl
  have hm0 : (s.heap.push { cls := .type "dict", data := .dict #[] }).DictOf (strKind C.prog C.w) s.heap.objs.size [] := ⟨_, #[], 0, Heap.get?_push_size _ rfl, ⟨rfl, rfl, rfl⟩, rfl, fun _ he => by simp at he, .nil, by simp⟩
  refine wpAny_mono (pairs_walk (E := XQ false C No H s X) p ES hk hc hs hl (ok.step st0) (fi.stepN st0) W) (fun prs s1 ⟨xs, H1, st1, r1, kr, W1, k1⟩ => ?_) fun _ _ h => h
  obtain ⟨w1, w2, w3, w4⟩ := W1
  have hfr : s.heap.get? s.heap.objs.size = none := fresh_size _
  have hH : H s.heap.objs.size = none := ok.rel.fresh hfr
  have hH1 : H1 s.heap.objs.size = none := st1.gone (Heap.get?_push_size _ rfl) hH
  have ok1 := ok.step (st0.trans st1)
  obtain ⟨o, es0, ep, ho, hx, hd, r0⟩ := hm0
  have hw := k1 _ o ho
  refine ⟨_, carries_row kr, ⟨o, es0, ep, hw, hx, hd, r0⟩, fun h' hm' sb => ?_⟩
  have hlp : ks.length = prs.length := by have := r1.length; rw [List.length_map] at this; omega
  have hz := keys_zip (ks := ks.map Str.ofString) (prs := prs.map (·.2)) (by simp [hlp])
  have hzv := keys_zipV (ks := ks.map Str.ofString) (xs := xs) (by simp [w1])
  have hnd : (ks.map Str.ofString).Nodup := w3
  have hmg : merged [] ((ks.map Str.ofString).zip (prs.map (·.2))) = (ks.map Str.ofString).zip (prs.map (·.2)) := by
    have := merged_new (kvs := (ks.map Str.ofString).zip (prs.map (·.2))) (acc := []) (by rw [List.nil_append, hz.1]; exact hnd)
    simpa using this
  rw [hmg] at hm'
  have ste : Step C (· = s.heap.objs.size) H1 s1 H1 { s1 with heap := h', toks := s1.toks + prs.length } := by
    refine Step.but ok1.rel ok1.top (fun b ob e n => (sb.2 b n).trans e) (fun b e => e ▸ hH1) (fun b e => e ▸ fresh_top ok.top hfr) (fun b ob e q => ?_) (fun b ob es ep e q z => ?_) rfl rfl
    · subst q; rw [hw] at e; cases e; exact .inl ⟨_, _, hd⟩
    · subst q; obtain ⟨o', es', ep', ho', _, hd', _⟩ := hm'; exact ⟨o', es', ep', ho', hd'⟩
  have st : Step C No H s H1 { s1 with heap := h', toks := s1.toks + prs.length } := (st0.trans st1).trans_new ste (fun b q => by subst q; exact hfr) (fun _ f => f.elim)
  refine ⟨.ref s.heap.objs.size, _, st.adopt (o := .dcs ((ks.map Str.ofString).zip xs)) hfr ⟨fresh_top ok.top hfr, not_sys G ok, _, hm', ?_, ?_⟩, by rw [VR], w4 _ hH1⟩
  · rw [hz.1, hzv.1]
  · rw [hz.2, hzv.2]; exact r1.keep ste.vk
end
end Vc
end

section
set_option autoImplicit false
set_option linter.unusedVariables false
namespace Vc
open PySem

section
variable {C : Cx} {d : Md}

theorem chkO_inv {vs : Vs} {ns : Ns} {e : Ex} {o : Option Expr} (h : chkO vs ns e o = true) : (e = .cn ∧ o = none) ∨ ∃ e', o = some e' ∧ chkE vs ns e e' = true := by
  cases o with
  | none => cases e <;> first | exact (Bool.false_ne_true h).elim | exact .inl ⟨rfl, rfl⟩
  | some e' => exact .inr ⟨e', rfl, by cases e <;> exact h⟩

mutual
theorem sX (G : C.Good) : ∀ (e : Ex) (e' : Expr) (vs : Vs) (ns : Ns), chkE vs ns e e' = true → SndE C d e e' vs ns ∧ SndT C d e e' vs ns
  | .nm i, e', vs, ns, hc => by
    have hE : SndE C d (.nm i) e' vs ns := by
      obtain ⟨id, p, rfl, h1, h2⟩ := inv_nm hc
      intro env A s ρ H Q X ES ea ok fi W
      dsimp only [wpE] at W
      obtain ⟨v, l, w⟩ := W
      exact wpAny_Name (load_nm ES fi h1 l fun cv r => ⟨v, H, ok.refl, r, w⟩) h2
    refine ⟨hE, ?_⟩
    obtain ⟨id, p, rfl, _⟩ := inv_nm hc
    exact sndT_val rfl (fun ρ H Q X => rfl) hE
  | .gl x, e', vs, ns, hc => by
    have hE : SndE C d (.gl x) e' vs ns := by
      obtain ⟨id, p, rfl, h1⟩ := inv_gl hc
      intro env A s ρ H Q X ES ea ok fi W
      dsimp only [wpE] at W
      obtain ⟨v, cv, g, r, w⟩ := W
      exact load_gl G ES h1 ok.top g ⟨v, H, ok.refl, top_vr ok.top r, w⟩
    refine ⟨hE, ?_⟩
    obtain ⟨id, p, rfl, _⟩ := inv_gl hc
    exact sndT_val rfl (fun ρ H Q X => rfl) hE
  | .ci i, e', vs, ns, hc => by
    have hE : SndE C d (.ci i) e' vs ns := by
      intro env A s ρ H Q X ES ea ok fi W
      exact wpAny_mono (simple_walk (E := XQ false C No H s X) rfl hc ES ok fi W) (fun v s' ⟨r, H', a, b, c, _⟩ => ⟨r, H', a, b, c⟩) fun _ _ h => h
    refine ⟨hE, ?_⟩
    obtain ⟨k, p, rfl⟩ := inv_ci hc
    exact sndT_val rfl (fun ρ H Q X => rfl) hE
  | .cs i, e', vs, ns, hc => by
    have hE : SndE C d (.cs i) e' vs ns := by
      intro env A s ρ H Q X ES ea ok fi W
      exact wpAny_mono (simple_walk (E := XQ false C No H s X) rfl hc ES ok fi W) (fun v s' ⟨r, H', a, b, c, _⟩ => ⟨r, H', a, b, c⟩) fun _ _ h => h
    refine ⟨hE, ?_⟩
    obtain ⟨k, p, rfl⟩ := inv_cs hc
    exact sndT_val rfl (fun ρ H Q X => rfl) hE
  | .cb i, e', vs, ns, hc => by
    have hE : SndE C d (.cb i) e' vs ns := by
      intro env A s ρ H Q X ES ea ok fi W
      exact wpAny_mono (simple_walk (E := XQ false C No H s X) rfl hc ES ok fi W) (fun v s' ⟨r, H', a, b, c, _⟩ => ⟨r, H', a, b, c⟩) fun _ _ h => h
    refine ⟨hE, ?_⟩
    obtain ⟨k, p, rfl⟩ := inv_cb hc
    exact sndT_val rfl (fun ρ H Q X => rfl) hE
  | .cn, e', vs, ns, hc => by
    have hE : SndE C d .cn e' vs ns := by
      intro env A s ρ H Q X ES ea ok fi W
      exact wpAny_mono (simple_walk (E := XQ false C No H s X) rfl hc ES ok fi W) (fun v s' ⟨r, H', a, b, c, _⟩ => ⟨r, H', a, b, c⟩) fun _ _ h => h
    refine ⟨hE, ?_⟩
    obtain ⟨k, p, rfl⟩ := inv_cn hc
    exact sndT_val rfl (fun ρ H Q X => rfl) hE
  | .bin op l r, e', vs, ns, hc => by
    have hE : SndE C d (.bin op l r) e' vs ns := by
      obtain ⟨l', r', p, rfl, h1, h2⟩ := inv_bin hc
      exact snd_bin (sX G l l' vs ns h1).1 (sX G r r' vs ns h2).1
    refine ⟨hE, ?_⟩
    obtain ⟨_, _, _, rfl, _⟩ := inv_bin hc
    exact sndT_val rfl (fun ρ H Q X => rfl) hE
  | .una op e, e', vs, ns, hc => by
    have hE : SndE C d (.una op e) e' vs ns := by
      obtain ⟨x, p, rfl, h1⟩ := inv_una hc
      exact snd_una (sX G e x vs ns h1).1
    refine ⟨hE, ?_⟩
    by_cases hop : op = .Not
    · subst hop
      obtain ⟨x, p, rfl, h1⟩ := inv_una hc
      exact sndT_not (sX G e x vs ns h1).2
    · have := hE
      obtain ⟨x, p, rfl, h1⟩ := inv_una hc
      refine sndT_val ?_ (fun ρ H Q X => ?_) this
      · cases op <;> first | rfl | exact absurd rfl hop
      · cases op <;> first | exact absurd rfl hop | rfl
  | .cmp op l r, e', vs, ns, hc => by
    have hE : SndE C d (.cmp op l r) e' vs ns := by
      obtain ⟨l', r', p, rfl, h0, h1, h2⟩ := inv_cmp hc
      exact snd_cmp h0 (sX G l l' vs ns h1).1 (sX G r r' vs ns h2).1
    refine ⟨hE, ?_⟩
    obtain ⟨l', r', p, rfl, h0, h1, h2⟩ := inv_cmp hc
    exact sndT_cmp h0 (sX G l l' vs ns h1).1 (sX G r r' vs ns h2).1
  | .cmp2 o1 o2 l m r, e', vs, ns, hc => by
    have hE : SndE C d (.cmp2 o1 o2 l m r) e' vs ns := by
      obtain ⟨l', m', r', p, rfl, _, h0, h1, h2, h3⟩ := inv_cmp2 hc
      exact snd_cmp2 h0 (sX G l l' vs ns h1).1 (sX G m m' vs ns h2).1 (sX G r r' vs ns h3).1
    refine ⟨hE, ?_⟩
    obtain ⟨l', m', r', p, rfl, _, h0, h1, h2, h3⟩ := inv_cmp2 hc
    exact sndT_cmp2 h0 (sX G l l' vs ns h1).1 (sX G m m' vs ns h2).1 (sX G r r' vs ns h3).1
  | .bop op es, e', vs, ns, hc => by
    have hE : SndE C d (.bop op es) e' vs ns := by
      obtain ⟨es', p, rfl, h1⟩ := inv_bop hc
      intro env A s ρ H Q X ES ea ok fi W
      dsimp only [wpE] at W
      rw [arm_eval_BoolOp]
      exact (sXs G es es' vs ns h1).1.b env A s ρ H Q X p ES ea ok fi W
    refine ⟨hE, ?_⟩
    obtain ⟨es', p, rfl, h1⟩ := inv_bop hc
    exact sndT_bop (sXs G es es' vs ns h1).2.a
  | .ife c a b, e', vs, ns, hc => by
    have hE : SndE C d (.ife c a b) e' vs ns := by
      obtain ⟨c', a', b', p, rfl, h1, h2, h3⟩ := inv_ife hc
      exact snd_ife (sX G c c' vs ns h1).2 (sX G a a' vs ns h2).1 (sX G b b' vs ns h3).1
    refine ⟨hE, ?_⟩
    obtain ⟨c', a', b', p, rfl, h1, h2, h3⟩ := inv_ife hc
    exact sndT_ife (sX G c c' vs ns h1).2 (sX G a a' vs ns h2).2 (sX G b b' vs ns h3).2
  | .lst es, e', vs, ns, hc => by
    have hE : SndE C d (.lst es) e' vs ns := by
      obtain ⟨es', p, rfl, h1⟩ := inv_lst hc
      exact snd_lst ((sXs G es es' vs ns h1).1.es h1)
    refine ⟨hE, ?_⟩
    obtain ⟨_, _, rfl, _⟩ := inv_lst hc
    exact sndT_val rfl (fun ρ H Q X => rfl) hE
  | .tup es, e', vs, ns, hc => by
    have hE : SndE C d (.tup es) e' vs ns := by
      obtain ⟨es', k, p, rfl, h1⟩ := inv_tup hc
      exact snd_tup ((sXs G es es' vs ns h1).1.es h1)
    refine ⟨hE, ?_⟩
    obtain ⟨_, _, _, rfl, _⟩ := inv_tup hc
    exact sndT_val rfl (fun ρ H Q X => rfl) hE
  | .emp k, e', vs, ns, hc => by
    have hE : SndE C d (.emp k) e' vs ns := by
      obtain ⟨p, rfl⟩ := inv_emp hc
      exact snd_emp G
    refine ⟨hE, ?_⟩
    obtain ⟨_, rfl⟩ := inv_emp hc
    exact sndT_val rfl (fun ρ H Q X => rfl) hE
  | .dct ks es, e', vs, ns, hc => by
    have hE : SndE C d (.dct ks es) e' vs ns := by
      obtain ⟨ks', es', p, rfl, h0, h1, h2, h3, h4, h5⟩ := inv_dct hc
      exact snd_dct G h0 h1 h2 h4 h5 h3
    refine ⟨hE, ?_⟩
    obtain ⟨_, _, _, rfl, _⟩ := inv_dct hc
    exact sndT_val rfl (fun ρ H Q X => rfl) hE
  | .sub o i, e', vs, ns, hc => by
    have hE : SndE C d (.sub o i) e' vs ns := by
      obtain ⟨o', i', p, rfl, h0, h1, h2⟩ := inv_sub hc
      exact snd_sub h0 (sX G o o' vs ns h1).1 (sX G i i' vs ns h2).1
    refine ⟨hE, ?_⟩
    obtain ⟨_, _, _, rfl, _⟩ := inv_sub hc
    exact sndT_val rfl (fun ρ H Q X => rfl) hE
  | .sli o l u t, e', vs, ns, hc => by
    have hE : SndE C d (.sli o l u t) e' vs ns := by
      obtain ⟨o', l', u', t', q, p, rfl, h1, h2, h3, h4⟩ := inv_sli hc
      have hl : SndO C d l l' vs ns := by
        rcases chkO_inv h2 with ⟨rfl, rfl⟩ | ⟨x, rfl, h⟩
        · exact sndO_none
        · exact (sX G l x vs ns h).1
      have hu : SndO C d u u' vs ns := by
        rcases chkO_inv h3 with ⟨rfl, rfl⟩ | ⟨x, rfl, h⟩
        · exact sndO_none
        · exact (sX G u x vs ns h).1
      have ht : SndO C d t t' vs ns := by
        rcases chkO_inv h4 with ⟨rfl, rfl⟩ | ⟨x, rfl, h⟩
        · exact sndO_none
        · exact (sX G t x vs ns h).1
      exact snd_sli (sX G o o' vs ns h1).1 hl hu ht
    refine ⟨hE, ?_⟩
    obtain ⟨_, _, _, _, _, _, rfl, _⟩ := inv_sli hc
    exact sndT_val rfl (fun ρ H Q X => rfl) hE
  | .call f es, e', vs, ns, hc => by
    have hE : SndE C d (.call f es) e' vs ns := by
      obtain ⟨id, q, es', p, rfl, h1, h2⟩ := inv_call hc
      exact snd_call G h1 h2 ((sXs G es es' vs ns h2).1.es h2)
    refine ⟨hE, ?_⟩
    obtain ⟨_, _, _, _, rfl, _⟩ := inv_call hc
    exact sndT_val rfl (fun ρ H Q X => rfl) hE
  | .meth o m es, e', vs, ns, hc => by
    have hE : SndE C d (.meth o m es) e' vs ns := by
      obtain ⟨o', ap, es', p, rfl, h0, h1, h2, h3, h4⟩ := inv_meth hc
      exact snd_meth h0 h1 h2 h4 (sX G o o' vs ns h3).1 ((sXs G es es' vs ns h4).1.es h4)
    refine ⟨hE, ?_⟩
    obtain ⟨_, _, _, _, rfl, _⟩ := inv_meth hc
    exact sndT_val rfl (fun ρ H Q X => rfl) hE
  | .att o a, e', vs, ns, hc => by
    have hE : SndE C d (.att o a) e' vs ns := by
      obtain ⟨o', p, rfl, h0, h1⟩ := inv_att hc
      exact snd_att h0 (sX G o o' vs ns h1).1
    refine ⟨hE, ?_⟩
    obtain ⟨_, _, rfl, _⟩ := inv_att hc
    exact sndT_val rfl (fun ρ H Q X => rfl) hE
  | .comp k elt it ifs, e', vs, ns, hc => by
    have hE : SndE C d (.comp k elt it ifs) e' vs ns := by
      obtain ⟨elt', t', it', ifs', sc, p, tg, rfl, h0, h1, h2, h3, h4, h5, h6, h7, h8, h9, h10, h11⟩ := inv_comp hc
      subst h1
      exact snd_comp h0 h2 h3 h4 h5 h6 h7 h8 (sX G it it' vs ns h9).1 (sX G elt elt' _ _ h10).1 (sXs G ifs ifs' _ _ h11).2.ts
    refine ⟨hE, ?_⟩
    obtain ⟨_, _, _, _, _, _, _, rfl, _⟩ := inv_comp hc
    exact sndT_val rfl (fun ρ H Q X => rfl) hE
theorem sXs (G : C.Good) : ∀ (es : List Ex) (es' : List Expr) (vs : Vs) (ns : Ns), chkEs vs ns es es' = true → AllE C d vs ns es es' ∧ AllT C d vs ns es es'
  | [], es', vs, ns, hc => by rw [inv_nil hc]; exact ⟨trivial, trivial⟩
  | e :: es, es', vs, ns, hc => by
    obtain ⟨e1, es1, rfl, h1, h2⟩ := inv_cons hc
    exact ⟨⟨(sX G e e1 vs ns h1).1, (sXs G es es1 vs ns h2).1⟩, ⟨(sX G e e1 vs ns h1).2, (sXs G es es1 vs ns h2).2⟩⟩
end
theorem sE (G : C.Good) (e : Ex) (e' : Expr) (vs : Vs) (ns : Ns) (h : chkE vs ns e e' = true) : SndE C d e e' vs ns := (sX G e e' vs ns h).1
theorem sT (G : C.Good) (e : Ex) (e' : Expr) (vs : Vs) (ns : Ns) (h : chkE vs ns e e' = true) : SndT C d e e' vs ns := (sX G e e' vs ns h).2
theorem sAllT (G : C.Good) (es : List Ex) (es' : List Expr) (vs : Vs) (ns : Ns) (h : chkEs vs ns es es' = true) : AllT C d vs ns es es' := (sXs G es es' vs ns h).2
end
end Vc
end

section
set_option autoImplicit false
set_option linter.unusedVariables false
namespace Vc
open PySem

structure Itr (C : Cx) (d : Md) (sv : Sv) (t' : Expr) (I : Addr) (Is : Addr → Prop) (At : Heap → Nat → Prop) : Prop where
  keep : ∀ {D : Addr → Prop} {H H' : MH} {s s' : Shared} {i : Nat}, At s.heap i → Step C D H s H' s' → (∀ b, Is b → H b = none) → (∀ b, Is b → ¬ D b) → At s'.heap i
  ex : ∀ {h : Heap} {i : Nat}, At h i → ∀ b, Is b → ∃ o vs, h.get? b = some o ∧ o.data = .fields vs
  item : ∀ {H : MH} {s : Shared} {A : Around} {i : Nat} {all : List V} {x : V} {P : Value → Shared → Prop} {E : Value → Shared → Prop}, Ok C d H A s → At s.heap i → (∀ b, Is b → H b = none) → (∀ b, Is b → C.h0.get? b = none) →
    svItems H sv = some all → all[i]? = some x → (∀ cv s', Step C Is H s H s' → VR C s'.heap x cv → At s'.heap (i + 1) → P cv s') →
    wpAny C.M A (pyNext (.ref I)) (fun r s1 => ∃ cv, r = some cv ∧ wpAny C.M A (letOwnedTupleGo t' (.ref I) cv) (fun _ s2 => P cv s2) E s1) E s
  done : ∀ {H : MH} {s : Shared} {A : Around} {i : Nat} {all : List V} {P : Shared → Prop} {E : Value → Shared → Prop}, Ok C d H A s → At s.heap i → (∀ b, Is b → H b = none) → (∀ b, Is b → C.h0.get? b = none) →
    svItems H sv = some all → all.length ≤ i → (∀ s', Step C Is H s H s' → P s') → wpAny C.M A (pyNext (.ref I)) (fun r s1 => r = none ∧ P s1) E s

section
variable {C : Cx} {d : Md} {t' : Expr} {I : Addr}

theorem itr_pl {iv : V} (hq : Itq d iv) : Itr C d (.pl iv) t' I (· = I) (fun h i => ItAt C h iv I i) where
  keep := fun x y hI hD => x.step y (hI I rfl) (hD I rfl)
  ex := fun x b hb => by subst hb; obtain ⟨o, T, vs, h1, _, _, _, h3⟩ := x.there; exact ⟨o, vs, h1, h3⟩
  item := fun ok it hI h0 hi hx hP => next_item ok it (hI I rfl) (h0 I rfl) hi hx fun s' cv st it' vr => ⟨cv, rfl, it_go it' (hP cv s' st vr it')⟩
  done := fun ok it hI h0 hi hx hP => next_end ok hq it (hI I rfl) (h0 I rfl) hi hx fun s' st => ⟨rfl, hP s' st⟩

theorem enumd_get : ∀ {l : List V} {n i : Nat} {x : V}, (enumd n l)[i]? = some x → ∃ y, l[i]? = some y ∧ x = .tup [.int ((n + i : Nat) : Int), y]
  | [], _, _, _, h => by simp [enumd] at h
  | y :: l, n, 0, x, h => by simp [enumd] at h; exact ⟨y, rfl, by rw [← h]; simp⟩
  | y :: l, n, i + 1, x, h => by
    simp only [enumd, List.getElem?_cons_succ] at h
    obtain ⟨z, h1, h2⟩ := enumd_get h
    exact ⟨z, by simpa using h1, by rw [h2]; congr 3; omega⟩
theorem enumd_length : ∀ (l : List V) (n : Nat), (enumd n l).length = l.length
  | [], _ => rfl
  | _ :: l, n => by simp [enumd, enumd_length l]

noncomputable def EnAt (a e it : Addr) (h : Heap) (i : Nat) : Prop := (∃ old, IsEnum h e it i old) ∧ h.IsListIter it a i

theorem itr_en {a e it : Addr} {es : List Expr} {k : Nat} {p : Pos} (hq : d.q = true) (hne : e ≠ it) : Itr C d (.en (.ref a)) (.Tuple es k p) e (fun b => b = e ∨ b = it) (EnAt a e it) where
  keep := fun {D H H' s s' i} x y hI hD => by
    obtain ⟨⟨old, h1⟩, o, h2, h3, h4⟩ := x
    refine ⟨⟨old, ?_⟩, o, ?_, h3, h4⟩
    · obtain ⟨sl, w, q⟩ := y.chg e _ h1 (hI e (.inl rfl)) (hD e (.inl rfl))
      rw [q (by intro es ep z; cases z)] at w; exact w
    · obtain ⟨sl, w, q⟩ := y.chg it _ h2 (hI it (.inr rfl)) (hD it (.inr rfl))
      rw [q (by intro es ep z; rw [h4] at z; cases z)] at w; exact w
  ex := fun x b hb => by
    obtain ⟨⟨old, h1⟩, o, h2, h3, h4⟩ := x
    rcases hb with rfl | rfl
    · exact ⟨_, _, h1, rfl⟩
    · exact ⟨o, _, h2, h4⟩
  item := fun {H s A i all x P E} ok at_ hI h0 hi hx hP => by
    obtain ⟨⟨old, h1⟩, h2⟩ := at_
    simp only [svItems] at hi
    obtain ⟨l, hl, rfl⟩ := Option.map_eq_some_iff.mp hi
    obtain ⟨y, hy, rfl⟩ := enumd_get hx
    obtain ⟨items, hL, rs⟩ := list_of ok.rel hl
    obtain ⟨cv, e1, e2⟩ := rs.get hy
    refine wpAny_pyNext_enum_item h1 h2 hL (x := cv) (by simpa using e1) hne fun h' ho hit' htp hsz kp => ?_
    refine ⟨_, rfl, ?_⟩
    refine wpAny_letOwnedTupleGo_enum ho fun h'' he'' sb => ?_
    obtain ⟨o2, g2, g3, g4⟩ := id h2
    have loose : ∀ b o, s.heap.get? b = some o → (b = e ∨ b = it) → Loose o ∧ ∀ es ep, o.data ≠ .dict es ep := fun b o w hb => by
      rcases hb with rfl | rfl
      · rw [h1] at w; cases w; exact ⟨.inr (.inr ⟨"enumerate", rfl, by decide, by decide⟩), by intro es ep z; cases z⟩
      · rw [g2] at w; cases w; exact ⟨.inr (.inr ⟨_, g3, by decide, by decide⟩), by intro es ep z; rw [g4] at z; cases z⟩
    have st : Step C (fun b => b = e ∨ b = it) H s H { s with heap := h'', toks := s.toks + 1 } := by
      refine Step.but ok.rel ok.top (fun b o w nb => ?_) hI h0 (fun b o w hb => (loose b o w hb).1) (fun b o es ep w hb z => ((loose b o w hb).2 es ep z).elim) rfl rfl
      have n1 : b ≠ e := fun q => nb (.inl q)
      have n2 : b ≠ it := fun q => nb (.inr q)
      exact (sb.2 b n1).trans (kp b o n1 n2 w)
    refine hP _ _ st ?_ ⟨⟨cv, by have : ((i : Int) + 1) = ((i + 1 : Nat) : Int) := by omega
                                 rw [← this]; exact he''⟩, ?_⟩
    · dsimp only [VR]
      have htp' : h''.get? s.heap.objs.size = some { cls := .type "tuple", data := .seq #[.int (i : Int) s.toks, cv] } := by
        rw [sb.2 _ (fun q => ?_)]
        · exact htp
        · have := Heap.lt_size h1; rw [← q] at this; exact absurd this (Nat.lt_irrefl _)
      refine ⟨_, #[.int (i : Int) s.toks, cv], rfl, ⟨_, htp', rfl, 0, rfl⟩, ?_⟩
      · show VRs C h'' [V.int ((0 + i : Nat) : Int), y] [.int (i : Int) s.toks, cv]
        exact VRs.cons (by dsimp only [VR]; exact ⟨s.toks, by simp⟩) (VRs.cons (e2.keep st.vk) VRs.nil)
    · obtain ⟨o3, g5, g6⟩ := hit'
      exact ⟨o3, (sb.2 it (Ne.symm hne)).trans g5, g6⟩
  done := fun {H s A i all P E} ok at_ hI h0 hi hx hP => by
    obtain ⟨⟨old, h1⟩, h2⟩ := at_
    simp only [svItems] at hi
    obtain ⟨l, hl, rfl⟩ := Option.map_eq_some_iff.mp hi
    rw [enumd_length] at hx
    obtain ⟨items, hL, rs⟩ := list_of ok.rel hl
    have hlen := rs.length
    refine wpAny_pyNext_enum_end (ok.hnd.1 hq) h1 h2 hL (by rw [Array.getElem?_eq_none_iff]; simp at hlen; omega) fun h' eb => ⟨rfl, hP _ ?_⟩
    obtain ⟨o2, g2, g3, g4⟩ := id h2
    have loose : ∀ b o, s.heap.get? b = some o → (b = e ∨ b = it) → Loose o ∧ ∀ es ep, o.data ≠ .dict es ep := fun b o w hb => by
      rcases hb with rfl | rfl
      · rw [h1] at w; cases w; exact ⟨.inr (.inr ⟨"enumerate", rfl, by decide, by decide⟩), by intro es ep z; cases z⟩
      · rw [g2] at w; cases w; exact ⟨.inr (.inr ⟨_, g3, by decide, by decide⟩), by intro es ep z; rw [g4] at z; cases z⟩
    refine Step.but ok.rel ok.top (fun b o w nb => eb b o (fun q => nb (.inr q)) w) hI h0 (fun b o w hb => (loose b o w hb).1) (fun b o es ep w hb z => ((loose b o w hb).2 es ep z).elim) rfl rfl
end
end Vc
end

section
set_option autoImplicit false
set_option linter.unusedVariables false
namespace Vc
open PySem

noncomputable def FlR (C : Cx) (h : Heap) : Fl → Flow → Prop
  | .next, f => f = .next
  | .ret v, f => ∃ cv, f = .ret cv ∧ VR C h v cv

noncomputable def SP (C : Cx) (env : Env) (vs : Vs) (D : Addr → Prop) (H : MH) (s : Shared) (K : KP) (fl : Flow) (s' : Shared) : Prop :=
  ∃ f ρ' H', Step C D H s H' s' ∧ FI C env vs ρ' H' s'.heap ∧ FlR C s'.heap f fl ∧ K f ρ' H'
noncomputable def XSt (C : Cx) (env : Env) (vs : Vs) (X : XS) : XH := fun c H h => ∃ ρ', FI C env vs ρ' H h ∧ X c ρ' H

section
variable {C : Cx} {d : Md} {env : Env} {vs : Vs} {ns : Ns} {ρ : Lo} {H H1 H' : MH} {s s1 s' s'' : Shared} {A : Around} {K : KP} {X : XS} {D : Addr → Prop}

theorem stX_St : StX C (XSt C env vs X) := fun c H s s' D st hrec hX => by
  obtain ⟨ρ', fi, x⟩ := hX
  refine ⟨ρ', fi.step st (fun q => ?_) fun z c e q => ?_, x⟩
  · obtain ⟨m, ⟨o, es, ep, ho, hd, _⟩, _⟩ := fi.ns
    obtain ⟨ws, w⟩ := hrec _ o q ho; rw [hd] at w; cases w
  · obtain ⟨_, _, oc, o, ho, hd⟩ := fi.cex z c e
    obtain ⟨ws, w⟩ := hrec _ o q ho; rw [hd] at w; cases w

theorem old_ofD (x : Step C D H s H' s') (hx : ∀ b, D b → ∃ o, s'.heap.get? b = some o) {b : Addr} (e : s'.heap.get? b = none) : s.heap.get? b = none := by
  cases q : s.heap.get? b with
  | none => rfl
  | some o =>
    by_cases u : (H b).isSome = true
    · obtain ⟨ob, w⟩ := x.rel.there (x.dom b u); rw [e] at w; cases w
    · by_cases dd : D b
      · obtain ⟨ob, w⟩ := hx b dd; rw [e] at w; cases w
      · obtain ⟨sl, w, _⟩ := x.chg b o q (by simpa using u) dd; rw [e] at w; cases w
theorem Fly.backD {tr : Bool} {a : Addr} {c : String} {h : Heap} (st : Step C D H s H' s') (hx : ∀ b, D b → ∃ o, s'.heap.get? b = some o) (x : Fly C tr s' a c h) : Fly C tr s a c h := by
  obtain ⟨new, o, ws, r, h1, h2, h3, h4, h5, h6, h7⟩ := x
  exact ⟨old_ofD st hx new, o, ws, r, h1, h2, h3, h4, h5, h6, h7.imp id fun ⟨T, oT, ts, g1, g2, g3⟩ => ⟨T, oT, ts, g1, old_ofD st hx g2, g3⟩⟩
theorem XG.backD {tr : Bool} {X : XH} {e : Value} (st : Step C D H s H' s') (hx : ∀ b, D b → ∃ o, s'.heap.get? b = some o) (x : XG tr C D H' s' X e s'') : XG tr C D H s X e s'' := by
  obtain ⟨a, c, H2, h1, h2, h3, h4, h5⟩ := x
  exact ⟨a, c, H2, h1, st.trans h2, h3, h4.backD st hx, h5⟩
theorem SP.back {fl : Flow} (st : Step C D H s H' s') (x : SP C env vs D H' s' K fl s'') : SP C env vs D H s K fl s'' := by
  obtain ⟨f, ρ', H2, h1, h2, h3, h4⟩ := x
  exact ⟨f, ρ', H2, st.trans h1, h2, h3, h4⟩

theorem XG.toS {e : Value} (fi : FI C env vs ρ H s.heap) (x : XQ false C No H s (fun c H1 => X c ρ H1) e s') : XG false C (Dm env) H s (XSt C env vs X) e s' := by
  obtain ⟨a, c, H2, h1, h2, h3, h4, h5⟩ := x
  exact ⟨a, c, H2, h1, h2.weaken fi.dm, (fi.stepN h2).dm, h4, ρ, fi.stepN h2, h5⟩

noncomputable def SndS (C : Cx) (d : Md) (t : St) (t' : Stmt) (vs : Vs) (ns : Ns) : Prop :=
  ∀ env A s ρ H K X, EnvS env vs ns → EA A env → Ok C d H A s → FI C env vs ρ H s.heap → wpS C d t ρ H K X → wpAny C.M A (exec t' env) (SP C env vs (Dm env) H s K) (XG false C (Dm env) H s (XSt C env vs X)) s
noncomputable def SndSs (C : Cx) (d : Md) (t : List St) (t' : List Stmt) (vs : Vs) (ns : Ns) : Prop :=
  ∀ env A s ρ H K X, EnvS env vs ns → EA A env → Ok C d H A s → FI C env vs ρ H s.heap → wpSs C d t ρ H K X → wpAny C.M A (execs t' env) (SP C env vs (Dm env) H s K) (XG false C (Dm env) H s (XSt C env vs X)) s

theorem sndS_ret {e : Ex} {e' : Expr} {p : Pos} (h : SndE C d e e' vs ns) : SndS C d (.ret e) (.Return (some e') p) vs ns := by
  intro env A s ρ H K X ES ea ok fi W
  dsimp only [wpS] at W
  exact wpAny_Return_some (wpAny_mono (h env A s ρ H _ _ ES ea ok fi W) (fun cv s1 ⟨v, H1, st1, r1, W1⟩ => ⟨.ret v, ρ, H1, st1.weaken fi.dm, fi.stepN st1, ⟨cv, rfl, r1⟩, W1⟩) fun _ _ x => x.toS fi)

theorem swaps_no {e' : Expr} {t : Option Expr} {n : Nat} (h : notComp e' = true) : swapsWith e' t n env = pure false := by
  cases e' <;> first | rfl | (exact (Bool.false_ne_true h).elim)
theorem not_inter (ES : EnvS env vs ns) : interactive env = false := by unfold interactive; rw [ES.kind]; rfl
theorem sndS_exp {e : Ex} {e' : Expr} {p : Pos} (hn : notComp e' = true) (h : SndE C d e e' vs ns) : SndS C d (.exp e) (.Expr e' p) vs ns := by
  intro env A s ρ H K X ES ea ok fi W
  dsimp only [wpS] at W
  exact wpAny_Expr_any (wpAny_mono (h env A s ρ H _ _ ES ea ok fi W) (fun cv s1 ⟨v, H1, st1, r1, W1⟩ => ⟨.next, ρ, H1, st1.weaken fi.dm, fi.stepN st1, rfl, W1⟩) fun _ _ x => x.toS fi) (not_inter ES) (swaps_no hn)
theorem sndS_ife {c : Ex} {a b : List St} {c' : Expr} {a' b' : List Stmt} {p : Pos} (hc : SndT C d c c' vs ns) (ha : SndSs C d a a' vs ns) (hb : SndSs C d b b' vs ns) : SndS C d (.ife c a b) (.If c' a' b' p) vs ns := by
  intro env A s ρ H K X ES ea ok fi W
  dsimp only [wpS] at W
  refine wpAny_If (wpAny_mono (hc env A s ρ H _ _ ES ea ok fi W) (fun t s1 ⟨H1, st1, W1⟩ => ?_) fun _ _ x => x.toS fi)
  have st := st1.weaken fi.dm
  cases t with
  | true => rw [if_pos rfl] at W1 ⊢; exact wpAny_mono (ha env A s1 ρ H1 K X ES ea (ok.step st1) (fi.stepN st1) W1) (fun _ _ h => h.back st) fun _ _ h => h.backD st (fi.stepN st1).dm
  | false => rw [if_neg (by decide)] at W1 ⊢; exact wpAny_mono (hb env A s1 ρ H1 K X ES ea (ok.step st1) (fi.stepN st1) W1) (fun _ _ h => h.back st) fun _ _ h => h.backD st (fi.stepN st1).dm
theorem sndS_pas {p : Pos} : SndS C d .pas (.Pass p) vs ns := by
  intro env A s ρ H K X ES ea ok fi W
  dsimp only [wpS] at W
  exact wpAny_Pass ⟨.next, ρ, H, ok.refl, fi, rfl, W⟩

theorem sndSs_nil : SndSs C d [] [] vs ns := by
  intro env A s ρ H K X ES ea ok fi W
  dsimp only [wpSs] at W
  exact wpAny_execs_nil ⟨.next, ρ, H, ok.refl, fi, rfl, W⟩
theorem sndSs_cons {t : St} {ts : List St} {t' : Stmt} {ts' : List Stmt} (h : SndS C d t t' vs ns) (hs : SndSs C d ts ts' vs ns) : SndSs C d (t :: ts) (t' :: ts') vs ns := by
  intro env A s ρ H K X ES ea ok fi W
  dsimp only [wpSs] at W
  refine wpAny_execs_cons (wpAny_mono (h env A s ρ H _ X ES ea ok fi W) (fun fl s1 ⟨f, ρ1, H1, st1, fi1, fr, W1⟩ => ?_) fun _ _ x => x)
  cases f with
  | next =>
    cases fr
    exact wpAny_mono (hs env A s1 ρ1 H1 K X ES ea (ok.step st1) fi1 W1) (fun _ _ h => h.back st1) fun _ _ h => h.backD st1 fi1.dm
  | ret v =>
    obtain ⟨cv, rfl, r⟩ := fr
    exact ⟨.ret v, ρ1, H1, st1, fi1, ⟨cv, rfl, r⟩, W1⟩

theorem sndS_asg {i : Nat} {e : Ex} {id : Str} {q p : Pos} {e' : Expr} (hv : vOk vs i id = true) (h : SndE C d e e' vs ns) (hn : notComp e' = true) : SndS C d (.asg i e) (.Assign [.Name id q] e' p) vs ns := by
  intro env A s ρ H K X ES ea ok fi W
  dsimp only [wpS] at W
  refine wpAny_Assign_Name (wpAny_mono (h env A s ρ H _ _ ES ea ok fi W) (fun cv s1 ⟨v, H1, st1, r1, W1⟩ => ?_) fun _ _ x => x.toS fi) (swaps_no hn)
  refine store_one ES (ok.step st1) (fi.stepN st1) hv r1 fun s2 st2 fi2 => ?_
  exact ⟨.next, _, H1, (st1.weaken fi.dm).trans (st2.widen fun b hb => dx_dm hb), fi2, rfl, W1⟩
end
end Vc
end

section
set_option autoImplicit false
set_option linter.unusedVariables false
namespace Vc
open PySem

section
variable {C : Cx} {d : Md} {env : Env} {vs : Vs} {ns : Ns} {ρ : Lo} {H H1 H' : MH} {s s1 s' s'' : Shared} {A : Around} {K : KP} {X : XS} {D : Addr → Prop}

theorem sndS_asgC {i : Nat} {id : Str} {q p0 : Pos} (hv : vOk vs i id = true)
    {elt it : Ex} {ifs : List Ex} {elt' it' t' : Expr} {ifs' : List Expr} {sc : Scope} {p : Pos} {tg : List Str} (ht : tgt? t' = some tg) (hl : ∀ x ∈ tg, sc.names.lookup x = some .local) (nd : tg.Nodup) (hk : sc.kind = .function)
    (hnc : ∀ x ∈ sc.names, x.2 ≠ .cell) (hnl : ∀ x ∈ sc.names, x.2 = .local → sc.names.lookup x.1 = some .local) (hfr : ∀ x ∈ sc.names, x.2 = .free → (x.1, Vk.cel) ∈ vs) (hns : notSet it' = true)
    (hit : SndE C d it it' vs ns) (hE : SndE C d elt elt' (innerVs vs (relab sc.names ns) tg) (relab sc.names ns)) (hT : SndTs C d ifs ifs' (innerVs vs (relab sc.names ns) tg) (relab sc.names ns)) :
    SndS C d (.asg i (.comp tg.length elt it ifs)) (.Assign [.Name id q] (.ListComp elt' [⟨t', it', ifs', 0⟩] sc p) p0) vs ns := by
  intro env A s ρ H K X ES ea ok fi W
  have hsnd := snd_comp (p := p) ht hl nd hk hnc hnl hfr hns hit hE hT
  dsimp only [wpS] at W
  have hsw : ∃ b, swapsWith (.ListComp elt' [⟨t', it', ifs', 0⟩] sc p) (some (.Name id q)) p0.line env = pure b := ⟨_, rfl⟩
  obtain ⟨b, hsw⟩ := hsw
  cases b with
  | false =>
    refine wpAny_Assign_Name (wpAny_mono (hsnd env A s ρ H _ _ ES ea ok fi W) (fun cv s1 ⟨v, H1, st1, r1, W1⟩ => ?_) fun _ _ x => x.toS fi) hsw
    refine store_one ES (ok.step st1) (fi.stepN st1) hv r1 fun s2 st2 fi2 => ?_
    exact ⟨.next, _, H1, (st1.weaken fi.dm).trans (st2.widen fun b hb => dx_dm hb), fi2, rfl, W1⟩
  | true =>
    rw [exec_Assign_Name_used _ _ _ _ hsw]
    refine wpAny_bind (wpAny_standAt (wpAny_bind ?_))
    show wpAny _ A (do let _ ← comprehension (.ListComp elt' [⟨t', it', ifs', 0⟩] sc p) sc env _ (newList []) false (eval it' env) (some (assign (.Name id q) env))) _ _ s
    dsimp only [wpE] at W
    have hf : ∀ x ∈ sc.names, x.2 = .free → (env.cells.lookup x.1).isSome = true := fun x hx e => by
      obtain ⟨i, hi⟩ := List.mem_iff_getElem?.mp (hfr x hx e)
      obtain ⟨c, oc, h1, _⟩ := fi.cel i x.1 hi
      rw [h1]; rfl
    refine wpAny_bind (wpAny_mono (wpAny_comprehension_free (use := some (assign (.Name id q) env)) (Q := fun _ s' => SP C env vs (Dm env) H s K .next s') rfl (fun x => folded hns) (closure_of hf) hk hnl ?_) (fun _ s' hq => wpAny_pure (wpAny_pure hq)) fun _ _ e => e)
    refine wpAny_mono (hit env A s ρ H _ _ ES ea ok fi W) (fun civ s1 ⟨iv, H1, st1, r1, all, hq, hi, hsz, W1⟩ => ?_) fun _ _ x => x.toS fi
    have ok1 := ok.step st1
    have fi1 := fi.stepN st1
    refine iter_of ok1 hq r1 hi fun I s2 st2 hI hit2 => ?_
    refine comp_core (E := XG false C (Dm env) H s (XSt C env vs X)) ES ea ok1 fi1 ht hl nd hk hnc hf (fun env' s H ρ' Q e1 e2 e3 e4 w => hT env' A s ρ' H Q _ e1 e2 e3 e4 w) (fun env' s H ρ' Q e1 e2 e3 e4 w => hE env' A s ρ' H Q _ e1 e2 e3 e4 w) hq hsz W1 st2 hI hit2
      (fun Dl Cn s' av Hc items st hDl hCn hDC hcD hcC pl rs hm hK => ?_) (fun Dl Cn s' e hDl hCn x => ?_)
    · -- the list is stored, then the table let go
      have stN := st.shed (di_new hI hDl hCn)
      have stL := stN.adopt (o := .lst av) hDl ⟨fresh_top ok1.top hDl, items, pl, rs⟩
      have fiL := fi1.stepN stL
      show wpAny C.M A (assign (.Name id q) env (.ref Dl)) _ _ s'
      refine wpAny_assign_Name (store_one (v := .ref Dl) ES (ok1.step stL) fiL hv (by dsimp only [VR]) fun s3 st3 fi3 => ?_)
      obtain ⟨m, hm⟩ := hm
      have hH2 : (upd Hc Dl (.lst av)) Cn = none := by rw [upd_ne (Ne.symm hDC)]; exact hcC
      have hnD : ¬ Dx env vs i Cn := fun hb => by
        rcases dx_dm hb with e | ⟨x, e⟩
        · obtain ⟨m, ⟨o, _, _, ho, _⟩, _⟩ := fi1.ns; rw [← e, hCn] at ho; cases ho
        · obtain ⟨_, _, oc, o, ho, _⟩ := fi1.cex x Cn e; rw [hCn] at ho; cases ho
      have hm3 : s3.heap.Ns Cn m := Ns.slots hm fun o ho => by
        obtain ⟨sl, w, _⟩ := st3.chg Cn o ho hH2 hnD; exact ⟨sl, w⟩
      refine ⟨m, hm3, fun h' sb => ?_⟩
      have hlo : ∀ o, s3.heap.get? Cn = some o → Loose o := fun o e => by obtain ⟨o', es, ep, ho, hd, _⟩ := hm3; rw [ho] at e; cases e; exact .inl ⟨es, ep, hd⟩
      have stA : Step C (Dm env) H1 s1 (upd Hc Dl (.lst av)) s3 := (stL.weaken fi1.dm).trans (st3.widen fun b hb => dx_dm hb)
      have stB := stA.after hCn hH2 ok1.top hlo sb
      have vsx : VS s3.heap h' := ⟨fun b o e so => (sb.2 b fun q => (hlo o (q ▸ e)).not_solid so).trans e, fun b o ws r e c dd => ⟨o, ws, (sb.2 b fun q => (hlo o (q ▸ e)).not_exc c dd).trans e, ⟨rfl, rfl⟩, dd, rfl⟩⟩
      refine ⟨.next, _, _, (st1.weaken fi.dm).trans stB, ?_, rfl, hK.2 Dl hcD⟩
      obtain ⟨m3, hn3, hr3⟩ := fi3.ns
      have hLC : env.locals ≠ Cn := by rintro q; obtain ⟨m, ⟨o, _, _, ho, _⟩, _⟩ := fi1.ns; rw [q, hCn] at ho; cases ho
      refine ⟨fi3.len, fi3.locH, fi3.loc0, ⟨m3, hn3.sameBut sb hLC, fun j x v e l => ?_⟩, fun j x e => ?_, fun x c e => ?_⟩
      · obtain ⟨cv, e1, e2⟩ := hr3 j x v e l; exact ⟨cv, e1, e2.keepS vsx⟩
      · obtain ⟨c, oc, g1, g2, g3, g4, g5⟩ := fi3.cel j x e
        refine ⟨c, oc, g1, g2, g3, g4.sameBut sb (fun q => ?_), fun v l => ?_⟩
        · obtain ⟨_, _, oc, o, ho, _⟩ := fi1.cex x c g1; rw [q, hCn] at ho; cases ho
        · obtain ⟨cv, e1, e2⟩ := g5 v l; exact ⟨cv, e1, e2.keepS vsx⟩
      · obtain ⟨g1, g2, oc, g3⟩ := fi3.cex x c e
        refine ⟨g1, g2, oc, g3.sameBut sb fun q => ?_⟩
        obtain ⟨_, _, oc, o, ho, _⟩ := fi1.cex x c e; rw [q, hCn] at ho; cases ho
    · obtain ⟨a, c, Hc, rfl, st, hD, fl, hX, hcC, m, hm⟩ := x
      refine ⟨m, hm, fun h' sb cenv' hcl => ?_⟩
      have hlo : ∀ o, s'.heap.get? Cn = some o → Loose o := fun o e => by obtain ⟨o', es, ep, ho, hd, _⟩ := hm; rw [ho] at e; cases e; exact .inl ⟨es, ep, hd⟩
      have st' := (st.after hCn hcC ok1.top hlo sb).shed (di_new hI hDl hCn)
      have hne : ∀ b o, s'.heap.get? b = some o → (∃ vs, o.data = .fields vs) → b ≠ Cn := fun b o e ⟨vs, hv⟩ q => by
        obtain ⟨o', es, ep, ho, hd, _⟩ := hm; rw [q, ho] at e; cases e; rw [hd] at hv; cases hv
      have fl' : Fly C true s1 a c h' := by
        obtain ⟨new, o, ws, r, h1, h2, h3, h4, h5, h6, h7⟩ := fl
        refine ⟨new, o, ws, r, (sb.2 a (hne a o h1 ⟨ws, h4⟩)).trans h1, h2, h3, h4, h5, h6, h7.imp (fun z => z) ?_⟩
        rintro ⟨T, oT, ts, g1, g2, g3, g4, g5, g6, g7⟩
        exact ⟨T, oT, ts, g1, g2, g3, (sb.2 T (hne T oT g4 ⟨ts, g6⟩)).trans g4, g5, g6, g7⟩
      have x' : XQ true C No H1 s1 (fun c H1 => X c ρ H1) (.ref a) { s' with heap := h' } := ⟨a, c, Hc, rfl, st', fun _ f => f.elim, fl', hX⟩
      exact passing stX_up ok1 x' fun s'' x'' => ((XG.mono x'').back st1).toS fi

theorem sndS_unp {is : List Nat} {e : Ex} {ts : List Expr} {k : Nat} {q p : Pos} {e' : Expr} {xs : List Str} (hx : names? ts = some xs) (hc : chkTg vs is xs = true) (h2 : 2 ≤ ts.length) (h : SndE C d e e' vs ns) (hn : notComp e' = true) (htp : notTuple e' = true) :
    SndS C d (.unp is e) (.Assign [.Tuple ts k q] e' p) vs ns := by
  intro env A s ρ H K X ES ea ok fi W
  dsimp only [wpS] at W
  refine wpAny_Assign_stores (wpAny_mono (h env A s ρ H _ _ ES ea ok fi W) (fun cv s1 ⟨v, H1, st1, r1, l, hv, hq, hl, W1⟩ => ?_) fun _ _ x => x.toS fi) (show swapsWith e' (some (.Tuple ts k q)) p.line env = pure false from swaps_no hn) (by
    unfold swappedStores
    cases e' <;> first | rfl | (exact (Bool.false_ne_true htp).elim))
  subst hv
  show wpAny C.M A (assignAll cv [assign (.Tuple ts k q) env]) _ _ s1
  show wpAny C.M A (assign (.Tuple ts k q) env cv) _ _ s1
  have hil : is.length = ts.length := by
    have h1 : ∀ {is : List Nat} {xs : List Str}, chkTg vs is xs = true → is.length = xs.length := by
      intro is
      induction is with
      | nil => intro xs h; cases xs <;> simp [chkTg] at h; rfl
      | cons i is ih => intro xs h; cases xs <;> simp [chkTg] at h; simp [ih h.2]
    have h2 : ∀ {ts : List Expr} {xs : List Str}, names? ts = some xs → ts.length = xs.length := by
      intro ts
      induction ts with
      | nil => intro xs h; cases h; rfl
      | cons t ts ih =>
        intro xs h
        cases t with
        | Name id p => dsimp only [names?] at h; obtain ⟨r, e1, e2⟩ := Option.map_eq_some_iff.mp h; subst e2; simp [ih e1]
        | _ => exact (Option.some_ne_none _ h.symm).elim
    rw [h1 hc, h2 hx]
  refine assign_tgt (tg := xs) ES (by dsimp only [tgt?]; rw [if_pos h2]; exact hx) hc (ok.step st1) (fi.stepN st1) r1 (show parts is.length (.tup l) = some l by unfold parts; rw [if_neg (by omega)]; dsimp only; rw [if_pos hl]) fun s2 st2 fi2 => ?_
  exact ⟨.next, _, H1, (st1.weaken fi.dm).trans (st2.widen fun b hb => dxs_dm hb), fi2, rfl, W1⟩

theorem sndS_seti {o i e : Ex} {o' i' e' : Expr} {q p : Pos} (hn : notComp e' = true) (he : SndE C d e e' vs ns) (ho : SndE C d o o' vs ns) (hi : SndE C d i i' vs ns) : SndS C d (.seti o i e) (.Assign [.Subscript o' i' q] e' p) vs ns := by
  intro env A s ρ H K X ES ea ok fi W
  dsimp only [wpS] at W
  refine wpAny_Assign_Subscript (wpAny_mono (he env A s ρ H _ _ ES ea ok fi W) (fun cv s1 ⟨v, H1, st1, r1, W1⟩ => ?_) fun _ _ x => x.toS fi) (swaps_no hn)
  refine wpAny_mono (ho env A s1 ρ H1 _ _ ES ea (ok.step st1) (fi.stepN st1) W1) (fun co s2 ⟨ov, H2, st2, r2, W2⟩ => ?_) fun _ _ x => (x.back st1).toS fi
  have st12 := st1.trans st2
  refine wpAny_mono (hi env A s2 ρ H2 _ _ ES ea (ok.step st12) (fi.stepN st12) W2) (fun ci s3 ⟨iv, H3, st3, r3, W3⟩ => ?_) fun _ _ x => (x.back st12).toS fi
  have st123 := st12.trans st3
  refine wpAny_mono (W3 A s3 co ci cv (ok.step st123) (r2.keep st3.vk) r3 ((r1.keep st2.vk).keep st3.vk)) (fun _ s4 ⟨H4, st4, W4⟩ => ?_) fun _ _ x => (x.back st123).toS fi
  have st := st123.trans st4
  exact ⟨.next, ρ, H4, st.weaken fi.dm, fi.stepN st, rfl, W4⟩
end
end Vc
end

section
set_option autoImplicit false
set_option linter.unusedVariables false
namespace Vc
open PySem

section
variable {C : Cx} {d : Md} {env : Env} {vs : Vs} {ns : Ns} {ρ : Lo} {H H1 H' : MH} {s s1 s2 s' s'' : Shared} {A : Around} {K : KP} {X : XS} {D : Addr → Prop}

theorem frl_of (ok : Ok C d H1 A s1) {fenv : Env} {outer : List Env} (hfr : A.frames = some (fenv :: outer)) {H' : MH} {s' : Shared} (st : Step C D H1 s1 H' s') : FrL C H' s'.heap (fenv :: outer) := by
  obtain ⟨l, e, f⟩ := ok.frs
  rw [hfr] at e; cases e
  exact f.step st

theorem rec_dm {b : Addr} {o : Obj} {ws : Array Value} (fi : FI C env vs ρ H s.heap) (e : s.heap.get? b = some o) (hd : o.data = .fields ws) : ¬ Dm env b := fun hb => by
  rcases hb with rfl | ⟨x, h⟩
  · obtain ⟨m, ⟨o', es, ep, ho, hd', _⟩, _⟩ := fi.ns; rw [e] at ho; cases ho; rw [hd] at hd'; cases hd'
  · obtain ⟨_, _, oc, o', ho, hd'⟩ := fi.cex x b h; rw [e] at ho; cases ho; rw [hd] at hd'; cases hd'

theorem for_core {k : List Nat} {sv : Sv} {t' : Expr} {xs : List Str} {body : List St} {body' : List Stmt} {I : Addr} {Is : Addr → Prop} {At : Heap → Nat → Prop} {all : List V}
    (it : Itr C d sv t' I Is At) (ES : EnvS env vs ns) (ea : EA A env) (ok : Ok C d H1 A s1) (fi : FI C env vs ρ H1 s1.heap)
    (ht : tgt? t' = some xs) (hc : chkTg vs k xs = true) (hb : SndSs C d body body' vs ns) (st2 : Step C No H1 s1 H1 s2) (hnew : ∀ b, Is b → s1.heap.get? b = none) (hat : At s2.heap 0)
    (W : wpF k sv all (fun ρ' H' K' => wpSs C d body ρ' H' K' X) all ρ H1 K) :
    codeAny C.M A (.forLoop t' (.ref I) body' [] env) (fun r s' => match r with | .ok f => SP C env vs (Dm env) H1 s1 K f s' | .error e => cameBackBy C.M A env (XG false C (Dm env) H1 s1 (XSt C env vs X)) e s') s2 := by
  obtain ⟨fenv, outer, hfr, hff⟩ := id ea
  have hz : ∀ b, Is b → C.h0.get? b = none := fun b hb => fresh_top ok.top (hnew b hb)
  have err : ∀ (Hx : MH) (sx : Shared) (ρx : Lo), Step C (Dm env) H1 s1 Hx sx → FI C env vs ρx Hx sx.heap → ∀ e s', XG false C (Dm env) Hx sx (XSt C env vs X) e s' →
      notedBy C.M A env (fun e s' => cameBackBy C.M A env (XG false C (Dm env) H1 s1 (XSt C env vs X)) e s') e s' := by
    intro Hx sx ρx stx fix e s' hx
    have h1 := hx.backD stx fix.dm
    have cb : ∀ e s', XG true C (Dm env) H1 s1 (XSt C env vs X) e s' → cameBackBy C.M A env (XG false C (Dm env) H1 s1 (XSt C env vs X)) e s' := fun e s' h =>
      wpAny_mono (cameBack (env := env) stX_St ok h) (fun _ _ h => h.mono) fun _ _ h => h.mono
    exact wpAny_mono (note stX_St ok hfr hff (fun H' s' st => frl_of ok hfr st) h1) (fun _ s'' h => cb e s'' h) fun e' s'' h => cb e' s'' h
  refine codeAny_forLoop_any (fun n s => ∃ i ρc Hc, n = all.length - i ∧ i ≤ all.length ∧ Step C (Dm env) H1 s1 Hc s ∧ At s.heap i ∧ (∀ b, Is b → Hc b = none) ∧ FI C env vs ρc Hc s.heap ∧
    wpF k sv all (fun ρ' H' K' => wpSs C d body ρ' H' K' X) (all.drop i) ρc Hc K) (fun n s hI => ?_) all.length
    ⟨0, ρ, H1, by simp, Nat.zero_le _, st2.weaken fi.dm, hat, fun b hb => ok.rel.fresh (hnew b hb), fi.stepN st2, by simpa using W⟩
  obtain ⟨i, ρc, Hc, hn, hi, st, hatc, hHc, fic, Wc⟩ := hI
  have okc := ok.step st
  have walk : ∀ sb, Step C Is Hc s Hc sb → Step C (Dm env) H1 s1 Hc sb ∧ FI C env vs ρc Hc sb.heap := fun sb stb => by
    refine ⟨st.trans_new stb hnew fic.dm, fic.step stb (fun q => ?_) fun z c e q => ?_⟩
    · obtain ⟨o, ws, h1, h2⟩ := it.ex hatc _ q; exact rec_dm fic h1 h2 (.inl rfl)
    · obtain ⟨o, ws, h1, h2⟩ := it.ex hatc _ q; exact rec_dm fic h1 h2 (.inr ⟨z, e⟩)
  rcases Nat.lt_or_ge i all.length with hlt | hge
  · have hdrop : all.drop i = all[i] :: all.drop (i + 1) := List.drop_eq_getElem_cons hlt
    (rw [hdrop] at Wc; dsimp only [wpF] at Wc)
    obtain ⟨hitems, xv, hparts, Wx⟩ := Wc
    let nb : Value → Shared → Prop := notedBy C.M A env fun e s' => cameBackBy C.M A env (XG false C (Dm env) H1 s1 (XSt C env vs X)) e s'
    let bp : Unit → Shared → Prop := fun _ s₂ => wpAny C.M A (execs body' env) (fun f s₃ => match f with
            | .next | .cont => ∃ m, m < n ∧ ∃ i ρc Hc, m = all.length - i ∧ i ≤ all.length ∧ Step C (Dm env) H1 s1 Hc s₃ ∧ At s₃.heap i ∧ (∀ b, Is b → Hc b = none) ∧ FI C env vs ρc Hc s₃.heap ∧
                wpF k sv all (fun ρ' H' K' => wpSs C d body ρ' H' K' X) (all.drop i) ρc Hc K
            | .brk => SP C env vs (Dm env) H1 s1 K .next s₃
            | .ret v => SP C env vs (Dm env) H1 s1 K (.ret v) s₃) nb s₂
    refine wpAny_mono (it.item okc hatc hHc hz hitems (x := all[i]) (by simp [hlt]) (P := fun cv sb => wpAny C.M A (assign t' env cv) bp nb sb) (E := nb) fun cv sb stb vrb atb => ?_) (fun r s3 hr => ?_) fun _ _ h => h
    · obtain ⟨stB, fib⟩ := walk sb stb
      refine assign_tgt ES ht hc (okc.step stb) fib vrb hparts fun sc stc fic' => ?_
      have stcD : Step C (Dm env) Hc sb Hc sc := stc.widen fun b hb => dxs_dm hb
      have stC := stB.trans stcD
      have atc : At sc.heap (i + 1) := it.keep atb stcD hHc fun b hb => by obtain ⟨o, ws, h1, h2⟩ := it.ex atb b hb; exact rec_dm fib h1 h2
      refine wpAny_mono (hb env A sc _ Hc _ X ES ea (ok.step stC) fic' Wx) (fun fl sd hsd => ?_) fun e s' he => err Hc sc _ stC fic' e s' he
      obtain ⟨f, ρd, Hd, std, fid, frd, Wd⟩ := hsd
      have stD := stC.trans std
      cases f with
      | next =>
        cases frd
        refine ⟨all.length - (i + 1), by omega, i + 1, ρd, Hd, rfl, hlt, stD, it.keep atc std hHc (fun b hb => by obtain ⟨o, ws, h1, h2⟩ := it.ex atc b hb; exact rec_dm fic' h1 h2), fun b hb => ?_, fid, Wd⟩
        obtain ⟨o, ws, h1, h2⟩ := it.ex atc b hb
        exact std.gone h1 (hHc b hb)
      | ret v =>
        obtain ⟨cv', rfl, r⟩ := frd
        exact ⟨.ret v, ρd, Hd, stD, fid, ⟨cv', rfl, r⟩, Wd⟩
    · obtain ⟨cv, rfl, hr⟩ := hr
      exact hr
  · have hdrop : all.drop i = [] := by simp; omega
    (rw [hdrop] at Wc; dsimp only [wpF] at Wc)
    refine wpAny_mono (it.done okc hatc hHc hz Wc.1 hge (P := fun sb => SP C env vs (Dm env) H1 s1 K .next sb) (E := notedBy C.M A env fun e s' => cameBackBy C.M A env (XG false C (Dm env) H1 s1 (XSt C env vs X)) e s') fun sb stb => ?_) (fun r s3 hr => ?_) fun _ _ h => h
    · obtain ⟨stB, fib⟩ := walk sb stb
      exact ⟨.next, ρc, Hc, stB, fib, rfl, Wc.2⟩
    · obtain ⟨rfl, hr⟩ := hr
      exact wpAny_execs_nil hr
end
end Vc
end

section
set_option autoImplicit false
set_option linter.unusedVariables false
namespace Vc
open PySem

theorem callee_type {C : Cx} {T : String} : Callee C (.type T) := fun A s Q E _ h => by
  unfold keeperOf; exact wpAny_pure (h _)
theorem callee_builtin {C : Cx} {T : String} : Callee C (.builtin T) := fun A s Q E _ h => by
  unfold keeperOf; exact wpAny_pure (h _)

section
variable {C : Cx} {d : Md} {env : Env} {vs : Vs} {ns : Ns} {ρ : Lo} {H H1 H' : MH} {s s1 s2 s' s'' : Shared} {A : Around} {K : KP} {X : XS} {D : Addr → Prop}

theorem sndS_for_pl {k : List Nat} {e : Ex} {t' e' : Expr} {xs : List Str} {body : List St} {body' : List Stmt} {p : Pos} (ht : tgt? t' = some xs) (hc : chkTg vs k xs = true) (hns : notSet e' = true) (he : SndE C d e e' vs ns) (hb : SndSs C d body body' vs ns) :
    SndS C d (.for k (.pl e) body) (.For t' e' body' [] p) vs ns := by
  intro env A s ρ H K X ES ea ok fi W
  dsimp only [wpS, wpSr] at W
  refine wpAny_For (wpAny_mono (he env A s ρ H _ _ ES ea ok fi W) (fun civ s1 ⟨iv, H1, st1, r1, all, hq, hi, W1⟩ => ?_) fun _ _ x => x.toS fi) (fun x => folded hns)
  have ok1 := ok.step st1
  have fi1 := fi.stepN st1
  have stw := st1.weaken fi.dm
  refine iter_of ok1 hq r1 hi fun I s2 st2 hI hit2 => ?_
  refine codeAny_mono (for_core (itr_pl hq) ES ea ok1 fi1 ht hc hb st2 (fun b hb => by subst hb; exact hI) hit2 W1) fun r s' hr => ?_
  cases r with
  | ok f => exact hr.back stw
  | error e => exact wpAny_mono hr (fun _ _ h => h.backD stw fi1.dm) fun _ _ h => h.backD stw fi1.dm

theorem sndS_for_en {k : List Nat} {e : Ex} {ts : List Expr} {kk : Nat} {tp : Pos} {x' : Expr} {id : Str} {q q2 p : Pos} {xs : List Str} {body : List St} {body' : List Stmt} (G : C.Good) (ht : tgt? (.Tuple ts kk tp) = some xs) (hc : chkTg vs k xs = true)
    (hg : gOk ns "enumerate" id = true) (hx : chkE vs ns e x' = true) (he : SndE C d e x' vs ns) (hb : SndSs C d body body' vs ns) : SndS C d (.for k (.en e) body) (.For (.Tuple ts kk tp) (.Call (.Name id q) [x'] [] q2) body' [] p) vs ns := by
  intro env A s ρ H K X ES ea ok fi W
  dsimp only [wpS, wpSr] at W
  obtain ⟨hG, W⟩ := W
  have hcs : chkEs vs ns [e] [x'] = true := by dsimp only [chkEs]; rw [hx]; rfl
  refine wpAny_For (wpAny_Call_Name_kw (load_gl G ES hg ok.top hG ?_)) (fun x => rfl)
  refine callWith_any (starEach_false hcs q2) callee_type ?_
  rw [starEach_cons (chk_notStar hx), backTo_cons]
  refine Calls.spliced_cons (wpAny_mono (he env A s ρ H _ _ ES ea ok fi W) (fun civ s1 ⟨iv, H1, st1, r1, all, hq, hi, W1⟩ => Calls.spliced_nil ⟨st1.top, ?_⟩) fun _ _ x => x.toS fi)
  have ok1 := ok.step st1
  have fi1 := fi.stepN st1
  have stw := st1.weaken fi.dm
  have hiv : ∃ a, iv = .ref a := by
    cases iv with
    | ref a => exact ⟨a, rfl⟩
    | _ => simp [svItems] at hi
  obtain ⟨a, rfl⟩ := hiv
  dsimp only [VR] at r1
  subst r1
  have hi' := hi
  simp only [svItems] at hi
  obtain ⟨l, hl, _⟩ := Option.map_eq_some_iff.mp hi
  obtain ⟨items, hL, rs⟩ := list_of ok1.rel hl
  show wpAny C.M A (call (.type "enumerate") [.ref a]) _ _ s1
  refine call_enumerate_list hL fun h' hen hit hsz kp => ?_
  have st2 : Step C No H1 s1 H1 { s1 with heap := h' } := Step.keeps ok1.rel ok1.top kp rfl rfl
  refine wpAny_pyIter_enum hen ?_
  have hn1 : s1.heap.get? (s1.heap.objs.size + 1) = none := by
    cases q : s1.heap.get? (s1.heap.objs.size + 1) with
    | none => rfl
    | some o => exact absurd (Heap.lt_size q) (Nat.not_lt.mpr (Nat.le_succ _))
  refine codeAny_mono (for_core (itr_en (a := a) (e := s1.heap.objs.size + 1) (it := s1.heap.objs.size) hq.1 (Nat.succ_ne_self _)) ES ea ok1 fi1 ht hc hb st2 (fun b hb => by
    rcases hb with rfl | rfl
    · exact hn1
    · exact fresh_size _) ⟨⟨_, hen⟩, hit⟩ W1) fun r s' hr => ?_
  cases r with
  | ok f => exact hr.back stw
  | error e => exact wpAny_mono hr (fun _ _ h => h.backD stw fi1.dm) fun _ _ h => h.backD stw fi1.dm

theorem sndS_whl {c : Ex} {c' : Expr} {body : List St} {body' : List Stmt} {p : Pos} (hc : SndT C d c c' vs ns) (hb : SndSs C d body body' vs ns) : SndS C d (.whl c body) (.While c' body' [] p) vs ns := by
  intro env A s ρ H K X ES ea ok fi W
  dsimp only [wpS] at W
  obtain ⟨n, W⟩ := W
  obtain ⟨fenv, outer, hfr, hff⟩ := id ea
  have err : ∀ (Hx : MH) (sx : Shared) (ρx : Lo), Step C (Dm env) H s Hx sx → FI C env vs ρx Hx sx.heap → ∀ e s', XG false C (Dm env) Hx sx (XSt C env vs X) e s' →
      notedBy C.M A env (fun e s' => cameBackBy C.M A env (XG false C (Dm env) H s (XSt C env vs X)) e s') e s' := by
    intro Hx sx ρx stx fix e s' hx
    have h1 := hx.backD stx fix.dm
    have cb : ∀ e s', XG true C (Dm env) H s (XSt C env vs X) e s' → cameBackBy C.M A env (XG false C (Dm env) H s (XSt C env vs X)) e s' := fun e s' h =>
      wpAny_mono (cameBack (env := env) stX_St ok h) (fun _ _ h => h.mono) fun _ _ h => h.mono
    exact wpAny_mono (note stX_St ok hfr hff (fun H' s' st => frl_of ok hfr st) h1) (fun _ s'' h => cb e s'' h) fun e' s'' h => cb e' s'' h
  refine wpAny_While (codeAny_whileLoop (fun m s2 => ∃ ρc Hc, Step C (Dm env) H s Hc s2 ∧ FI C env vs ρc Hc s2.heap ∧ wpW (fun ρ' H' Q => wpT C d c ρ' H' Q (fun c H1 => X c ρ' H1)) (fun ρ' H' K' => wpSs C d body ρ' H' K' X) m ρc Hc K) (fun m s2 hI => ?_) n ⟨ρ, H, ok.refl, fi, W⟩)
  obtain ⟨ρc, Hc, st, fic, Wc⟩ := hI
  cases m with
  | zero => exact (show False from Wc).elim
  | succ m =>
    dsimp only [wpW] at Wc
    refine wpAny_mono (hc env A s2 ρc Hc _ _ ES ea (ok.step st) fic Wc) (fun t s3 ⟨H3, st3, W3⟩ => ?_) fun e s' x => err Hc s2 ρc st fic e s' (x.toS fic)
    have stw := st.trans (st3.weaken fic.dm)
    cases t with
    | true =>
      rw [if_pos rfl] at W3 ⊢
      refine wpAny_mono (hb env A s3 ρc H3 _ X ES ea (ok.step stw) (fic.stepN st3) W3) (fun fl s4 ⟨f, ρ4, H4, st4, fi4, fr4, W4⟩ => ?_) fun e s' x => err H3 s3 ρc stw (fic.stepN st3) e s' x
      have st' := stw.trans st4
      cases f with
      | next => cases fr4; exact ⟨m, by omega, ρ4, H4, st', fi4, W4⟩
      | ret v => obtain ⟨cv, rfl, r⟩ := fr4; exact ⟨.ret v, ρ4, H4, st', fi4, ⟨cv, rfl, r⟩, W4⟩
    | false =>
      rw [if_neg (by decide)] at W3 ⊢
      exact wpAny_execs_nil ⟨.next, ρc, H3, stw, fic.stepN st3, rfl, W3⟩
end
end Vc
end

section
set_option autoImplicit false
set_option linter.unusedVariables false
namespace Vc
open PySem

theorem lk_nones : ∀ {n i : Nat} {v : V}, lk (List.replicate n none) i ≠ some v
  | 0, _, _, h => by cases h
  | _ + 1, 0, _, h => by cases h
  | n + 1, i + 1, v, h => lk_nones (n := n) (i := i) (v := v) h

section
variable {C : Cx} {d : Md} {env : Env} {vs : Vs} {ns : Ns} {ρ : Lo} {H H1 H' : MH} {s s1 s2 s' s'' : Shared} {A : Around} {K : KP} {X : XS} {E : Value → Shared → Prop}

theorem name_goes {i : Nat} {n : Str} {pos : Pos} {Q : Unit → Shared → Prop} (ES : EnvS env vs ns) (ok : Ok C d H A s) (fi : FI C env vs ρ H s.heap) (hv : vs[i]? = some (n, Vk.loc))
    (hQ : ∀ s', Step C (Dm env) H s H s' → FI C env vs (nones ρ) H s'.heap → Q () s') : wpAny C.M A (do bindName env n .none; unbindBehindTheSuite env n pos) Q E s := by
  obtain ⟨m, hm, rm⟩ := fi.ns
  obtain ⟨o, es, ep, ho, hd, _⟩ := id hm
  refine wpAny_nameGoes (by unfold Env.kindOf; rw [ES.names]; exact ES.loc i n hv) hm (by rw [ES.kind]; rfl) fun h' m' hn hs => ?_
  have hd' : ∃ o' es' ep', h'.get? env.locals = some o' ∧ o'.data = .dict es' ep' := let ⟨o', es', ep', h1, h2, _⟩ := hn; ⟨o', es', ep', h1, h2⟩
  have st : Step C (· = env.locals) H s H { s with heap := h', toks := s.toks + 1 } := by
    refine Step.but ok.rel ok.top (fun b o e nb => (hs.2 b nb).trans e) (fun b q => by subst q; exact fi.locH) (fun b q => by subst q; exact fi.loc0) (fun b ob e q => ?_) (fun b ob es1 ep1 e q dd => ?_) rfl rfl
    · subst q; rw [ho] at e; cases e; exact .inl ⟨es, ep, hd⟩
    · subst q; exact hd'
  refine hQ _ (st.widen fun b hb => .inl hb) ⟨by simp [nones, fi.len], fi.locH, fi.loc0, ⟨m', hn, fun j x v _ l => (lk_nones l).elim⟩, fun j x e => ?_, fun x c e => ?_⟩
  · obtain ⟨c, oc, h1, h2, h3, ⟨o', ho', hd'⟩, h5⟩ := fi.cel j x e
    refine ⟨c, oc, h1, h2, h3, ⟨o', (hs.2 c fun q => ?_).trans ho', hd'⟩, fun v l => (lk_nones l).elim⟩
    subst q; rw [ho] at ho'; cases ho'; rw [hd] at hd'; cases hd'
  · obtain ⟨h1, h2, oc, o', ho', hd'⟩ := fi.cex x c e
    refine ⟨h1, h2, oc, o', (hs.2 c fun q => ?_).trans ho', hd'⟩
    subst q; rw [ho] at ho'; cases ho'; rw [hd] at hd'; cases hd'

theorem FlR.keep {f : Fl} {fl : Flow} {h h' : Heap} (k : VK h h') (x : FlR C h f fl) : FlR C h' f fl := by
  cases f with
  | next => exact x
  | ret v => obtain ⟨cv, e, r⟩ := x; exact ⟨cv, e, r.keep k⟩

theorem sndS_tre {body hb el : List St} {c : String} {as : Option Nat} {body' hb' el' : List Stmt} {t0 : Stmt} {nm : Option Str} {i0 : Str} {p q p2 : Pos} (G : C.Good) (hg : gOk ns c i0 = true) (ha : chkAs vs as nm = true)
    (sb : SndSs C d body body' vs ns) (sh : SndSs C d.in hb (t0 :: hb') vs ns) (se : SndSs C d el el' vs ns) : SndS C d (.tre body c as hb el) (.Try body' [.ExceptHandler (some (.Name i0 q)) nm (t0 :: hb') p] el' [] p2) vs ns := by
  intro env A s ρ H K X ES ea ok fi W
  dsimp only [wpS] at W
  obtain ⟨fenv, outer, hfr, hff⟩ := id ea
  refine wpAny_Try_except (wpAny_mono (sb env A s ρ H _ _ ES ea ok fi W) (fun f s1 hf => ?_) fun e s1 hx => ?_)
  · obtain ⟨fl, ρ1, H1, st1, fi1, hr, hk⟩ := hf
    cases fl with
    | next => rw [show f = .next from hr]; exact wpAny_mono (se env A s1 ρ1 H1 K X ES ea (ok.step st1) fi1 hk) (fun _ _ h => h.back st1) fun _ _ h => h.backD st1 fi1.dm
    | ret v => obtain ⟨cv, rfl, r⟩ := hr; exact ⟨.ret v, ρ1, H1, st1, fi1, ⟨cv, rfl, r⟩, hk⟩
  · refine noteG stX_St ok hfr hff (fun H' s' st => frl_of ok hfr st) hx fun s2 x2 => flight stX_St ok.top x2 fun s3 x3 => ?_
    obtain ⟨a, c', H3, rfl, st3, hD, fl, ρ3, fi3, b, ⟨⟨rh, hG⟩, hE⟩, hk⟩ := x3
    refine wpAny_handleBy_cons (codeAny_handlers_test (load_gl G ES hg st3.top hG ?_)) (by intro q; cases q)
    obtain ⟨o, ws, r, ho, hc, hgc, _⟩ := fl.obj
    refine hE _ _ a o r rh st3.top ho hc hgc.1 hG _ _ ?_
    cases b with
    | false =>
      have x3 : XG true C (Dm env) H s (XSt C env vs X) (.ref a) s3 := ⟨a, c', H3, rfl, st3, hD, fl, ρ3, fi3, hk⟩
      exact wpAny_handleBy_nil (passing stX_St ok x3 fun s'' x => x.mono)
    | true =>
      rw [if_pos rfl] at hk
      have x3 : XG true C (Dm env) H s (XSt C env vs fun c1 ρ' H' => c1 = c' ∧ wpSs C d.in hb (asV as ρ' c') H' (fun f ρ2 H2 => K f (asO as ρ2) H2) (fun _ _ _ => False)) (.ref a) s3 := ⟨a, c', H3, rfl, st3, hD, fl, ρ3, fi3, rfl, hk⟩
      have eam : EA (A.mark (some (.ref a))) env := ea
      have mid : ∀ (s4 : Shared) (H4 : MH), Step C (Dm env) H s H4 s4 → Fly C true s a c' s4.heap → Ok C d.in H4 (A.mark (some (.ref a))) s4 := fun s4 H4 st4 fl4 => by
        obtain ⟨o, ws, r, ho, hc, hgc, hd, _, h2, _⟩ := fl4.obj
        exact ⟨st4.rel, st4.top, ok.room, ⟨(fun q => (Bool.false_ne_true q).elim), Or.inr ⟨a, o, ws, r, rfl, ho, hc, hd, h2⟩⟩, (ok.step st4).frs⟩
      show codeAny C.M (A.mark (some (.ref a))) (.handlers (.ref a) [.ExceptHandler none nm (t0 :: hb') p] env) _ s3
      cases as with
      | none =>
        cases nm with
        | some _ => exact (Bool.false_ne_true ha).elim
        | none =>
          refine codeAny_handlers_suite (flight stX_St ok.top x3 fun s4 x4 => ?_)
          obtain ⟨a4, c4, H4, e4, st4, hD4, fl4, ρ4, fi4, rfl, hk4⟩ := x4
          cases e4
          refine wpAny_mono (sh env _ s4 _ H4 _ _ ES eam (mid s4 H4 st4 fl4) fi4 hk4) (fun f s5 h5 => h5.back st4) fun e s5 h5 => ?_
          obtain ⟨_, _, _, _, _, _, _, _, _, ff⟩ := h5
          exact ff.elim
      | some i =>
        cases nm with
        | none => exact (Bool.false_ne_true ha).elim
        | some n =>
          have hv : vs[i]? = some (n, Vk.loc) := eq_of_beq ha
          refine codeAny_handlers_suite_as (flight stX_St ok.top x3 fun s4 x4 => ?_)
          obtain ⟨a4, c4, H4, e4, st4, hD4, fl4, ρ4, fi4, rfl, hk4⟩ := x4
          cases e4
          obtain ⟨o4, ws4, r4, ho4, hc4, hgc4, hd4, _⟩ := fl4.obj
          have okm := mid s4 H4 st4 fl4
          refine store_one ES okm fi4 (v := .exc c4) (by unfold vOk; rw [hv]; simp) (by dsimp only [VR]; exact ⟨_, o4, ws4, r4, rfl, ho4, hc4, hgc4, hd4⟩) fun s5 st5 fi5 => ?_
          have st5' : Step C (Dm env) H4 s4 H4 s5 := st5.widen fun b hb => dx_dm hb
          have st45 := st4.trans st5'
          refine wpAny_mono (sh env _ s5 _ H4 _ _ ES eam (okm.step st5) fi5 hk4) (fun f s6 h6 => ?_) fun e s6 h6 => ?_
          · obtain ⟨fl6, ρ6, H6, st6, fi6, hr6, hk6⟩ := h6
            have st46 := st45.trans st6
            refine name_goes ES (ok.step st46) fi6 hv fun s7 st7 fi7 => ⟨fl6, nones ρ6, H6, st46.trans st7, fi7, hr6.keep st7.vk, hk6⟩
          · obtain ⟨_, _, _, _, _, _, _, _, _, ff⟩ := h6
            exact ff.elim
end
end Vc
end

section
set_option autoImplicit false
set_option linter.unusedVariables false
namespace Vc
open PySem

section
variable {C : Cx} {d : Md} {env : Env} {vs : Vs} {ns : Ns} {ρ : Lo} {H H1 H' : MH} {s s1 s2 s' s'' : Shared} {A : Around} {K : KP} {X : XS} {D : Addr → Prop}

theorem sndS_seta {o e : Ex} {a : String} {o' e' : Expr} {q p : Pos} (hn : notComp e' = true) (he : SndE C d e e' vs ns) (ho : SndE C d o o' vs ns) : SndS C d (.seta o a e) (.Assign [.Attribute o' (Str.ofString a) q] e' p) vs ns := by
  intro env A s ρ H K X ES ea ok fi W
  dsimp only [wpS] at W
  refine wpAny_Assign_stores (wpAny_mono (he env A s ρ H _ _ ES ea ok fi W) (fun cv s1 ⟨v, H1, st1, r1, W1⟩ => ?_) fun _ _ x => x.toS fi) (show swapsWith e' (some (.Attribute o' (Str.ofString a) q)) p.line env = pure false from swaps_no hn) rfl
  show wpAny C.M A (do
    let ov ← holding [cv] (eval o' env)
    standAt q.atName
    holding [cv, ov] (setAttr ov (Str.ofString a) cv)
    release [cv, ov] []) _ _ s1
  refine wpAny_bind (wpAny_holding (wpAny_mono (ho env A s1 ρ H1 _ _ ES ea (ok.step st1) (fi.stepN st1) W1) (fun co s2 ⟨ov, H2, st2, r2, W2⟩ => ?_) fun _ _ x => (x.back st1).toS fi))
  have st12 := st1.trans st2
  refine wpAny_bind (wpAny_standAt (wpAny_bind (wpAny_holding (wpAny_mono (W2 A s2 co cv (ok.step st12) r2 (r1.keep st2.vk)) (fun _ s4 ⟨H4, st4, W4⟩ => ?_) fun _ _ x => (x.back st12).toS fi))))
  have st := st12.trans st4
  exact wpAny_release ⟨.next, ρ, H4, st.weaken fi.dm, fi.stepN st, rfl, W4⟩

theorem sndS_rais {c m : String} {id : Str} {q cp p1 p2 : Pos} {k : Nat} {y : Str} (hg : gOk ns c id = true) : SndS C d (.rais c m) (.Raise (some (.Call (.Name id q) [.Constant (.str y) k cp] [] p1)) none p2) vs ns := by
  intro env A s ρ H K X ES ea ok fi W
  dsimp only [wpS] at W
  unfold gOk at hg
  simp only [Bool.and_eq_true, beq_iff_eq, Bool.not_eq_true'] at hg
  obtain ⟨⟨rfl, hk⟩, hd⟩ := hg
  exact wpAny_mono (W A s y ok env p2 p1 q cp k (by unfold Env.kindOf; rw [ES.names]; exact hk) ES.kind ES.glb ES.blt) (fun _ _ f => f.elim) fun _ _ x => x.toS fi

theorem nosome {α : Type} {x : α} (h : (none : Option α) = some x) : False := by cases h
theorem nm_inv {e : Expr} {x : Str} {p : Pos} (h : nm? e = some (x, p)) : e = .Name x p := by
  cases e with
  | Name y q => cases h; rfl
  | _ => exact (nosome h).elim
theorem cst_inv {e : Expr} {r : Str × Nat × Pos} (h : cst? e = some r) : e = .Constant (.str r.1) r.2.1 r.2.2 := by
  cases e with
  | Constant c k p =>
    cases c with
    | str y => cases h; rfl
    | _ => exact (nosome h).elim
  | _ => exact (nosome h).elim
theorem as1_inv {t' : Stmt} {r : Expr × Expr × Pos} (h : as1? t' = some r) : t' = .Assign [r.1] r.2.1 r.2.2 := by
  cases t' with
  | Assign ts e p =>
    match ts, h with
    | [t], h => cases h; rfl
    | [], h => cases h
    | _ :: _ :: _, h => cases h
  | _ => exact (nosome h).elim
theorem ncE_inv {e : Ex} (h : ncE e = false) : ∃ k elt it ifs, e = .comp k elt it ifs := by
  cases e with
  | comp k elt it ifs => exact ⟨_, _, _, _, rfl⟩
  | _ => exact (Bool.false_ne_true h.symm).elim
theorem call1_inv {e : Expr} {r : Expr × Expr × Pos} (h : call1? e = some r) : e = .Call r.1 [r.2.1] [] r.2.2 := by
  cases e with
  | Call f as ks p =>
    match as, ks, h with
    | [t], [], h => cases h; rfl
    | [], _, h => cases h
    | _ :: _ :: _, _, h => cases h
    | [_], _ :: _, h => cases h
  | _ => exact (nosome h).elim
theorem rais_inv {t : Stmt} {r : Expr × Pos} (h : rais? t = some r) : t = .Raise (some r.1) none r.2 := by
  cases t with
  | Raise x y p =>
    match x, y, h with
    | some _, none, h => cases h; rfl
    | none, _, h => cases h
    | some _, some _, h => cases h
  | _ => exact (nosome h).elim
theorem inv_asg {i : Nat} {e : Ex} {t' : Stmt} (hc : chkS vs ns (.asg i e) t' = true) : ∃ id q e' p, t' = .Assign [.Name id q] e' p ∧ vOk vs i id = true ∧ (!ncE e || notComp e') = true ∧ chkE vs ns e e' = true := by
  have hc : ckA vs ns i e (as1? t') = true := hc
  cases h : as1? t' with
  | none => rw [h] at hc; cases hc
  | some r =>
    rw [as1_inv h]
    rw [h] at hc
    obtain ⟨t, e', p⟩ := r
    have hc : ckA2 vs ns i e e' (nm? t) = true := hc
    cases h2 : nm? t with
    | none => rw [h2] at hc; cases hc
    | some y =>
      rw [h2] at hc
      have h3 := Bool.and_eq_true_iff.mp hc
      have h4 := Bool.and_eq_true_iff.mp h3.1
      exact ⟨y.1, y.2, e', p, congrArg (fun t => Stmt.Assign [t] e' p) (nm_inv (p := y.2) h2), h4.1, h4.2, h3.2⟩
theorem inv_unp {is : List Nat} {e : Ex} {t' : Stmt} (hc : chkS vs ns (.unp is e) t' = true) : ∃ ts k q e' p xs, t' = .Assign [.Tuple ts k q] e' p ∧ names? ts = some xs ∧ (chkTg vs is xs && decide (2 ≤ ts.length) && notTuple e' && notComp e' && chkE vs ns e e') = true := by
  have hc : ckU vs ns is e (as1? t') = true := hc
  cases h : as1? t' with
  | none => rw [h] at hc; cases hc
  | some r =>
    rw [as1_inv h]
    rw [h] at hc
    clear h
    obtain ⟨t, e', p⟩ := r
    cases t with
    | Tuple us k q =>
      have hc : ckU2 vs ns is e us e' (names? us) = true := hc
      cases hx : names? us with
      | none => rw [hx] at hc; cases hc
      | some xs => rw [hx] at hc; exact ⟨_, _, _, _, _, xs, rfl, hx, hc⟩
    | _ => exact (Bool.false_ne_true hc).elim
theorem inv_seti {o i e : Ex} {t' : Stmt} (hc : chkS vs ns (.seti o i e) t' = true) : ∃ o' i' q e' p, t' = .Assign [.Subscript o' i' q] e' p ∧ (notSlice i' && notComp e' && chkE vs ns e e' && chkE vs ns o o' && chkE vs ns i i') = true := by
  have hc : ckI vs ns o i e (as1? t') = true := hc
  cases h : as1? t' with
  | none => rw [h] at hc; cases hc
  | some r =>
    rw [as1_inv h]
    rw [h] at hc
    clear h
    obtain ⟨t, e', p⟩ := r
    cases t with
    | Subscript o' i' q => exact ⟨_, _, _, _, _, rfl, hc⟩
    | _ => exact (Bool.false_ne_true hc).elim
theorem inv_seta {o e : Ex} {a : String} {t' : Stmt} (hc : chkS vs ns (.seta o a e) t' = true) : ∃ o' a' q e' p, t' = .Assign [.Attribute o' a' q] e' p ∧ (a' == Str.ofString a && notComp e' && chkE vs ns e e' && chkE vs ns o o') = true := by
  have hc : ckT vs ns o a e (as1? t') = true := hc
  cases h : as1? t' with
  | none => rw [h] at hc; cases hc
  | some r =>
    rw [as1_inv h]
    rw [h] at hc
    clear h
    obtain ⟨t, e', p⟩ := r
    cases t with
    | Attribute o' a' q => exact ⟨_, _, _, _, _, rfl, hc⟩
    | _ => exact (Bool.false_ne_true hc).elim
theorem inv_exp {e : Ex} {t' : Stmt} (hc : chkS vs ns (.exp e) t' = true) : ∃ e' p, t' = .Expr e' p ∧ (notComp e' && chkE vs ns e e') = true := by
  cases t' with
  | Expr e' p => exact ⟨_, _, rfl, hc⟩
  | _ => exact (Bool.false_ne_true hc).elim
theorem inv_ret {e : Ex} {t' : Stmt} (hc : chkS vs ns (.ret e) t' = true) : ∃ e' p, t' = .Return (some e') p ∧ chkE vs ns e e' = true := by
  cases t' with
  | Return v p =>
    cases v with
    | none => exact (Bool.false_ne_true hc).elim
    | some e' => exact ⟨_, _, rfl, hc⟩
  | _ => exact (Bool.false_ne_true hc).elim
theorem inv_if {c : Ex} {a b : List St} {t' : Stmt} (hc : chkS vs ns (.ife c a b) t' = true) : ∃ c' a' b' p, t' = .If c' a' b' p ∧ (chkE vs ns c c' && chkSs vs ns a a' && chkSs vs ns b b') = true := by
  cases t' with
  | If c' a' b' p => exact ⟨_, _, _, _, rfl, hc⟩
  | _ => exact (Bool.false_ne_true hc).elim
theorem inv_for {k : List Nat} {src : Src} {body : List St} {t' : Stmt} (hc : chkS vs ns (.for k src body) t' = true) : ∃ tg e' body' p xs, t' = .For tg e' body' [] p ∧ tgt? tg = some xs ∧ (chkTg vs k xs && chkTup src tg && chkSrc vs ns src e' && chkSs vs ns body body') = true := by
  cases t' with
  | For tg e' body' els p =>
    cases els with
    | nil =>
      have hc : (match tgt? tg with
        | none => false
        | some xs => chkTg vs k xs && chkTup src tg && chkSrc vs ns src e' && chkSs vs ns body body') = true := hc
      revert hc
      cases hx : tgt? tg with
      | none => intro hc; exact (Bool.false_ne_true hc).elim
      | some xs => intro hc; exact ⟨_, _, _, _, xs, rfl, hx, hc⟩
    | cons _ _ => exact (Bool.false_ne_true hc).elim
  | _ => exact (Bool.false_ne_true hc).elim
theorem inv_whl {c : Ex} {body : List St} {t' : Stmt} (hc : chkS vs ns (.whl c body) t' = true) : ∃ c' body' p, t' = .While c' body' [] p ∧ (chkE vs ns c c' && chkSs vs ns body body') = true := by
  cases t' with
  | While c' body' els p =>
    cases els with
    | nil => exact ⟨_, _, _, rfl, hc⟩
    | cons _ _ => exact (Bool.false_ne_true hc).elim
  | _ => exact (Bool.false_ne_true hc).elim
theorem inv_rais {c m : String} {t' : Stmt} (hc : chkS vs ns (.rais c m) t' = true) : ∃ id q y k cp p1 p2, t' = .Raise (some (.Call (.Name id q) [.Constant (.str y) k cp] [] p1)) none p2 ∧ gOk ns c id = true := by
  have hc : ckR0 ns c (rais? t') = true := hc
  cases h : rais? t' with
  | none => rw [h] at hc; cases hc
  | some r =>
    rw [rais_inv h]
    rw [h] at hc
    clear h
    obtain ⟨x, p⟩ := r
    have hc : ckR1 ns c (call1? x) = true := hc
    cases h1 : call1? x with
    | none => rw [h1] at hc; cases hc
    | some r1 =>
      rw [h1] at hc
      have e1 := call1_inv h1
      clear h1
      obtain ⟨f, a, p1⟩ := r1
      have hc : ckR ns c (nm? f) (cst? a) = true := hc
      cases h2 : nm? f with
      | none => rw [h2] at hc; cases hc
      | some r2 =>
        cases h3 : cst? a with
        | none => rw [h2, h3] at hc; cases hc
        | some r3 =>
          rw [h2, h3] at hc
          refine ⟨r2.1, r2.2, r3.1, r3.2.1, r3.2.2, p1, p, ?_, hc⟩
          rw [← nm_inv (p := r2.2) h2, ← cst_inv h3, e1]
theorem inv_tre {b hb el : List St} {c : String} {a : Option Nat} {t' : Stmt} (hc : chkS vs ns (.tre b c a hb el) t' = true) : ∃ b' i0 q nm t0 hb' p el' p2, t' = .Try b' [.ExceptHandler (some (.Name i0 q)) nm (t0 :: hb') p] el' [] p2 ∧
    (gOk ns c i0 && chkSs vs ns b b' && chkAs vs a nm && chkSs vs ns hb (t0 :: hb') && chkSs vs ns el el') = true := by
  cases t' with
  | Try b' hs el' fs p2 =>
    match hs, fs, hc with
    | [.ExceptHandler (some x) nm hb' p], [], hc =>
      have hc : (match nm? x with
        | none => false
        | some (id, _) => gOk ns c id && !hb'.isEmpty && chkSs vs ns b b' && chkAs vs a nm && chkSs vs ns hb hb' && chkSs vs ns el el') = true := hc
      cases h1 : nm? x with
      | none => rw [h1] at hc; exact (Bool.false_ne_true hc).elim
      | some r =>
        obtain ⟨i0, q⟩ := r
        rw [h1] at hc
        rw [nm_inv h1]
        cases hb' with
        | nil => simp at hc
        | cons t0 hb' =>
          refine ⟨_, _, _, _, _, _, _, _, _, rfl, ?_⟩
          simpa using hc
    | [], _, hc => exact (Bool.false_ne_true hc).elim
    | [.ExceptHandler none _ _ _], _, hc => exact (Bool.false_ne_true hc).elim
    | [.ExceptHandler (some _) _ _ _], _ :: _, hc => exact (Bool.false_ne_true hc).elim
    | .ExceptHandler none _ _ _ :: _ :: _, _, hc => exact (Bool.false_ne_true hc).elim
    | .ExceptHandler (some _) _ _ _ :: _ :: _, _, hc => exact (Bool.false_ne_true hc).elim
  | _ => exact (Bool.false_ne_true hc).elim
theorem inv_pas {t' : Stmt} (hc : chkS vs ns .pas t' = true) : ∃ p, t' = .Pass p := by
  cases t' with
  | Pass p => exact ⟨_, rfl⟩
  | _ => exact (Bool.false_ne_true hc).elim
theorem inv_en {e : Ex} {x : Expr} (hc : chkSrc vs ns (.en e) x = true) : ∃ id q e' p, x = .Call (.Name id q) [e'] [] p ∧ (gOk ns "enumerate" id && chkE vs ns e e') = true := by
  cases x with
  | Call f as ks p =>
    cases f with
    | Name id q =>
      match as, ks, hc with
      | [a], [], hc => exact ⟨_, _, _, _, rfl, hc⟩
      | [], _, hc => exact (Bool.false_ne_true hc).elim
      | _ :: _ :: _, _, hc => exact (Bool.false_ne_true hc).elim
      | [_], _ :: _, hc => exact (Bool.false_ne_true hc).elim
    | _ => exact (Bool.false_ne_true hc).elim
  | _ => exact (Bool.false_ne_true hc).elim
theorem inv_tupT {e : Ex} {x : Expr} (hc : chkTup (.en e) x = true) : ∃ ts k p, x = .Tuple ts k p := by
  cases x with
  | Tuple ts k p => exact ⟨_, _, _, rfl⟩
  | _ => exact (Bool.false_ne_true hc).elim
end
section
variable {C : Cx}
mutual
theorem sS (G : C.Good) {d : Md} : ∀ (t : St) (t' : Stmt) (vs : Vs) (ns : Ns), chkS vs ns t t' = true → SndS C d t t' vs ns
  | .asg i e, t', vs, ns, hc => by
    obtain ⟨id, q, e', p, rfl, h1, hn, h2⟩ := inv_asg hc
    cases he : ncE e with
    | true => rw [he] at hn; exact sndS_asg h1 (sE G e e' vs ns h2) hn
    | false =>
      obtain ⟨k, elt, it, ifs, rfl⟩ := ncE_inv he
      obtain ⟨elt', t', it', ifs', sc, p, tg, rfl, h0, h1', h2', h3, h4, h5, h6, h7, h8, h9, h10, h11⟩ := inv_comp h2
      subst h1'
      exact sndS_asgC h1 h0 h2' h3 h4 h5 h6 h7 h8 (sE G it it' vs ns h9) (sE G elt elt' _ _ h10) (sAllT G ifs ifs' _ _ h11).ts
  | .unp is e, t', vs, ns, hc => by
    obtain ⟨ts, k, q, e', p, xs, rfl, hx, hc⟩ := inv_unp hc
    simp only [Bool.and_eq_true, decide_eq_true_eq] at hc
    exact sndS_unp hx hc.1.1.1.1 hc.1.1.1.2 (sE G e _ vs ns hc.2) hc.1.2 hc.1.1.2
  | .seti o i e, t', vs, ns, hc => by
    obtain ⟨o', i', q, e', p, rfl, h0⟩ := inv_seti hc
    have h1 := Bool.and_eq_true_iff.mp h0
    have h2 := Bool.and_eq_true_iff.mp h1.1
    have h3 := Bool.and_eq_true_iff.mp h2.1
    have h4 := Bool.and_eq_true_iff.mp h3.1
    exact sndS_seti h4.2 (sE G e _ vs ns h3.2) (sE G o _ vs ns h2.2) (sE G i _ vs ns h1.2)
  | .seta o a e, t', vs, ns, hc => by
    obtain ⟨o', a', q, e', p, rfl, h0⟩ := inv_seta hc
    have h1 := Bool.and_eq_true_iff.mp h0
    have h2 := Bool.and_eq_true_iff.mp h1.1
    have h3 := Bool.and_eq_true_iff.mp h2.1
    cases eq_of_beq h3.1
    exact sndS_seta h3.2 (sE G e _ vs ns h2.2) (sE G o _ vs ns h1.2)
  | .exp e, t', vs, ns, hc => by
    obtain ⟨e', p, rfl, hc⟩ := inv_exp hc
    have h := Bool.and_eq_true_iff.mp hc
    exact sndS_exp h.1 (sE G e _ vs ns h.2)
  | .ret e, t', vs, ns, hc => by
    obtain ⟨e', p, rfl, hc⟩ := inv_ret hc
    exact sndS_ret (sE G e _ vs ns hc)
  | .ife c a b, t', vs, ns, hc => by
    obtain ⟨c', a', b', p, rfl, hc⟩ := inv_if hc
    have h := Bool.and_eq_true_iff.mp hc
    have h' := Bool.and_eq_true_iff.mp h.1
    exact sndS_ife (sT G c _ vs ns h'.1) (sSs G a _ vs ns h'.2) (sSs G b _ vs ns h.2)
  | .for k src body, t', vs, ns, hc => by
    obtain ⟨tg, e', body', p, xs, rfl, hx, hc⟩ := inv_for hc
    simp only [Bool.and_eq_true] at hc
    obtain ⟨⟨⟨h1, h2⟩, h3⟩, h4⟩ := hc
    cases src with
    | pl e =>
      have h3 := Bool.and_eq_true_iff.mp (show (notSet e' && chkE vs ns e e') = true from h3)
      exact sndS_for_pl hx h1 h3.1 (sE G e _ vs ns h3.2) (sSs G body _ vs ns h4)
    | en e =>
      obtain ⟨id, q, e1, p1, rfl, h3⟩ := inv_en h3
      have h3 := Bool.and_eq_true_iff.mp h3
      obtain ⟨us, k', p', rfl⟩ := inv_tupT h2
      exact sndS_for_en G hx h1 h3.1 h3.2 (sE G e _ vs ns h3.2) (sSs G body _ vs ns h4)
    | zp a b => intro env A s ρ H K X ES ea ok fi W; exact (show False from W).elim
  | .whl c body, t', vs, ns, hc => by
    obtain ⟨c', body', p, rfl, hc⟩ := inv_whl hc
    have h := Bool.and_eq_true_iff.mp hc
    exact sndS_whl (sT G c _ vs ns h.1) (sSs G body _ vs ns h.2)
  | .rais c m, t', vs, ns, hc => by
    obtain ⟨id, q, y, k, cp, p1, p2, rfl, hc⟩ := inv_rais hc
    exact sndS_rais hc
  | .tre b c a hb el, t', vs, ns, hc => by
    obtain ⟨b', i0, q, nm, t0, hb', p, el', p2, rfl, h0⟩ := inv_tre hc
    have h1 := Bool.and_eq_true_iff.mp h0
    have h2 := Bool.and_eq_true_iff.mp h1.1
    have h3 := Bool.and_eq_true_iff.mp h2.1
    have h4 := Bool.and_eq_true_iff.mp h3.1
    exact sndS_tre G h4.1 h3.2 (sSs G b _ vs ns h4.2) (sSs G hb _ vs ns h2.2) (sSs G el _ vs ns h1.2)
  | .pas, t', vs, ns, hc => by
    obtain ⟨p, rfl⟩ := inv_pas hc
    exact sndS_pas
theorem sSs (G : C.Good) {d : Md} : ∀ (t : List St) (t' : List Stmt) (vs : Vs) (ns : Ns), chkSs vs ns t t' = true → SndSs C d t t' vs ns
  | [], t', vs, ns, hc => by
    cases t' with
    | nil => exact sndSs_nil
    | cons _ _ => exact (Bool.false_ne_true hc).elim
  | t :: ts, t', vs, ns, hc => by
    cases t' with
    | nil => exact (Bool.false_ne_true hc).elim
    | cons t1 ts1 =>
      have h := Bool.and_eq_true_iff.mp (show (chkS vs ns t t1 && chkSs vs ns ts ts1) = true from hc)
      exact sndSs_cons (sS G t t1 vs ns h.1) (sSs G ts ts1 vs ns h.2)
end
end
end Vc
end

section
set_option autoImplicit false
set_option linter.unusedVariables false
namespace Vc
open PySem

theorem lookup_zip {names : List Str} : ∀ {vals : List Value} {i : Nat} {x : Str}, vals.length = names.length → names.Nodup → names[i]? = some x → (names.zip vals).lookup x = vals[i]? := by
  induction names with
  | nil => intro vals i x _ _ h; simp at h
  | cons n ns ih =>
    intro vals i x hl nd h
    cases vals with
    | nil => simp at hl
    | cons v vs =>
      rw [List.zip_cons_cons, List.lookup_cons]
      cases i with
      | zero => simp at h; subst h; simp
      | succ i =>
        simp at h
        have hne : (x == n) = false := by
          simp only [beq_eq_false_iff_ne, ne_eq]
          rintro rfl
          exact (List.nodup_cons.mp nd).1 (List.mem_of_getElem? h)
        rw [hne]
        simpa using ih (by simpa using hl) (List.nodup_cons.mp nd).2 h

theorem lookup_zip_some {names : List Str} {vals : List Value} (hl : vals.length = names.length) (nd : names.Nodup) {x : Str} (hx : x ∈ names) : ∃ v, (names.zip vals).lookup x = some v := by
  obtain ⟨i, hi⟩ := List.mem_iff_getElem?.mp hx
  rw [lookup_zip hl nd hi]
  have : i < vals.length := by rw [hl]; exact (List.getElem?_eq_some_iff.mp hi).1
  exact ⟨vals[i], by simp [this]⟩

theorem filterMap_zip {names : List Str} {vals : List Value} (hl : vals.length = names.length) (nd : names.Nodup) : names.filterMap (fun n => ((names.zip vals).lookup n).map (n, ·)) = names.zip vals := by
  have key : ∀ (l : List Str) (k : Nat), (∀ j, l[j]? = names[k + j]?) → l.filterMap (fun n => ((names.zip vals).lookup n).map (n, ·)) = (names.zip vals).drop k := by
    intro l
    induction l with
    | nil =>
      intro k h
      have : names.length ≤ k := by
        rcases Nat.lt_or_ge k names.length with h1 | h1
        · have := h 0; simp [h1] at this
        · exact h1
      rw [List.drop_eq_nil_of_le (by simp; omega)]; rfl
    | cons x l ih =>
      intro k h
      have hx : names[k]? = some x := by have := h 0; simpa using this.symm
      have hk : k < names.length := (List.getElem?_eq_some_iff.mp hx).1
      have hkv : k < vals.length := by omega
      rw [List.filterMap_cons, lookup_zip hl nd hx]
      simp only [List.getElem?_eq_getElem hkv, Option.map_some]
      rw [ih (k + 1) (fun j => by have := h (j + 1); simp at this; rw [this]; congr 1; omega)]
      have hkz : k < (names.zip vals).length := by rw [List.length_zip]; omega
      rw [List.drop_eq_getElem_cons hkz, List.getElem_zip]
      have := List.getElem?_eq_some_iff.mp hx
      rw [this.2]
  simpa using key names 0 (by simp)

theorem bind_plain {fd : FuncData} {names : List Str} {vals : List Value} (h1 : fd.params.posonlyargs = []) (h2 : fd.params.args.map (·.arg) = names) (h3 : fd.params.vararg = none) (h4 : fd.params.kwonlyargs = []) (h5 : fd.params.kwarg = none)
    (h6 : fd.defaults = .none) (hl : vals.length = names.length) (nd : names.Nodup) : bindArgs fd ⟨vals, []⟩ = pure (names.zip vals) := by
  have e0 : names.length - 0 = names.length := rfl
  have hmiss : (names.filter fun n => ((names.zip vals).lookup n).isNone) = [] := by
    rw [List.filter_eq_nil_iff]
    intro x hx
    obtain ⟨v, e⟩ := lookup_zip_some hl nd hx
    simp [e]
  have hni : ¬ vals.length > names.length := by omega
  unfold bindArgs
  simp only [h1, h2, h3, h4, h5, h6, List.map_nil, List.nil_append, List.append_nil, List.forIn_nil, pure_bind, seqItems?]
  rw [show notAStandIn Value.none = pure () from rfl]
  simp only [pure_bind, Option.getD_none, List.length_nil, Nat.zero_sub, List.drop_nil, Nat.sub_zero, List.take_length, hmiss, List.isEmpty_nil, Bool.not_true, Bool.false_eq_true, if_false, List.drop_length, decide_eq_false hni, Bool.false_and]
  show (pure (names.filterMap (fun n => Option.map (fun x => (n, x)) (List.lookup n (names.zip vals)))) : Sem (List (Str × Value))) = _
  rw [filterMap_zip hl nd]
end Vc
end

section
set_option autoImplicit false
set_option linter.unusedVariables false
namespace Vc
open PySem

noncomputable def okFn (fd : FuncData) (vs : Vs) (np : Nat) (body : List St) : Bool :=
  (match fd.body with | .stmts b => chkSs vs fd.scope.names body b | _ => false) &&
  fd.params.posonlyargs.isEmpty && fd.params.vararg.isNone && fd.params.kwonlyargs.isEmpty && fd.params.kwarg.isNone && (fd.params.args.map (·.arg) == (vs.take np).map (·.1)) && decide (np ≤ vs.length) &&
  fd.scope.kind == .function && !fd.scope.isGenerator && !fd.scope.isCoroutine &&
  vs.all (fun x => match x.2 with | .loc => fd.scope.names.lookup x.1 == some .local | .cel => fd.scope.names.lookup x.1 == some .cell | .hid => false) &&
  decide ((vs.map (·.1)).Nodup) && fd.closure.isEmpty && fd.globals == mainGlobals && fd.builtins == builtinsNs && fd.defaults == .none

theorem cells_has {x : Str} : ∀ (names : Ns) (n : Nat) (acc : List (Str × Addr)), names.lookup x = some .cell ∨ (acc.lookup x).isSome = true → ((cellsFrom n names acc).lookup x).isSome = true
  | [], _, _, h => h.elim (fun e => by cases e) id
  | (y, k) :: r, n, acc, h => by
    unfold cellsFrom
    by_cases hk : (k == NameKind.cell) = true
    · rw [if_pos hk]
      refine cells_has r (n + 1) ((y, n) :: acc) ?_
      by_cases hy : (x == y) = true
      · exact .inr (by rw [List.lookup_cons, hy]; rfl)
      · have hy' : (x == y) = false := by simpa using hy
        refine h.imp (fun e => ?_) fun e => ?_
        · rw [List.lookup_cons, hy'] at e; exact e
        · rw [List.lookup_cons, hy']; exact e
    · rw [if_neg hk]
      refine cells_has r n acc (h.imp (fun e => ?_) id)
      rw [List.lookup_cons] at e
      cases hy : x == y with
      | true => rw [hy] at e; cases e; exact absurd rfl hk
      | false => rw [hy] at e; exact e

section
variable {C : Cx} {H : MH} {s : Shared} {A : Around} {Q : V → MH → Prop} {X : XP}

theorem bindL_get {kind : Str → Option NameKind} : ∀ {names : List Str} {vals : List Value} {m : Str → Option Value} {i : Nat} {x : Str} {v : Value}, vals.length = names.length → names.Nodup → names[i]? = some x → vals[i]? = some v → kind x = some .local →
    bindL kind (names.zip vals) m x = some v := by
  intro names
  induction names with
  | nil => intro vals m i x v _ _ h; simp at h
  | cons n ns ih =>
    intro vals m i x v hl nd hx hv hk
    cases vals with
    | nil => simp at hl
    | cons w ws =>
      rw [List.zip_cons_cons, bindL]
      cases i with
      | succ i => exact ih (by simpa using hl) (List.nodup_cons.mp nd).2 (by simpa using hx) (by simpa using hv) hk
      | zero =>
        simp at hx hv
        subst hx hv
        rw [if_pos hk]
        have : ∀ {names : List Str} {vals : List Value} {m : Str → Option Value}, n ∉ names → bindL kind (names.zip vals) m n = m n := by
          intro names
          induction names with
          | nil => intro vals m _; rfl
          | cons a as ih2 =>
            intro vals m hn
            cases vals with
            | nil => rfl
            | cons b bs =>
              rw [List.zip_cons_cons, bindL, ih2 (fun h => hn (.tail _ h))]
              split
              · dsimp only; rw [if_neg]; rintro rfl; exact hn (.head _)
              · rfl
        rw [this (List.nodup_cons.mp nd).1]; exact if_pos rfl
theorem bindC_get {kind : Str → Option NameKind} : ∀ {names : List Str} {vals : List Value} {m : Str → Option Value} {i : Nat} {x : Str} {v : Value}, vals.length = names.length → names.Nodup → names[i]? = some x → vals[i]? = some v → kind x ≠ some .local →
    bindC kind (names.zip vals) m x = some v := by
  intro names
  induction names with
  | nil => intro vals m i x v _ _ h; simp at h
  | cons n ns ih =>
    intro vals m i x v hl nd hx hv hk
    cases vals with
    | nil => simp at hl
    | cons w ws =>
      rw [List.zip_cons_cons, bindC]
      cases i with
      | succ i => exact ih (by simpa using hl) (List.nodup_cons.mp nd).2 (by simpa using hx) (by simpa using hv) hk
      | zero =>
        simp at hx hv
        subst hx hv
        rw [if_neg hk]
        have : ∀ {names : List Str} {vals : List Value} {m : Str → Option Value}, n ∉ names → bindC kind (names.zip vals) m n = m n := by
          intro names
          induction names with
          | nil => intro vals m _; rfl
          | cons a as ih2 =>
            intro vals m hn
            cases vals with
            | nil => rfl
            | cons b bs =>
              rw [List.zip_cons_cons, bindC, ih2 (fun h => hn (.tail _ h))]
              split
              · rfl
              · dsimp only; rw [if_neg]; rintro rfl; exact hn (.head _)
        rw [this (List.nodup_cons.mp nd).1]; exact if_pos rfl

theorem callee_fn {fa : Addr} {o : Obj} {fd : FuncData} (ho : C.h0.get? fa = some o) (hd : o.data = .func fd) : Callee C (.ref fa) := fun A s Q E ht h => by
  unfold keeperOf
  refine wpAny_bind (wpAny_load (ht _ _ ho) ?_)
  rw [hd]
  exact wpAny_pure (h _)

theorem lk_map {xs : List V} {k i : Nat} {v : V} (h : lk (xs.map some ++ List.replicate k none) i = some v) : xs[i]? = some v := by
  by_cases hi : i < xs.length
  · rw [lk_append_lt (by simpa using hi)] at h
    clear hi
    induction xs generalizing i with
    | nil => simp [lk] at h
    | cons x xs ih => cases i with
      | zero => simpa [lk] using h
      | succ i => simp [lk] at h; simpa using ih h
  · rw [show i = (xs.map some).length + (i - xs.length) by simp; omega, lk_append, lk_none] at h; cases h

set_option maxHeartbeats 1000000 in
theorem fn_code (G : C.Good) {fa : Addr} {o : Obj} {fd : FuncData} {vs : Vs} {np n : Nat} {q : Bool} {body : List St} {args : List V} (ho : C.h0.get? fa = some o) (hd : o.data = .func fd) (hcd : C.h0.CodeRec fd.code fd.qualname)
    (hok : okFn fd vs np body = true) (hl : args.length = np)
    (W : wpSs C ⟨n, q⟩ body (args.map some ++ List.replicate (vs.length - np) none) H (fun f _ H' => match f with | .ret v => Q v H' | .next => Q .none H') (fun c _ H' => X c H')) (A : Around) (s : Shared) (cargs : List Value) (ok : Ok C ⟨n + 1, q⟩ H A s) (rs : VRs C s.heap args cargs) :
    codeAny C.M A (.call (.ref fa) ⟨cargs, []⟩) (fun r s' => match r with | .ok (.ret v) => QP C H s Q v s' | .ok _ => False | .error e => XQ false C No H s X e s') s := by
  unfold okFn at hok
  simp only [Bool.and_eq_true, List.isEmpty_iff, Option.isNone_iff_eq_none, beq_iff_eq, decide_eq_true_eq, Bool.not_eq_true', List.all_eq_true] at hok
  obtain ⟨⟨⟨⟨⟨⟨⟨⟨⟨⟨⟨⟨⟨⟨⟨hb, p1⟩, p2⟩, p3⟩, p4⟩, p5⟩, p6⟩, p7⟩, p8⟩, p9⟩, p10⟩, p11⟩, p12⟩, p13⟩, p14⟩, p15⟩ := hok
  cases hbd : fd.body with
  | expr e => rw [hbd] at hb; cases hb
  | stmts body' =>
    rw [hbd] at hb
    have hlc := rs.length
    have hnames : ((vs.take np).map (·.1)).length = np := by simp; omega
    have ndn : ((vs.take np).map (·.1)).Nodup := by rw [List.map_take]; exact p11.sublist (List.take_sublist ..)
    have hbind : bindArgs fd ⟨cargs, []⟩ = pure (((vs.take np).map (·.1)).zip cargs) := bind_plain p1 p5 p2 p3 p4 p15 (by omega) ndn
    have hmem : ∀ (i : Nat) (x : Str) (k : Vk), vs[i]? = some (x, k) → (k = .loc ∧ fd.scope.names.lookup x = some .local) ∨ (k = .cel ∧ fd.scope.names.lookup x = some .cell) := fun i x k e => by
      have := p10 (x, k) (List.mem_of_getElem? e)
      cases k with
      | loc => exact .inl ⟨rfl, by simpa using this⟩
      | cel => exact .inr ⟨rfl, by simpa using this⟩
      | hid => cases this
    refine (codeAny_call_cells (by have := ok.room.1; show A.depth < recursionLimit; omega) (ok.top _ _ ho) hd (G.nolimit.keeps ok.top) (hcd.keeps ok.top) hbd hbind p12 (fun x hx => ?_) (fun s₁ ic => ?_) p9 p8 p7)
    · obtain ⟨nm, vl⟩ := x
      have hm := List.of_mem_zip hx
      obtain ⟨⟨y, k⟩, hy, rfl⟩ := List.mem_map.mp hm.1
      obtain ⟨i, hi⟩ := List.mem_iff_getElem?.mp (List.mem_of_mem_take hy)
      rcases hmem i y k hi with ⟨_, e⟩ | ⟨_, e⟩
      · exact .inl e
      · exact .inr ⟨e, cells_has _ _ _ (.inl e)⟩
    · generalize henv : callEnvC fd s.heap.objs.size fa = env at *
      have hloc : env.locals = s.heap.objs.size := by rw [← henv]; rfl
      have hcel : env.cells = cellsFrom (s.heap.objs.size + 1) fd.scope.names [] := by rw [← henv]; rfl
      have hkind : env.kindOf = fun x => fd.scope.names.lookup x := by rw [← henv]; rfl
      obtain ⟨h1, tk, hs1, hk1⟩ := ic.done
      have st1 : Step C No H s H s₁ := Step.keeps ok.rel ok.top (fun b o e => by rw [hs1]; exact hk1 b o e) (by rw [hs1]) (by rw [hs1])
      have newL : s.heap.get? env.locals = none := by rw [hloc]; exact fresh_size _
      have newC : ∀ x c, env.cells.lookup x = some c → s.heap.get? c = none := fun x c e => by
        have hlt := ic.above x c (mem_of_lookup e)
        rw [hloc] at hlt
        cases w : s.heap.get? c with
        | none => rfl
        | some ob => exact absurd (Nat.lt_trans hlt (Heap.lt_size w)) (Nat.lt_irrefl _)
      have newD : ∀ b, Dm env b → s.heap.get? b = none := fun b hb => by
        rcases hb with rfl | ⟨x, e⟩
        · exact newL
        · exact newC x b e
      have ES : EnvS env vs fd.scope.names := by
        refine ⟨by rw [← henv]; exact p7, by rw [← henv]; rfl, by rw [← henv]; exact p13, by rw [← henv]; exact p14, fun i x e => ?_, fun i x e => ?_, fun i j x k k' e e' _ _ => ?_, fun x y c e e' => ?_⟩
        · rcases hmem i x _ e with ⟨_, w⟩ | ⟨w, _⟩
          · exact w
          · cases w
        · rcases hmem i x _ e with ⟨w, _⟩ | ⟨_, w⟩
          · cases w
          · exact w
        · have e1 : (vs.map (·.1))[i]? = some x := by rw [List.getElem?_map, e]; rfl
          have e2 : (vs.map (·.1))[j]? = some x := by rw [List.getElem?_map, e']; rfl
          exact (List.getElem?_inj (List.getElem?_eq_some_iff.mp e1).1 p11).mp (e1.trans e2.symm)
        · exact name_of_addr ic.apart (mem_of_lookup e) (mem_of_lookup e')
      have hidx : ∀ (i : Nat) (x : Str) (k : Vk) (v : V), vs[i]? = some (x, k) → lk (args.map some ++ List.replicate (vs.length - np) none) i = some v → ∃ cv, ((vs.take np).map (·.1))[i]? = some x ∧ cargs[i]? = some cv ∧ VR C s.heap v cv := fun i x k v e l => by
        have ha := lk_map l
        have hi : i < np := by rw [← hl]; exact (List.getElem?_eq_some_iff.mp ha).1
        obtain ⟨cv, e1, e2⟩ := rs.get ha
        refine ⟨cv, ?_, e1, e2⟩
        rw [List.getElem?_map, List.getElem?_take_of_lt hi, e]; rfl
      have fi : FI C env vs (args.map some ++ List.replicate (vs.length - np) none) H s₁.heap := by
        refine ⟨by simp; omega, ok.rel.fresh newL, fresh_top ok.top newL, ⟨_, ic.toInCall.ns, fun i x v e l => ?_⟩, fun i x e => ?_, fun x c e => ?_⟩
        · obtain ⟨cv, a1, a2, a3⟩ := hidx i x _ v e l
          exact ⟨cv, bindL_get (by omega) ndn a1 a2 (by rw [hkind]; exact ES.loc i x e), a3.keep st1.vk⟩
        · have hx := ES.cel i x e
          obtain ⟨c, hc⟩ := Option.isSome_iff_exists.mp (cells_has (x := x) fd.scope.names (s.heap.objs.size + 1) [] (.inl hx))
          rw [← hcel] at hc
          refine ⟨c, _, hc, ok.rel.fresh (newC x c hc), fresh_top ok.top (newC x c hc), ic.cell x c hc, fun v l => ?_⟩
          obtain ⟨cv, a1, a2, a3⟩ := hidx i x _ v e l
          exact ⟨cv, bindC_get (by omega) ndn a1 a2 (by rw [hkind]; show fd.scope.names.lookup x ≠ some .local; rw [hx]; decide), a3.keep st1.vk⟩
        · exact ⟨ok.rel.fresh (newC x c e), fresh_top ok.top (newC x c e), _, ic.cell x c e⟩
      have hfrm : env.frame = some env.locals := by rw [← henv]; rfl
      obtain ⟨l, hfr, hfl⟩ := ok.frs
      have ok1 : Ok C ⟨n, q⟩ H (A.deeper env) s₁ := by
        refine ⟨st1.rel, st1.top, ⟨?_, ?_⟩, ⟨ok.hnd.1, (ok.step st1).hnd.2⟩, env :: l, by show A.frames.map _ = _; rw [hfr]; rfl, fun e he => ?_⟩
        · have := ok.room.1; show A.depth + 1 + 2 * n + 2 < recursionLimit; dsimp only at this; omega
        · have := ok.room.2; show A.units + 3 + 8 * n + 40 < cLine; dsimp only at this; omega
        · cases he with
          | head =>
            obtain ⟨m, ⟨o', es, ep, ho', hd', _⟩, _⟩ := fi.ns
            exact ⟨by rw [ES.kind]; decide, env.locals, o', es, ep, hfrm, ho', hd', fi.locH, fi.loc0⟩
          | tail _ he => exact hfl.step st1 e he
      have ea : EA (A.deeper env) env := ⟨env, l, by show A.frames.map _ = _; rw [hfr]; rfl, rfl⟩
      have run := sSs G body body' vs fd.scope.names hb env (A.deeper env) s₁ _ H _ _ ES ea ok1 fi W
      refine wpAny_mono run (fun fl s' hsp => ?_) fun e s' hx => ?_
      · obtain ⟨f, ρ', H', st', fi', fr, K'⟩ := hsp
        have st := st1.trans_new st' newD (fun _ f => f.elim)
        cases f with
        | next => cases fr; exact ⟨.none, H', st, by rw [VR], K'⟩
        | ret v => obtain ⟨cv, rfl, r⟩ := fr; exact ⟨v, H', st, r, K'⟩
      · refine leave (fenv := env) (outer := l) stX_St ok1 (by show A.frames.map _ = _; rw [hfr]; rfl) rfl (fun H' s' st' => ?_) hx fun s'' hx' => ?_
        · exact frl_of (fenv := env) (outer := l) ok1 (by show A.frames.map _ = _; rw [hfr]; rfl) st'
        · obtain ⟨a, c, H', rfl, st', hD', fl, ρ', fi', hX⟩ := hx'
          have st := st1.trans_new st' newD (fun _ f => f.elim)
          exact XG.mono ⟨a, c, H', rfl, st, fun _ f => f.elim, fl.back st1, hX⟩
theorem fn_call (G : C.Good) {fa : Addr} {o : Obj} {fd : FuncData} {vs : Vs} {np n : Nat} {q : Bool} {body : List St} {args : List V} (ho : C.h0.get? fa = some o) (hd : o.data = .func fd) (hcd : C.h0.CodeRec fd.code fd.qualname)
    (hok : okFn fd vs np body = true) (hl : args.length = np)
    (W : wpSs C ⟨n, q⟩ body (args.map some ++ List.replicate (vs.length - np) none) H (fun f _ H' => match f with | .ret v => Q v H' | .next => Q .none H') (fun c _ H' => X c H')) : CallV C ⟨n + 1, q⟩ (.ref fa) args H Q X :=
  fun A s cargs ok rs => wpAny_call (fn_code G ho hd hcd hok hl W A s cargs ok rs)
end
end Vc
end

section
set_option autoImplicit false
set_option linter.unusedVariables false
namespace Vc
open PySem PyProof.Rows

mutual
inductive VD (H : MH) : V → PyData → Prop
  | none : VD H .none .none
  | bool (b : Bool) : VD H (.bool b) (.bool b)
  | int (i : Int) : VD H (.int i) (.int i)
  | str (s : Str) : VD H (.str s) (.str s)
  | tup {l : List V} {ds : List PyData} : VDs H l ds → VD H (.tup l) (.tuple ds)
  | lst {a : Addr} {l : List V} {ds : List PyData} : H a = some (.lst l) → VDs H l ds → VD H (.ref a) (.list ds)
  | fro {a : Addr} {l : List V} {ds : List PyData} : H a = some (.fro l) → VDs H l ds → VD H (.ref a) (.list ds)
inductive VDs (H : MH) : List V → List PyData → Prop
  | nil : VDs H [] []
  | cons {x : V} {d : PyData} {xs : List V} {ds : List PyData} : VD H x d → VDs H xs ds → VDs H (x :: xs) (d :: ds)
end

mutual
theorem VD.reads {C : Cx} {H : MH} {h : Heap} (r : HR C H h) : ∀ {v : V} {d : PyData} {cv : Value}, VD H v d → VR C h v cv → ∃ as, Reads h cv d as
  | _, _, _, .none, x => by dsimp only [VR] at x; subst x; exact ⟨_, .none⟩
  | _, _, _, .bool _, x => by dsimp only [VR] at x; subst x; exact ⟨_, .bool _⟩
  | _, _, _, .int _, x => by dsimp only [VR] at x; obtain ⟨t, rfl⟩ := x; exact ⟨_, .int _ _⟩
  | _, _, _, .str _, x => by dsimp only [VR] at x; obtain ⟨t, rfl⟩ := x; exact ⟨_, .str _ _⟩
  | _, _, _, .tup y, x => by
    dsimp only [VR] at x
    obtain ⟨a, items, rfl, ⟨o, ho, hc, n, hd⟩, rs⟩ := x
    obtain ⟨as, q⟩ := VDs.reads r y rs
    exact ⟨_, .tuple ho hc hd q⟩
  | _, _, _, .lst e y, x => by
    dsimp only [VR] at x; subst x
    obtain ⟨_, items, ⟨n, ho⟩, rs⟩ := r _ _ e
    obtain ⟨as, q⟩ := VDs.reads r y rs
    exact ⟨_, .list ho rfl rfl q⟩
  | _, _, _, .fro e y, x => by
    dsimp only [VR] at x; subst x
    obtain ⟨items, ⟨o, ho, hc, n, hd⟩, rs⟩ := r _ _ e
    obtain ⟨as, q⟩ := VDs.reads r y rs
    exact ⟨_, .list ho hc hd q⟩
theorem VDs.reads {C : Cx} {H : MH} {h : Heap} (r : HR C H h) : ∀ {l : List V} {ds : List PyData} {cvs : List Value}, VDs H l ds → VRs C h l cvs → ∃ as, ReadsAll h cvs ds as
  | _, _, _, .nil, x => by have := x.inv_nil; subst this; exact ⟨_, .nil⟩
  | _, _, _, .cons y ys, x => by
    obtain ⟨v, vs, rfl, h1, h2⟩ := x.inv_cons
    obtain ⟨as, q⟩ := VD.reads r y h1
    obtain ⟨bs, q'⟩ := VDs.reads r ys h2
    exact ⟨_, .cons q q'⟩
end

section
variable {C : Cx} {d : Md} {H : MH} {A : Around} {s : Shared} {Q : V → MH → Prop} {X : XP}

theorem Ok.units (ok : Ok C d H A s) : A.units + 40 < cLine := by have := ok.room.2; omega

theorem qp {r : V} {cv : Value} {s' : Shared} (st : Step C No H s H s') (vr : VR C s'.heap r cv) (q : Q r H) : QP C H s Q cv s' := ⟨r, H, st, vr, q⟩
theorem qp' {r : V} {cv : Value} {H' : MH} {s' : Shared} (st : Step C No H s H' s') (vr : VR C s'.heap r cv) (q : Q r H') : QP C H s Q cv s' := ⟨r, H', st, vr, q⟩

theorem VR.int_ {h : Heap} {i : Int} {t : Tok} : VR C h (.int i) (.int i t) := by dsimp only [VR]; exact ⟨t, rfl⟩
theorem VR.bool_ {h : Heap} {b : Bool} : VR C h (.bool b) (.bool b) := by dsimp only [VR]
theorem VR.none_ {h : Heap} : VR C h .none .none := by dsimp only [VR]
theorem VR.str_ {h : Heap} {x : Str} {t : Tok} : VR C h (.str x) (.str x t) := by dsimp only [VR]; exact ⟨t, rfl⟩
theorem VR.ref_ {h : Heap} {a : Addr} : VR C h (.ref a) (.ref a) := by dsimp only [VR]

theorem bin_add {a b : Int} (q : Q (.int (a + b)) H) : BinW C d .Add (.int a) (.int b) H Q X := fun A s ca cb ok ra rb => by
  rw [VR] at ra rb; obtain ⟨t, rfl⟩ := ra; obtain ⟨u, rfl⟩ := rb
  exact add_int (qp (ok.toks _) .int_ q)
theorem bin_sub {a b : Int} (q : Q (.int (a - b)) H) : BinW C d .Sub (.int a) (.int b) H Q X := fun A s ca cb ok ra rb => by
  rw [VR] at ra rb; obtain ⟨t, rfl⟩ := ra; obtain ⟨u, rfl⟩ := rb
  exact sub_int (qp (ok.toks _) .int_ q)
theorem bin_mul {a b : Int} (q : Q (.int (a * b)) H) (hm : IntMulOk a b) : BinW C d .Mult (.int a) (.int b) H Q X := fun A s ca cb ok ra rb => by
  rw [VR] at ra rb; obtain ⟨t, rfl⟩ := ra; obtain ⟨u, rfl⟩ := rb
  exact mul_int (qp (ok.toks _) .int_ q) hm
theorem bin_mod {a b : Int} (hb : b ≠ 0) (q : Q (.int (a.fmod b)) H) : BinW C d .Mod (.int a) (.int b) H Q X := fun A s ca cb ok ra rb => by
  rw [VR] at ra rb; obtain ⟨t, rfl⟩ := ra; obtain ⟨u, rfl⟩ := rb
  exact mod_int hb (qp (ok.toks _) .int_ q)
theorem bin_fdiv {a b : Int} (hb : b ≠ 0) (hp : Builtin.divisionGoesByPylong a b = false) (q : Q (.int (a.fdiv b)) H) : BinW C d .FloorDiv (.int a) (.int b) H Q X := fun A s ca cb ok ra rb => by
  rw [VR] at ra rb; obtain ⟨t, rfl⟩ := ra; obtain ⟨u, rfl⟩ := rb
  exact floordiv_int hb (qp (ok.toks _) .int_ q) (.inl hp)

theorem cmp_eq {a b : V} {da db : PyData} (va : VD H a da) (vb : VD H b db) (ha : da.canLay0 = true) (hb : db.canLay0 = true) (hd : min da.depth db.depth ≤ 8) (q : Q (.bool (PyData.eqv da db)) H) : CmpW C d .Eq a b H Q X := fun A s ca cb ok ra rb => by
  obtain ⟨as, r1⟩ := va.reads ok.rel ra
  obtain ⟨bs, r2⟩ := vb.reads ok.rel rb
  exact SeqAt.compareEq_reads r1 r2 ha hb (by have := ok.units; omega) (qp ok.refl .bool_ q)
theorem cmp_ne {a b : V} {da db : PyData} (va : VD H a da) (vb : VD H b db) (ha : da.canLay0 = true) (hb : db.canLay0 = true) (hd : min da.depth db.depth ≤ 8) (q : Q (.bool (!PyData.eqv da db)) H) : CmpW C d .NotEq a b H Q X := fun A s ca cb ok ra rb => by
  obtain ⟨as, r1⟩ := va.reads ok.rel ra
  obtain ⟨bs, r2⟩ := vb.reads ok.rel rb
  exact SeqAt.compareNe_reads r1 r2 ha hb (by have := ok.units; omega) (qp ok.refl .bool_ q)
theorem cmp_lt {a b : Int} (q : Q (.bool (decide (a < b))) H) : CmpW C d .Lt (.int a) (.int b) H Q X := fun A s ca cb ok ra rb => by
  rw [VR] at ra rb; obtain ⟨t, rfl⟩ := ra; obtain ⟨u, rfl⟩ := rb
  exact lt_int (qp ok.refl .bool_ q)
theorem cmp_le {a b : Int} (q : Q (.bool (decide (a ≤ b))) H) : CmpW C d .LtE (.int a) (.int b) H Q X := fun A s ca cb ok ra rb => by
  rw [VR] at ra rb; obtain ⟨t, rfl⟩ := ra; obtain ⟨u, rfl⟩ := rb
  exact le_int (qp ok.refl .bool_ q)
theorem cmp_gt {a b : Int} (q : Q (.bool (decide (a > b))) H) : CmpW C d .Gt (.int a) (.int b) H Q X := fun A s ca cb ok ra rb => by
  rw [VR] at ra rb; obtain ⟨t, rfl⟩ := ra; obtain ⟨u, rfl⟩ := rb
  exact gt_int (qp ok.refl .bool_ q)
theorem cmp_eq_int {a b : Int} (q : Q (.bool (a == b)) H) : CmpW C d .Eq (.int a) (.int b) H Q X := cmp_eq (.int a) (.int b) rfl rfl (by simp [PyData.depth]) (by simpa [PyData.eqv] using q)
theorem cmp_ne_int {a b : Int} (q : Q (.bool (!(a == b))) H) : CmpW C d .NotEq (.int a) (.int b) H Q X := cmp_ne (.int a) (.int b) rfl rfl (by simp [PyData.depth]) (by simpa [PyData.eqv] using q)

theorem tru_bool {b : Bool} {Q : Bool → MH → Prop} (q : Q b H) : TruW C d (.bool b) H Q X := fun A s ca ok ra => by
  dsimp only [VR] at ra; subst ra; exact wpAny_truthy_bool ⟨H, ok.refl, q⟩
theorem una_not {a : V} (q : TruW C d a H (fun b H' => Q (.bool (!b)) H') X) : UnaW C d .Not a H Q X := fun A s ca ok ra =>
  not_value (wpAny_mono (q A s ca ok ra) (fun b s' ⟨H', st, q⟩ => ⟨_, H', st, .bool_, q⟩) fun _ _ x => x)
theorem una_neg {a : Int} (q : Q (.int (-a)) H) : UnaW C d .USub (.int a) H Q X := fun A s ca ok ra => by
  dsimp only [VR] at ra; obtain ⟨t, rfl⟩ := ra; exact neg_int (qp (ok.toks _) .int_ q)

theorem list_at {a : Addr} {l : List V} (r : HR C H s.heap) (h : itemsOf H (.ref a) = some l) : ∃ items, s.heap.IsList a items ∧ VRs C s.heap l items.toList := list_of r h

theorem gip {T id : String} {co : Value} {A : Around} (hT : s.TypeIs co T) (hl : typeLookup (.type T) "__getitem__" = pure (some (.builtin id))) : wpAny C.M A (getitemInPython co) (fun b s' => b = false ∧ s' = s) (fun _ _ => False) s := by
  rw [getitemInPython_of_ne hT.not_modules]
  exact wpAny_bind (wpAny_specialOf hT hl (wpAny_pure ⟨rfl, rfl⟩))

theorem sub_list {a : Addr} {l : List V} {i : Int} {x : V} (h : itemsOf H (.ref a) = some l) (hl : l.length ≤ sizeLine) {j : Nat} (hj : seqIndex? i l.length = some j) (hx : l[j]? = some x) (q : Q x H) : SubW C d (.ref a) (.int i) H Q X := fun A s co ci ok ro ri => by
  dsimp only [VR] at ro; dsimp only [VR] at ri; subst ro; obtain ⟨t, rfl⟩ := ri
  obtain ⟨items, hL, rs⟩ := list_at ok.rel h
  obtain ⟨cx, hcx, rx⟩ := rs.get hx
  have hn := rs.length
  simp only [Array.length_toList] at hn
  have hz : sizeLine < 2 ^ 62 := by decide
  refine ⟨gip hL.typeIs slot_list_getitem.lookup, ?_⟩
  rw [Array.getElem?_toList] at hcx
  simp only [seqIndex?] at hj
  have hjl : j < l.length := (List.getElem?_eq_some_iff.mp hx).1
  by_cases hi : i < 0
  · rw [if_pos hi] at hj
    split at hj
    · rename_i hb
      cases hj
      refine wpAny_getItem_list_neg hL hi (by simp at hb; omega) (by simp at hb; omega) ?_ (qp ok.refl rx q)
      rw [← hn]; exact hcx
    · cases hj
  · rw [if_neg hi] at hj
    split at hj
    · cases hj
      exact wpAny_getItem_list hL (by omega) (by omega) hcx (qp ok.refl rx q)
    · cases hj
end
end Vc
end

section
set_option autoImplicit false
set_option linter.unusedVariables false
namespace Vc
open PySem PyProof.Rows

noncomputable def vsl (l : List V) (lo hi : Option Int) : List V := (l.drop (lo.elim 0 (clipAt l.length))).take (hi.elim l.length (clipAt l.length) - lo.elim 0 (clipAt l.length))
inductive Prt : V → Option Int → Prop
  | none : Prt .none none
  | int (i : Int) : Prt (.int i) (some i)

section
variable {C : Cx} {d : Md} {H : MH} {A : Around} {s : Shared} {Q : V → MH → Prop} {X : XP}

theorem Prt.is {h : Heap} {v : V} {k : Option Int} {cv : Value} (p : Prt v k) (r : VR C h v cv) : IsPart cv k := by
  cases p with
  | none => dsimp only [VR] at r; subst r; exact .none
  | int i => dsimp only [VR] at r; obtain ⟨t, rfl⟩ := r; exact .int i t

theorem sub_tup {l : List V} {i : Int} {x : V} {j : Nat} (hj : seqIndex? i l.length = some j) (hl : l.length ≤ sizeLine) (hx : l[j]? = some x) (q : Q x H) : SubW C d (.tup l) (.int i) H Q X := fun A s co ci ok ro ri => by
  dsimp only [VR] at ro; dsimp only [VR] at ri; obtain ⟨a, items, rfl, ht, rs⟩ := ro; obtain ⟨t, rfl⟩ := ri
  obtain ⟨cx, hcx, rx⟩ := rs.get hx
  have hn := rs.length
  simp only [Array.length_toList] at hn
  have hz : sizeLine < 2 ^ 62 := by decide
  rw [Array.getElem?_toList] at hcx
  obtain ⟨o, ho, hc, n, hd⟩ := id ht
  refine ⟨gip (T := "tuple") ⟨o, ho, hc⟩ slot_tuple_getitem.lookup, ?_⟩
  have hb : -(2 ^ 63) ≤ i ∧ i < 2 ^ 63 := by
    simp only [seqIndex?] at hj
    by_cases hi : i < 0
    · rw [if_pos hi] at hj
      split at hj
      · rename_i hb; simp at hb; omega
      · cases hj
    · rw [if_neg hi] at hj
      split at hj
      · rename_i hb; simp at hb; omega
      · cases hj
  exact PyProof.Rows.getItem_tuple ⟨o, ho, hc, n, hd⟩ hb.1 hb.2 (by rw [← hn]; exact hj) hcx (qp ok.refl rx q)

theorem alloc_list {vs : List V} {items : Array Value} {s' : Shared} (ok : Ok C d H A s) (r : VRs C s.heap vs items.toList) (hs : s'.heap = s.heap.push { cls := .type "list", data := .seq items }) (g : s'.gens = s.gens) (os : s'.os = s.os) :
    Step C No H s (upd H s.heap.objs.size (.lst vs)) s' ∧ H s.heap.objs.size = none := by
  refine ⟨Step.alloc ok.rel ok.top (o := .lst vs) ⟨?_, items, ⟨0, Heap.get?_push_size _ rfl⟩, r.keep (.of_keeps fun b o e => Heap.get?_push_of_some _ e)⟩ hs g os, ok.rel.fresh (fresh_size _)⟩
  cases e : C.h0.get? s.heap.objs.size with
  | none => rfl
  | some o => have := ok.top _ _ e; rw [fresh_size] at this; cases this

theorem sli_list {a : Addr} {l : List V} {vl vu : V} {lo hi : Option Int} (h : itemsOf H (.ref a) = some l) (hl : l.length ≤ sizeLine) (pl : Prt vl lo) (pu : Prt vu hi)
    (q : ∀ b, H b = none → Q (.ref b) (upd H b (.lst (vsl l lo hi)))) : SliW C d (.ref a) vl vu .none H Q X := fun A s co cl cu ct p ok ro rl ru rt hp => by
  dsimp only [VR] at ro; dsimp only [VR] at rt; subst ro rt
  obtain ⟨items, hL, rs⟩ := list_at ok.rel h
  have hn := rs.length
  simp only [Array.length_toList] at hn
  refine ⟨gip hL.typeIs slot_list_getitem.lookup, wpAny_getItem_list_slice hL ⟨_, hp, rfl, rfl⟩ (pl.is rl) (pu.is ru) .none (by simp) ?_ (by omega)⟩
  have key : VRs C s.heap (vsl l lo hi) (slicePick items lo hi none).toList := by
    rw [slicePick_plain, vsl, hn]
    exact (rs.drop _).take _
  obtain ⟨st, hf⟩ := alloc_list (s' := { s with heap := s.heap.push { cls := .type "list", data := .seq (slicePick items lo hi none) } }) ok key rfl rfl rfl
  exact qp' st .ref_ (q _ hf)

theorem bin_cat {a b : Addr} {l m : List V} (ha : itemsOf H (.ref a) = some l) (hb : itemsOf H (.ref b) = some m) (hsz : l.length + m.length ≤ sizeLine) (q : ∀ c, H c = none → Q (.ref c) (upd H c (.lst (l ++ m)))) : BinW C d .Add (.ref a) (.ref b) H Q X := fun A s ca cb ok ra rb => by
  rw [VR] at ra rb; subst ra rb
  obtain ⟨items, hL, rs⟩ := list_at ok.rel ha
  obtain ⟨items2, hL2, rs2⟩ := list_at ok.rel hb
  have hn := rs.length
  have hn2 := rs2.length
  simp only [Array.length_toList] at hn hn2
  obtain ⟨⟨cls, dd, data, sl⟩, ho, hc, n, hd⟩ := id hL
  obtain ⟨⟨cls2, dd2, data2, sl2⟩, ho2, hc2, n2, hd2⟩ := id hL2
  simp only at hc hd hc2 hd2
  subst hc hd hc2 hd2
  refine concat_meets ⟨_, ho, rfl⟩ ⟨_, ho2, rfl⟩ noFill_list_add seq_list_add PySem.F.slot_list_add PySem.F.entry_list_add (PySem.F.args_list_add_2 _ _) (list_addW a b items items2 n n2 dd dd2 sl sl2 (by omega)) ⟨ho, ho2, ?_⟩
  have key : VRs C s.heap (l ++ m) (items ++ items2).toList := by rw [Array.toList_append]; exact rs.append rs2
  obtain ⟨st, hf⟩ := alloc_list (s' := { s with heap := s.heap.push { cls := .type "list", data := .seq (items ++ items2) } }) ok key rfl rfl rfl
  exact qp' st .ref_ (q _ hf)

theorem args1 {h : Heap} {x : V} {cs : List Value} (r : VRs C h [x] cs) : ∃ c, cs = [c] ∧ VR C h x c := by
  obtain ⟨c, cs', rfl, h1, h2⟩ := r.inv_cons
  have := h2.inv_nil; subst this
  exact ⟨c, rfl, h1⟩
theorem args2 {h : Heap} {x y : V} {cs : List Value} (r : VRs C h [x, y] cs) : ∃ c e, cs = [c, e] ∧ VR C h x c ∧ VR C h y e := by
  obtain ⟨c, cs', rfl, h1, h2⟩ := r.inv_cons
  obtain ⟨e, rfl, h3⟩ := args1 h2
  exact ⟨c, e, rfl, h1, h3⟩
theorem call_w {f : String} {fv : Value} {args : List V} (hG : C.G f fv) (h : CallV C d fv args H Q X) : CallW C d f args H Q X := fun fv' g => by rw [← hG.uniq g]; exact h

theorem cv_len_list {a : Addr} {l : List V} (h : itemsOf H (.ref a) = some l) (hl : l.length ≤ sizeLine) (q : Q (.int l.length) H) : CallV C d (.builtin "len") [.ref a] H Q X := fun A s cs ok rs => by
  obtain ⟨c, rfl, r⟩ := args1 rs
  dsimp only [VR] at r; subst r
  obtain ⟨items, hL, rs⟩ := list_at ok.rel h
  have hn := rs.length
  simp only [Array.length_toList] at hn
  have hz : sizeLine < 2 ^ 62 := by decide
  exact Calls.call_len_list hL (by omega) (qp (ok.toks _) (by rw [hn]; exact .int_) q)
theorem cv_len_tup {l : List V} (hl : l.length ≤ sizeLine) (q : Q (.int l.length) H) : CallV C d (.builtin "len") [.tup l] H Q X := fun A s cs ok rs => by
  obtain ⟨c, rfl, r⟩ := args1 rs
  dsimp only [VR] at r; obtain ⟨a, items, rfl, ⟨o, ho, hc, n, hd⟩, rs⟩ := r
  have hn := rs.length
  simp only [Array.length_toList] at hn
  have hz : sizeLine < 2 ^ 62 := by decide
  exact PyProof.Rows.len_tuple ⟨o, ho, hc, n, hd⟩ (by omega) (qp (ok.toks _) (by rw [hn]; exact .int_) q)

theorem push_keeps {s' : Shared} {ob : Obj} {tk : Nat} (ok : Ok C d H A s) (hs : s' = { s with heap := s.heap.push ob, toks := tk }) : Step C No H s H s' := by
  subst hs; exact Step.keeps ok.rel ok.top (fun b o e => Heap.get?_push_of_some _ e) rfl rfl

theorem cv_range1 {n : Int} (q : Q (.rng 0 n 1) H) : CallV C d (.type "range") [.int n] H Q X := fun A s cs ok rs => by
  obtain ⟨c, rfl, r⟩ := args1 rs
  dsimp only [VR] at r; obtain ⟨t, rfl⟩ := r
  exact call_range_1 (qp (push_keeps ok rfl) (by dsimp only [VR]; exact ⟨_, _, _, _, rfl, IsRange.new ..⟩) q)
theorem fresh0 (ok : Ok C d H A s) : C.h0.get? s.heap.objs.size = none := by
  cases e : C.h0.get? s.heap.objs.size with
  | none => rfl
  | some o => have := ok.top _ _ e; rw [fresh_size] at this; cases this

theorem Step.grow {o : O} {s' : Shared} (ok : Ok C d H A s) (k : ∀ b o, s.heap.get? b = some o → s'.heap.get? b = some o) (ho : OR C s'.heap s.heap.objs.size o) (g : s'.gens = s.gens) (os : s'.os = s.os) : Step C No H s (upd H s.heap.objs.size o) s' := by
  refine ⟨fun b o' e => ?_, fun b o e _ _ => ⟨o.slots, k b o e, fun _ => rfl⟩, fun b o e => k b o (ok.top b o e), fun b e => ?_, fun b e => ?_, fun b d n => d.elim, .of_keeps k, g, os⟩
  · by_cases q : b = s.heap.objs.size
    · subst q; rw [upd_self] at e; cases e; exact ho
    · rw [upd_ne q] at e; exact (ok.rel b o' e).keep (.of_keeps k) fun ob => k b ob
  · by_cases q : b = s.heap.objs.size
    · subst q; rw [upd_self]; rfl
    · rw [upd_ne q]; exact e
  · by_cases q : b = s.heap.objs.size
    · subst q; exact .inr (fresh_size _)
    · rw [upd_ne q] at e; exact .inl e

theorem cv_list {v : V} {l : List V} (hv : (∃ a, v = .ref a) ∨ (∃ m, v = .tup m)) (h : itemsOf H v = some l) (hl : l.length ≤ sizeLine) (q : ∀ b, H b = none → Q (.ref b) (upd H b (.lst l))) : CallV C d (.type "list") [v] H Q X := fun A s cs ok rs => by
  obtain ⟨c, rfl, r⟩ := args1 rs
  have key : ∃ a T o items n, c = .ref a ∧ (T = "list" ∨ T = "tuple") ∧ s.heap.get? a = some o ∧ o.cls = .type T ∧ o.data = .seq items n ∧ VRs C s.heap l items.toList := by
    rcases hv with ⟨a, rfl⟩ | ⟨m, rfl⟩
    · dsimp only [VR] at r; subst r
      obtain ⟨items, ⟨o, ho, hc, n, hd⟩, rs⟩ := list_at ok.rel h
      exact ⟨a, _, o, items, n, rfl, .inl rfl, ho, hc, hd, rs⟩
    · dsimp only [VR] at r; obtain ⟨a, items, rfl, ⟨o, ho, hc, n, hd⟩, rs⟩ := r
      simp only [itemsOf, Option.some.injEq] at h; subst h
      exact ⟨a, _, o, items, n, rfl, .inr rfl, ho, hc, hd, rs⟩
  obtain ⟨a, T, o, items, n, rfl, hT, ho, hc, hd, rs⟩ := key
  have hn := rs.length
  simp only [Array.length_toList] at hn
  refine call_list_seq a hT ho hc hd (fun h' c' k e => ?_) (by omega)
  refine qp' (Step.grow (o := .lst l) (s' := { s with heap := h' }) ok k ⟨fresh0 ok, items, ⟨c', e⟩, rs.keep (.of_keeps k)⟩ rfl rfl) .ref_ (q _ (ok.rel.fresh (fresh_size _)))
theorem cv_tuple {a : Addr} {l : List V} (h : itemsOf H (.ref a) = some l) (hl : l.length ≤ sizeLine) (q : Q (.tup l) H) : CallV C d (.type "tuple") [.ref a] H Q X := fun A s cs ok rs => by
  obtain ⟨c, rfl, r⟩ := args1 rs
  dsimp only [VR] at r; subst r
  obtain ⟨items, hL, rs⟩ := list_at ok.rel h
  have hn := rs.length
  simp only [Array.length_toList] at hn
  refine call_tuple_list hL (fun h' k => ?_) (by omega)
  have k' : ∀ b o, s.heap.get? b = some o → (h'.push { cls := .type "tuple", data := .seq items }).get? b = some o := fun b o e => Heap.get?_push_of_some _ (k b o e)
  exact qp (Step.keeps ok.rel ok.top k' rfl rfl) (by dsimp only [VR]; exact ⟨_, items, rfl, ⟨_, Heap.get?_push_size _ rfl, rfl, _, rfl⟩, rs.keep (.of_keeps k')⟩) q
theorem cv_int_bool {b : Bool} (q : Q (.int (if b = true then 1 else 0)) H) : CallV C d (.type "int") [.bool b] H Q X := fun A s cs ok rs => by
  obtain ⟨c, rfl, r⟩ := args1 rs
  dsimp only [VR] at r; subst r
  exact call_int_bool (qp (ok.toks _) .int_ q)

theorem cv_append {a : Addr} {l : List V} {x : V} (h : H a = some (.lst l)) (hl : l.length ≤ sizeLine) (q : Q .none (upd H a (.lst (l ++ [x])))) : CallV C d (.builtin "list.append") [.ref a, x] H Q X := fun A s cs ok rs => by
  obtain ⟨c, e, rfl, r, r'⟩ := args2 rs
  dsimp only [VR] at r; subst r
  obtain ⟨h0, items, hL, rs⟩ := ok.rel _ _ h
  have hn := rs.length
  simp only [Array.length_toList] at hn
  refine wpAny_list_append_plain hL (fun h' hl' hs => ?_) (by omega)
  refine qp' (Step.mut (o := .lst (l ++ [x])) (s' := { s with heap := h' }) ok.rel ok.top (by rw [h]; rfl) h0 hs (fun ob hob => ?_) (fun ob es ep hob hd => ?_) (fun vk => ⟨h0, _, hl', ?_⟩) rfl rfl) .none_ q
  · obtain ⟨n, e'⟩ := hL; rw [e'] at hob; cases hob; exact .inr (.inr ⟨"list", rfl, by decide, by decide⟩)
  · obtain ⟨n, e'⟩ := hL; rw [e'] at hob; cases hob; cases hd
  · rw [Array.toList_push]; exact (rs.keep vk).append (VRs.cons (r'.keep vk) .nil)

noncomputable def pick5 (T : String) (b1 b2 b3 b4 b5 : Bool) : Option Bool :=
  if T = "int" then some b1 else if T = "bool" then some b2 else if T = "str" then some b3 else if T = "list" then some b4 else if T = "tuple" then some b5 else none
noncomputable def isi (v : V) (T : String) : Option Bool := match v with
  | .int _ => pick5 T true false false false false
  | .bool _ => pick5 T true true false false false
  | .str _ => pick5 T false false true false false
  | .none => pick5 T false false false false false
  | .tup _ => pick5 T false false false false true
  | _ => none
theorem pick5_of {T : String} {b1 b2 b3 b4 b5 k : Bool} {P : String → Bool → Prop} (hk : pick5 T b1 b2 b3 b4 b5 = some k) (h1 : P "int" b1) (h2 : P "bool" b2) (h3 : P "str" b3) (h4 : P "list" b4) (h5 : P "tuple" b5) : P T k := by
  unfold pick5 at hk
  by_cases e : T = "int"
  · rw [if_pos e] at hk; cases hk; rw [e]; exact h1
  rw [if_neg e] at hk
  by_cases e : T = "bool"
  · rw [if_pos e] at hk; cases hk; rw [e]; exact h2
  rw [if_neg e] at hk
  by_cases e : T = "str"
  · rw [if_pos e] at hk; cases hk; rw [e]; exact h3
  rw [if_neg e] at hk
  by_cases e : T = "list"
  · rw [if_pos e] at hk; cases hk; rw [e]; exact h4
  rw [if_neg e] at hk
  by_cases e : T = "tuple"
  · rw [if_pos e] at hk; cases hk; rw [e]; exact h5
  rw [if_neg e] at hk; cases hk

theorem cv_isi {v : V} {T : String} {k : Bool} (hG : C.G T (.type T)) (hk : isi v T = some k) (q : Q (.bool k) H) : CallV C d (.builtin "isinstance") [v, .glb T] H Q X := fun A s cs ok rs => by
  obtain ⟨c, e, rfl, r, r'⟩ := args2 rs
  rw [VR] at r'; cases hG.uniq r'
  have q' : ∀ n, QP C H s Q (.bool k) { s with toks := n } := fun n => qp (ok.toks n) .bool_ q
  have q0 : QP C H s Q (.bool k) s := qp ok.refl .bool_ q
  clear q hG
  revert q' q0
  cases v with
  | int i =>
    dsimp only [VR] at r; obtain ⟨t, rfl⟩ := r
    exact pick5_of (P := fun T k => (∀ n, QP C H s Q (.bool k) { s with toks := n }) → QP C H s Q (.bool k) s → wpAny C.M A (call (.builtin "isinstance") [.int i t, .type T]) (QP C H s Q) (XQ false C No H s X) s) hk
      (fun q' q0 => IsiPair.int_int q0) (fun q' q0 => IsiPair.int_bool (q' _)) (fun q' q0 => IsiPair.int_str (q' _)) (fun q' q0 => IsiPair.int_list (q' _)) (fun q' q0 => IsiPair.int_tuple (q' _))
  | bool b =>
    dsimp only [VR] at r; subst r
    exact pick5_of (P := fun T k => (∀ n, QP C H s Q (.bool k) { s with toks := n }) → QP C H s Q (.bool k) s → wpAny C.M A (call (.builtin "isinstance") [.bool b, .type T]) (QP C H s Q) (XQ false C No H s X) s) hk
      (fun q' q0 => IsiPair.bool_int q0) (fun q' q0 => IsiPair.bool_bool q0) (fun q' q0 => IsiPair.bool_str (q' _)) (fun q' q0 => IsiPair.bool_list (q' _)) (fun q' q0 => IsiPair.bool_tuple (q' _))
  | str x =>
    dsimp only [VR] at r; obtain ⟨t, rfl⟩ := r
    exact pick5_of (P := fun T k => (∀ n, QP C H s Q (.bool k) { s with toks := n }) → QP C H s Q (.bool k) s → wpAny C.M A (call (.builtin "isinstance") [.str x t, .type T]) (QP C H s Q) (XQ false C No H s X) s) hk
      (fun q' q0 => IsiPair.str_int (q' _)) (fun q' q0 => IsiPair.str_bool (q' _)) (fun q' q0 => IsiPair.str_str q0) (fun q' q0 => IsiPair.str_list (q' _)) (fun q' q0 => IsiPair.str_tuple (q' _))
  | none =>
    dsimp only [VR] at r; subst r
    exact pick5_of (P := fun T k => (∀ n, QP C H s Q (.bool k) { s with toks := n }) → QP C H s Q (.bool k) s → wpAny C.M A (call (.builtin "isinstance") [.none, .type T]) (QP C H s Q) (XQ false C No H s X) s) hk
      (fun q' q0 => IsiPair.NoneType_int (q' _)) (fun q' q0 => IsiPair.NoneType_bool (q' _)) (fun q' q0 => IsiPair.NoneType_str (q' _)) (fun q' q0 => IsiPair.NoneType_list (q' _)) (fun q' q0 => IsiPair.NoneType_tuple (q' _))
  | tup l =>
    dsimp only [VR] at r; obtain ⟨a, items, rfl, ⟨o, ho, hc, n, hd⟩, rs⟩ := r
    exact pick5_of (P := fun T k => (∀ n, QP C H s Q (.bool k) { s with toks := n }) → QP C H s Q (.bool k) s → wpAny C.M A (call (.builtin "isinstance") [.ref a, .type T]) (QP C H s Q) (XQ false C No H s X) s) hk
      (fun q' q0 => IsiPair.tuple_int ho hc (q' _)) (fun q' q0 => IsiPair.tuple_bool ho hc (q' _)) (fun q' q0 => IsiPair.tuple_str ho hc (q' _)) (fun q' q0 => IsiPair.tuple_list ho hc (q' _)) (fun q' q0 => IsiPair.tuple_tuple ho hc q0)
  | _ => cases hk

theorem cv_isi_list {a : Addr} {l : List V} {T : String} {k : Bool} (hG : C.G T (.type T)) (h : itemsOf H (.ref a) = some l) (hk : (T = "list" ∧ k = true) ∨ (T = "int" ∧ k = false) ∨ (T = "tuple" ∧ k = false) ∨ (T = "bool" ∧ k = false) ∨ (T = "str" ∧ k = false)) (q : Q (.bool k) H) : CallV C d (.builtin "isinstance") [.ref a, .glb T] H Q X := fun A s cs ok rs => by
  obtain ⟨c, e, rfl, r, r'⟩ := args2 rs
  rw [VR] at r'; cases hG.uniq r'
  dsimp only [VR] at r; subst r
  obtain ⟨items, ⟨o, ho, hc, n, hd⟩, rs⟩ := list_at ok.rel h
  rcases hk with ⟨rfl, rfl⟩ | ⟨rfl, rfl⟩ | ⟨rfl, rfl⟩ | ⟨rfl, rfl⟩ | ⟨rfl, rfl⟩
  · exact IsiPair.list_list ho hc (qp ok.refl .bool_ q)
  · exact IsiPair.list_int ho hc (qp (ok.toks _) .bool_ q)
  · exact IsiPair.list_tuple ho hc (qp (ok.toks _) .bool_ q)
  · exact IsiPair.list_bool ho hc (qp (ok.toks _) .bool_ q)
  · exact IsiPair.list_str ho hc (qp (ok.toks _) .bool_ q)

noncomputable def dget {κ : Type} [DecidableEq κ] (l : List (κ × V)) (k : κ) : Option V := (l.find? (fun p => decide (p.1 = k))).map (·.2)
theorem valueAt_get {κ : Type} [DecidableEq κ] {h : Heap} {k : κ} {x : V} : ∀ {l : List (κ × V)} {kvs : List (κ × Value)}, kvs.map (·.1) = l.map (·.1) → VRs C h (l.map (·.2)) (kvs.map (·.2)) → dget l k = some x → ∃ v, valueAt kvs k = some v ∧ VR C h x v
  | [], _, _, _, e => by simp [dget] at e
  | (a, b) :: l, kvs, m, r, e => by
    cases kvs with
    | nil => simp at m
    | cons p kvs =>
      obtain ⟨a', b'⟩ := p
      simp only [List.map_cons, List.cons.injEq] at m r
      obtain ⟨rfl, m⟩ := m
      unfold dget at e
      unfold valueAt
      by_cases hk : a' = k
      · simp only [List.find?_cons, hk, decide_true, Option.map_some, Option.some.injEq] at e ⊢
        subst e; exact ⟨b', rfl, r.head⟩
      · simp only [List.find?_cons, hk, decide_false] at e ⊢
        exact valueAt_get m r.tail e

theorem sub_dcs {a : Addr} {l : List (Str × V)} {k : Str} {x : V} (h : H a = some (.dcs l)) (hx : dget l k = some x) (q : Q x H) : SubW C d (.ref a) (.str k) H Q X := fun A s co ci ok ro ri => by
  dsimp only [VR] at ro; dsimp only [VR] at ri; subst ro; obtain ⟨t, rfl⟩ := ri
  obtain ⟨h0, hs, kvs, hD, hm, rs⟩ := ok.rel _ _ h
  obtain ⟨v, hv, r⟩ := valueAt_get hm rs hx
  exact ⟨gip hD.typeIs slot_dict_getitem.lookup, wpAny_getItem_of (knd := PySem.strKind C.prog C.w) (k := k) (by simp [PySem.strKind, Value.isStrOf]) hD.mapOf hv (qp (ok.toks _) r q)⟩
end
end Vc
end

section
set_option autoImplicit false
set_option linter.unusedVariables false
namespace Vc
open PySem

section
variable {C : Cx} {d : Md} {ρ : Lo} {H : MH} {Q : V → MH → Prop} {X : XP}

theorem E_nm {i : Nat} {v : V} (h : lk ρ i = some v) (q : Q v H) : wpE C d (.nm i) ρ H Q X := ⟨v, h, q⟩
theorem E_gl {x : String} {cv : Value} (hG : C.G x cv) (q : Q (.glb x) H) : wpE C d (.gl x) ρ H Q X := ⟨.glb x, cv, hG, by dsimp only [VR]; exact hG, q⟩
theorem E_ci {i : Int} (q : Q (.int i) H) : wpE C d (.ci i) ρ H Q X := q
theorem E_cs {x : String} (q : Q (.str (Str.ofString x)) H) : wpE C d (.cs x) ρ H Q X := q
theorem E_cb {b : Bool} (q : Q (.bool b) H) : wpE C d (.cb b) ρ H Q X := q
theorem E_cn (q : Q .none H) : wpE C d .cn ρ H Q X := q
theorem E_bin {op : Operator} {l r : Ex} (q : wpE C d l ρ H (fun a H1 => wpE C d r ρ H1 (fun b H2 => BinW C d op a b H2 Q X) X) X) : wpE C d (.bin op l r) ρ H Q X := q
theorem E_una {op : UnaryOp} {e : Ex} (q : wpE C d e ρ H (fun a H1 => UnaW C d op a H1 Q X) X) : wpE C d (.una op e) ρ H Q X := q
theorem E_cmp {op : CmpOp} {l r : Ex} (q : wpE C d l ρ H (fun a H1 => wpE C d r ρ H1 (fun b H2 => CmpW C d op a b H2 Q X) X) X) : wpE C d (.cmp op l r) ρ H Q X := q
theorem E_cmp2 {op op' : CmpOp} {l m r : Ex} (q : wpE C d l ρ H (fun a H1 => wpE C d m ρ H1 (fun b H2 => CmpW C d op a b H2 (fun c H3 => TruW C d c H3 (fun t H4 =>
      if t = true then wpE C d r ρ H4 (fun b' H5 => CmpW C d op' b b' H5 Q X) X else Q c H4) X) X) X) X) : wpE C d (.cmp2 op op' l m r) ρ H Q X := q
theorem E_bop {op : BoolOp} {es : List Ex} (q : wpB C d op es ρ H Q X) : wpE C d (.bop op es) ρ H Q X := q
theorem E_lst {es : List Ex} (q : wpEs C d es ρ H (fun vs H1 => vs.length ≤ sizeLine ∧ ∀ a, H1 a = none → Q (.ref a) (upd H1 a (.lst vs))) X) : wpE C d (.lst es) ρ H Q X := q
theorem E_tup {es : List Ex} (q : wpEs C d es ρ H (fun vs H1 => vs.length ≤ sizeLine ∧ Q (.tup vs) H1) X) : wpE C d (.tup es) ρ H Q X := q
theorem E_emp {k : Nat} (q : ∀ a, H a = none → Q (.ref a) (upd H a (match k with | 0 => .dci [] | _ => .dcs []))) : wpE C d (.emp k) ρ H Q X := q
theorem E_dct {ks : List String} {es : List Ex} (q : wpEs C d es ρ H (fun vs H1 => DctW ks vs H1 Q) X) : wpE C d (.dct ks es) ρ H Q X := q
theorem E_sub {o i : Ex} (q : wpE C d o ρ H (fun a H1 => wpE C d i ρ H1 (fun b H2 => SubW C d a b H2 Q X) X) X) : wpE C d (.sub o i) ρ H Q X := q
theorem E_sli {o l u t : Ex} (q : wpE C d o ρ H (fun a H1 => wpE C d l ρ H1 (fun b H2 => wpE C d u ρ H2 (fun c H3 => wpE C d t ρ H3 (fun e H4 => SliW C d a b c e H4 Q X) X) X) X) X) : wpE C d (.sli o l u t) ρ H Q X := q
theorem E_call {f : String} {fv : Value} {es : List Ex} (hG : C.G f fv) (hc : Callee C fv) (q : wpEs C d es ρ H (fun vs H1 => CallV C d fv vs H1 Q X) X) : wpE C d (.call f es) ρ H Q X := by
  have e : ∀ vs H1, CallV C d fv vs H1 Q X ↔ CallW C d f vs H1 Q X := fun vs H1 => ⟨fun h => call_w hG h, fun h => h fv hG⟩
  have q' : wpEs C d es ρ H (fun vs H1 => CallW C d f vs H1 Q X) X := by simpa only [e] using q
  exact ⟨⟨fv, hG, hc⟩, q'⟩
theorem E_meth {o : Ex} {m : String} {es : List Ex} (q : wpE C d o ρ H (fun ov H1 => ∃ fv, MGet C d ov m fv H1 ∧ Callee C fv ∧ wpEs C d es ρ H1 (fun vs H2 => CallV C d fv (ov :: vs) H2 Q X) X) X) : wpE C d (.meth o m es) ρ H Q X := q
theorem E_comp {k : Nat} {elt it : Ex} {ifs : List Ex} (q : wpE C d it ρ H (fun iv H1 => ∃ all, Itq d iv ∧ itemsOf H1 iv = some all ∧ all.length ≤ sizeLine ∧
      wpC k iv all (fun vs H2 Q' => wpTs C d ifs (ρ ++ vs.map some) H2 (fun t H3 => if t = true then wpE C d elt (ρ ++ vs.map some) H3 (fun v H4 => Q' (some v) H4) X else Q' none H3) X) all [] H1
        (fun vs H2 => vs.length ≤ sizeLine ∧ ∀ a, H2 a = none → Q (.ref a) (upd H2 a (.lst vs)))) X) : wpE C d (.comp k elt it ifs) ρ H Q X := q

theorem Es_nil {Q : List V → MH → Prop} (q : Q [] H) : wpEs C d [] ρ H Q X := q
theorem Es_cons {Q : List V → MH → Prop} {e : Ex} {es : List Ex} (q : wpE C d e ρ H (fun v H1 => wpEs C d es ρ H1 (fun vs H2 => Q (v :: vs) H2) X) X) : wpEs C d (e :: es) ρ H Q X := q

theorem B_one {op : BoolOp} {e : Ex} (q : wpE C d e ρ H Q X) : wpB C d op [e] ρ H Q X := q
theorem B_cons {op : BoolOp} {e e' : Ex} {es : List Ex} (q : wpE C d e ρ H (fun v H1 => TruW C d v H1 (fun t H2 => if (op = .And ∧ t = false) ∨ (op = .Or ∧ t = true) then Q v H2 else wpB C d op (e' :: es) ρ H2 Q X) X) X) : wpB C d op (e :: e' :: es) ρ H Q X := by
  exact q

variable {P : Bool → MH → Prop}
theorem T_not {e : Ex} (q : wpT C d e ρ H (fun t H1 => P (!t) H1) X) : wpT C d (.una .Not e) ρ H P X := q
theorem T_bop {op : BoolOp} {es : List Ex} (q : wpA C d op es ρ H P X) : wpT C d (.bop op es) ρ H P X := q
theorem T_cmp2 {op op' : CmpOp} {l m r : Ex} (q : wpE C d l ρ H (fun a H1 => wpE C d m ρ H1 (fun b H2 => CmpW C d op a b H2 (fun c H3 => TruW C d c H3 (fun t H4 =>
      if t = true then wpE C d r ρ H4 (fun b' H5 => CmpW C d op' b b' H5 (fun c' H6 => TruW C d c' H6 P X) X) X else P false H4) X) X) X) X) : wpT C d (.cmp2 op op' l m r) ρ H P X := q
theorem T_nm {i : Nat} (q : wpE C d (.nm i) ρ H (fun v H1 => TruW C d v H1 P X) X) : wpT C d (.nm i) ρ H P X := q
theorem T_cmp {op : CmpOp} {l r : Ex} (q : wpE C d (.cmp op l r) ρ H (fun v H1 => TruW C d v H1 P X) X) : wpT C d (.cmp op l r) ρ H P X := q
theorem T_call {f : String} {es : List Ex} (q : wpE C d (.call f es) ρ H (fun v H1 => TruW C d v H1 P X) X) : wpT C d (.call f es) ρ H P X := q
theorem A_nil_and (q : P true H) : wpA C d .And [] ρ H P X := q
theorem A_nil_or (q : P false H) : wpA C d .Or [] ρ H P X := q
theorem A_and {e : Ex} {es : List Ex} (q : wpT C d e ρ H (fun t H1 => if t = true then wpA C d .And es ρ H1 P X else P false H1) X) : wpA C d .And (e :: es) ρ H P X := by
  have e : ∀ (t : Bool) (H1 : MH), (if t = true then wpA C d .And es ρ H1 P X else P false H1) ↔ (if (BoolOp.And = .And ∧ t = false) ∨ (BoolOp.And = .Or ∧ t = true) then P t H1 else wpA C d .And es ρ H1 P X) := fun t H1 => by cases t <;> simp
  rw [funext fun t => funext fun H1 => propext (e t H1)] at q
  exact q
theorem A_or {e : Ex} {es : List Ex} (q : wpT C d e ρ H (fun t H1 => if t = true then P true H1 else wpA C d .Or es ρ H1 P X) X) : wpA C d .Or (e :: es) ρ H P X := by
  have e : ∀ (t : Bool) (H1 : MH), (if t = true then P true H1 else wpA C d .Or es ρ H1 P X) ↔ (if (BoolOp.Or = .And ∧ t = false) ∨ (BoolOp.Or = .Or ∧ t = true) then P t H1 else wpA C d .Or es ρ H1 P X) := fun t H1 => by cases t <;> simp
  rw [funext fun t => funext fun H1 => propext (e t H1)] at q
  exact q
theorem Ts_nil (q : P true H) : wpTs C d [] ρ H P X := q
theorem Ts_cons {e : Ex} {es : List Ex} (q : wpT C d e ρ H (fun t H1 => if t = true then wpTs C d es ρ H1 P X else P false H1) X) : wpTs C d (e :: es) ρ H P X := q
end

section
variable {C : Cx} {d : Md} {ρ : Lo} {H : MH} {K : KP} {X : XS} {ts : List St}

theorem SS_nil (q : K .next ρ H) : wpSs C d [] ρ H K X := by dsimp only [wpSs]; exact q
theorem SS_append {as bs : List St} : ∀ {ρ : Lo} {H : MH} {K : KP}, wpSs C d (as ++ bs) ρ H K X ↔ wpSs C d as ρ H (fun f ρ' H' => match f with | .next => wpSs C d bs ρ' H' K X | .ret v => K (.ret v) ρ' H') X := by
  induction as with
  | nil => intro ρ H K; rw [List.nil_append]; exact ⟨fun h => by dsimp only [wpSs]; exact h, fun h => by dsimp only [wpSs] at h; exact h⟩
  | cons a as ih =>
    intro ρ H K
    (rw [List.cons_append]; dsimp only [wpSs, wpSs])
    refine Iff.of_eq (congrArg (fun K => wpS C d a ρ H K X) ?_)
    funext f ρ' H'
    cases f with
    | next => exact propext ih
    | ret v => rfl
theorem SS_asg {i : Nat} {e : Ex} (q : wpE C d e ρ H (fun v H1 => wpSs C d ts (ls ρ i v) H1 K X) (fun c H1 => X c ρ H1)) : wpSs C d (.asg i e :: ts) ρ H K X := by dsimp only [wpSs, wpS]; exact q
theorem SS_unp {is : List Nat} {e : Ex} (q : wpE C d e ρ H (fun v H1 => ∃ l, v = .tup l ∧ Itq d v ∧ l.length = is.length ∧ wpSs C d ts (lss ρ is l) H1 K X) (fun c H1 => X c ρ H1)) : wpSs C d (.unp is e :: ts) ρ H K X := by dsimp only [wpSs, wpS]; exact q
theorem SS_exp {e : Ex} (q : wpE C d e ρ H (fun _ H1 => wpSs C d ts ρ H1 K X) (fun c H1 => X c ρ H1)) : wpSs C d (.exp e :: ts) ρ H K X := by dsimp only [wpSs, wpS]; exact q
theorem SS_ret {e : Ex} (q : wpE C d e ρ H (fun v H1 => K (.ret v) ρ H1) (fun c H1 => X c ρ H1)) : wpSs C d (.ret e :: ts) ρ H K X := by dsimp only [wpSs, wpS]; exact q
theorem SS_ife {c : Ex} {a b : List St} (q : wpT C d c ρ H (fun t H1 => if t = true then wpSs C d (a ++ ts) ρ H1 K X else wpSs C d (b ++ ts) ρ H1 K X) (fun c H1 => X c ρ H1)) : wpSs C d (.ife c a b :: ts) ρ H K X := by
  simp only [SS_append] at q
  dsimp only [wpSs, wpS]; exact q

theorem for_inv {k : List Nat} {sv : Sv} {all : List V} {stp : Lo → MH → KP → Prop} {K : KP} (P : Nat → Lo → MH → Prop) (P0 : P 0 ρ H)
    (rnd : ∀ i x ρ H (R : Lo → MH → Prop), P i ρ H → all[i]? = some x → (∀ ρ' H', P (i + 1) ρ' H' → R ρ' H') → svItems H sv = some all ∧ ∃ vs, parts k.length x = some vs ∧ stp (lss ρ k vs) H (fun f ρ' H' => match f with | .next => R ρ' H' | .ret v => K (.ret v) ρ' H'))
    (fin : ∀ ρ H, P all.length ρ H → svItems H sv = some all ∧ K .next ρ H) : wpF k sv all stp all ρ H K := by
  have key : ∀ n i ρ H, i + n = all.length → P i ρ H → wpF k sv all stp (all.drop i) ρ H K := by
    intro n
    induction n with
    | zero =>
      intro i ρ H e p
      (rw [List.drop_eq_nil_of_le (by omega)]; dsimp only [wpF])
      have : i = all.length := by omega
      subst this
      exact fin ρ H p
    | succ n ih =>
      intro i ρ H e p
      have hi : i < all.length := by omega
      (rw [List.drop_eq_getElem_cons hi]; dsimp only [wpF])
      exact rnd i all[i] ρ H (fun ρ' H' => wpF k sv all stp (all.drop (i + 1)) ρ' H' K) p (List.getElem?_eq_getElem hi) fun ρ' H' p' => ih (i + 1) ρ' H' (by omega) p'
  simpa using key all.length 0 ρ H (by omega) P0
theorem comp_inv {k : Nat} {iv : V} {all : List V} {stp : List V → MH → (Option V → MH → Prop) → Prop} {K : List V → MH → Prop} (P : Nat → List V → MH → Prop) (P0 : P 0 [] H)
    (rnd : ∀ i x acc H (R : List V → MH → Prop), P i acc H → all[i]? = some x → (∀ acc' H', P (i + 1) acc' H' → R acc' H') → itemsOf H iv = some all ∧ ∃ vs, parts k x = some vs ∧ stp vs H (fun r H' => R (match r with | some v => acc ++ [v] | none => acc) H'))
    (fin : ∀ acc H, P all.length acc H → itemsOf H iv = some all ∧ K acc H) : wpC k iv all stp all [] H K := by
  have key : ∀ n i acc H, i + n = all.length → P i acc H → wpC k iv all stp (all.drop i) acc H K := by
    intro n
    induction n with
    | zero =>
      intro i acc H e p
      (rw [List.drop_eq_nil_of_le (by omega)]; dsimp only [wpC])
      have : i = all.length := by omega
      subst this
      exact fin acc H p
    | succ n ih =>
      intro i acc H e p
      have hi : i < all.length := by omega
      (rw [List.drop_eq_getElem_cons hi]; dsimp only [wpC])
      exact rnd i all[i] acc H (fun acc' H' => wpC k iv all stp (all.drop (i + 1)) acc' H' K) p (List.getElem?_eq_getElem hi) fun acc' H' p' => ih (i + 1) acc' H' (by omega) p'
  simpa using key all.length 0 [] H (by omega) P0

theorem SS_for {k : List Nat} {e : Ex} {body : List St} (q : wpE C d e ρ H (fun v H1 => ∃ all, Itq d v ∧ itemsOf H1 v = some all ∧ wpF k (.pl v) all (fun ρ' H' K' => wpSs C d body ρ' H' K' X) all ρ H1
      (fun f ρ' H' => match f with | .next => wpSs C d ts ρ' H' K X | .ret v => K (.ret v) ρ' H')) (fun c H1 => X c ρ H1)) : wpSs C d (.for k (.pl e) body :: ts) ρ H K X := by dsimp only [wpSs, wpS, wpSr]; exact q
theorem SS_fore {k : List Nat} {e : Ex} {body : List St} (hG : C.G "enumerate" (.type "enumerate")) (q : wpE C d e ρ H (fun v H1 => ∃ all, (d.q = true ∧ Itq d v) ∧ svItems H1 (.en v) = some all ∧ wpF k (.en v) all (fun ρ' H' K' => wpSs C d body ρ' H' K' X) all ρ H1
      (fun f ρ' H' => match f with | .next => wpSs C d ts ρ' H' K X | .ret v => K (.ret v) ρ' H')) (fun c H1 => X c ρ H1)) : wpSs C d (.for k (.en e) body :: ts) ρ H K X := by dsimp only [wpSs, wpS, wpSr]; exact ⟨hG, q⟩
end

noncomputable def Def (C : Cx) (f : String) (vs : Vs) (np : Nat) (body : List St) : Prop :=
  ∃ fa o fd, C.mg (Str.ofString f) = some (.ref fa) ∧ C.h0.get? fa = some o ∧ o.data = .func fd ∧ C.h0.CodeRec fd.code fd.qualname ∧ okFn fd vs np body = true

section
variable {C : Cx} {n : Nat} {q : Bool} {ρ : Lo} {H : MH} {Q : V → MH → Prop} {X : XP}
theorem Def.fn {f : String} {vs : Vs} {np : Nat} {body : List St} (D : Def C f vs np body) : Fn C f := by
  obtain ⟨fa, o, fd, hg, ho, hd, hc, hk⟩ := D
  exact ⟨.ref fa, .inl hg, callee_fn ho hd⟩
theorem Def.call {f : String} {vs : Vs} {np : Nat} {body : List St} {args : List V} (G : C.Good) (D : Def C f vs np body) (hl : args.length = np)
    (h : wpSs C ⟨n, q⟩ body (args.map some ++ List.replicate (vs.length - np) none) H (fun f _ H' => match f with | .ret v => Q v H' | .next => Q .none H') (fun c _ H' => X c H')) : CallW C ⟨n + 1, q⟩ f args H Q X := by
  obtain ⟨fa, o, fd, hg, ho, hd, hc, hk⟩ := D
  exact call_w (.inl hg) (fn_call G ho hd hc hk hl h)
theorem E_fn {d : Md} {f : String} {es : List Ex} (hF : Fn C f) (h : wpEs C d es ρ H (fun vs H1 => CallW C d f vs H1 Q X) X) : wpE C d (.call f es) ρ H Q X := ⟨hF, h⟩
end

noncomputable def Ext (H H' : MH) : Prop := ∀ a o, H a = some o → H' a = some o
theorem Ext.refl (H : MH) : Ext H H := fun _ _ e => e
theorem Ext.trans {H H' H'' : MH} (x : Ext H H') (y : Ext H' H'') : Ext H H'' := fun a o e => y a o (x a o e)
theorem Ext.new {H : MH} {a : Addr} {o : O} (h : H a = none) : Ext H (upd H a o) := fun b o' e => by
  rw [upd_ne]
  · exact e
  · rintro rfl; rw [h] at e; cases e
theorem Ext.more {H H' : MH} {a : Addr} {o : O} (x : Ext H H') (h : H' a = none) : Ext H (upd H' a o) := x.trans (.new h)
theorem Ext.items {H H' : MH} (x : Ext H H') {v : V} {l : List V} (h : itemsOf H v = some l) : itemsOf H' v = some l := by
  cases v with
  | ref a =>
    simp only [itemsOf] at h ⊢
    cases e : H a with
    | none => rw [e] at h; cases h
    | some o => rw [e] at h; rw [x a o e]; exact h
  | _ => exact h
theorem items_new {H : MH} {a : Addr} {l : List V} : itemsOf (upd H a (.lst l)) (.ref a) = some l := by simp only [itemsOf, upd_self]
theorem items_lst {H : MH} {a : Addr} {l : List V} (h : H a = some (.lst l)) : itemsOf H (.ref a) = some l := by simp only [itemsOf, h]
theorem items_fro {H : MH} {a : Addr} {l : List V} (h : H a = some (.fro l)) : itemsOf H (.ref a) = some l := by simp only [itemsOf, h]

theorem rngItems_one {a b : Int} : rngItems a b 1 = (List.range (b - a).toNat).map fun (k : Nat) => V.int (a + (k : Int)) := by
  unfold rngItems
  rw [rangeSize_one]
  by_cases h : a < b
  · rw [if_pos h]; simp
  · rw [if_neg h]; simp; omega
theorem rng_len {a b : Int} : (rngItems a b 1).length = (b - a).toNat := by rw [rngItems_one]; simp
theorem rng_get {a b : Int} {i : Nat} {x : V} (h : (rngItems a b 1)[i]? = some x) : x = .int (a + i) ∧ (i : Int) < b - a := by
  rw [rngItems_one, List.getElem?_map] at h
  cases e : (List.range (b - a).toNat)[i]? with
  | none => rw [e] at h; cases h
  | some j =>
    rw [e] at h
    have := List.getElem?_eq_some_iff.mp e
    obtain ⟨hi, ej⟩ := this
    simp at hi ej h
    subst ej
    exact ⟨h.symm, by omega⟩
end Vc
end

section
set_option autoImplicit false
set_option linter.unusedVariables false
namespace Vc
open PySem PyProof.Rows

section
variable {C : Cx} {d : Md} {H : MH}
theorem mget_list {a : Addr} {l : List V} {m id : String} (h : H a = some (.lst l)) (slot : Slot "list" (Str.ofString m) id) (ty : typeOf (.builtin id) = pure (.type "method_descriptor")) : MGet C d (.ref a) m (.builtin id) H := fun A s co pl Q E ok r q => by
  dsimp only [VR] at r; subst r
  obtain ⟨_, items, ⟨n, ho⟩, rs⟩ := ok.rel _ _ h
  exact getMethod_builtin (T := "list") ⟨_, ho, rfl⟩ PySem.F.plainAttrs_list slot ty (fun a e => by cases e; exact ⟨_, ho, rfl⟩) q
theorem mget_append {a : Addr} {l : List V} (h : H a = some (.lst l)) : MGet C d (.ref a) "append" (.builtin "list.append") H := mget_list h PySem.F.slot_list_append PySem.F.type_list_append
end

noncomputable def stdNames : List (String × Value) := [("len", .builtin "len"), ("range", .type "range"), ("list", .type "list"), ("tuple", .type "tuple"), ("int", .type "int"), ("bool", .type "bool"), ("str", .type "str"), ("dict", .type "dict"), ("isinstance", .builtin "isinstance"), ("enumerate", .type "enumerate"), ("min", .builtin "min"), ("max", .builtin "max"), ("all", .builtin "all"), ("any", .builtin "any"), ("sorted", .builtin "sorted"), ("set", .type "set"), ("zip", .type "zip"), ("sum", .builtin "sum")]
structure Std (C : Cx) : Prop where
  n_len : C.G "len" (.builtin "len")
  n_range : C.G "range" (.type "range")
  n_list : C.G "list" (.type "list")
  n_tuple : C.G "tuple" (.type "tuple")
  n_int : C.G "int" (.type "int")
  n_bool : C.G "bool" (.type "bool")
  n_str : C.G "str" (.type "str")
  n_dict : C.G "dict" (.type "dict")
  n_isinstance : C.G "isinstance" (.builtin "isinstance")
  n_enumerate : C.G "enumerate" (.type "enumerate")
  n_min : C.G "min" (.builtin "min")
  n_max : C.G "max" (.builtin "max")
  n_all : C.G "all" (.builtin "all")
  n_any : C.G "any" (.builtin "any")
  n_sorted : C.G "sorted" (.builtin "sorted")
  n_set : C.G "set" (.type "set")
  n_zip : C.G "zip" (.type "zip")
  n_sum : C.G "sum" (.builtin "sum")
end Vc
end

section
set_option autoImplicit false
set_option linter.unusedVariables false
namespace Vc
open PySem PyProof.Rows

theorem bin_modp {C : Cx} {d : Md} {H : MH} {Q : V → MH → Prop} {X : XP} {a b : Int} (hb : 0 < b) (q : Q (.int (a % b)) H) : BinW C d .Mod (.int a) (.int b) H Q X :=
  bin_mod (by omega) (by rw [Int.fmod_eq_emod_of_nonneg _ (by omega)]; exact q)
theorem bin_divp {C : Cx} {d : Md} {H : MH} {Q : V → MH → Prop} {X : XP} {a b : Int} (hb : 0 < b) (hs : b < 1073741824) (q : Q (.int (a / b)) H) : BinW C d .FloorDiv (.int a) (.int b) H Q X :=
  bin_fdiv (by omega) (PyProof.noPylong_small (by omega)) (by rw [Int.fdiv_eq_ediv_of_nonneg _ (by omega)]; exact q)

theorem B_and {C : Cx} {d : Md} {ρ : Lo} {H : MH} {Q : V → MH → Prop} {X : XP} {e e' : Ex} {es : List Ex} (q : wpE C d e ρ H (fun v H1 => TruW C d v H1 (fun t H2 => if t = true then wpB C d .And (e' :: es) ρ H2 Q X else Q v H2) X) X) : wpB C d .And (e :: e' :: es) ρ H Q X := by
  have e : ∀ (v : V) (t : Bool) (H1 : MH), (if t = true then wpB C d .And (e' :: es) ρ H1 Q X else Q v H1) ↔ (if (BoolOp.And = .And ∧ t = false) ∨ (BoolOp.And = .Or ∧ t = true) then Q v H1 else wpB C d .And (e' :: es) ρ H1 Q X) := fun v t H1 => by cases t <;> simp
  exact B_cons (by simpa only [e] using q)
theorem if_t {A B : Prop} (h : A) : if true = true then A else B := h
theorem if_f {A B : Prop} (h : B) : if false = true then A else B := h
theorem if_nt {A B : Prop} (h : B) : if (!true) = true then A else B := h
theorem if_nf {A B : Prop} (h : A) : if (!false) = true then A else B := h
theorem SS_join {C : Cx} {d : Md} {ρ : Lo} {H : MH} {K : KP} {X : XS} {ts : List St} {c : Ex} {a b : List St} (J : Lo → MH → Prop) (h2 : ∀ ρ' H', J ρ' H' → wpSs C d ts ρ' H' K X)
    (h1 : ∀ R : Lo → MH → Prop, (∀ ρ' H', J ρ' H' → R ρ' H') → wpT C d c ρ H (fun t H1 => if t = true then wpSs C d a ρ H1 (fun f ρ' H' => match f with | .next => R ρ' H' | .ret v => K (.ret v) ρ' H') X
      else wpSs C d b ρ H1 (fun f ρ' H' => match f with | .next => R ρ' H' | .ret v => K (.ret v) ρ' H') X) (fun c H1 => X c ρ H1)) : wpSs C d (.ife c a b :: ts) ρ H K X := by
  dsimp only [wpSs, wpS]; exact h1 (fun ρ' H' => wpSs C d ts ρ' H' K X) h2
theorem SS_app0 {C : Cx} {d : Md} {ρ : Lo} {H : MH} {K : KP} {X : XS} {ts : List St} (h : wpSs C d ts ρ H K X) : wpSs C d ([] ++ ts) ρ H K X := h
theorem SS_app1 {C : Cx} {d : Md} {ρ : Lo} {H : MH} {K : KP} {X : XS} {t : St} {as ts : List St} (h : wpSs C d (t :: (as ++ ts)) ρ H K X) : wpSs C d ((t :: as) ++ ts) ρ H K X := h

section
variable {C : Cx} {d : Md} {H : MH} {Q : V → MH → Prop} {X : XP}
theorem sub_t0 {l : List V} {x : V} (hl : Nat.ble l.length 900 = true) (q : Q x H) : SubW C d (.tup (x :: l)) (.int 0) H Q X :=
  sub_tup (j := 0) (by simp [seqIndex?]) (Nat.le_trans (m := 901) (by have := Nat.le_of_ble_eq_true hl; simp; omega) (by decide)) rfl q
theorem sub_t2 {l : List V} {x y z : V} (hl : Nat.ble l.length 900 = true) (q : Q z H) : SubW C d (.tup (x :: y :: z :: l)) (.int 2) H Q X :=
  sub_tup (j := 2) (by simp [seqIndex?]; omega) (Nat.le_trans (m := 903) (by have := Nat.le_of_ble_eq_true hl; simp; omega) (by decide)) rfl q
theorem sub_listn {a : Addr} {l : List V} {i : Nat} {x : V} (h : itemsOf H (.ref a) = some l) (hl : l.length ≤ sizeLine) (hx : l[i]? = some x) (q : Q x H) : SubW C d (.ref a) (.int i) H Q X := by
  refine sub_list h hl (j := i) ?_ hx q
  have := (List.getElem?_eq_some_iff.mp hx).1
  simp only [seqIndex?]
  rw [if_neg (show ¬ (i : Int) < 0 by omega), if_pos (by simp; omega)]
  simp
end

noncomputable def H0 (a : Addr) (ns : List Int) : MH := fun b => if b = a then some (.fro (ns.map .int)) else none
end Vc
end

section
set_option autoImplicit false
set_option linter.unusedVariables false
namespace Vc
open PySem PySem.W PyProof.Rows

theorem std_boot : stdNames.all (fun p => bootBuiltins (Str.ofString p.1) == some p.2 && !(Str.ofString p.1 == ("__name__" : Str)) && !startupNames.contains (Str.ofString p.1)) = true := by decide +kernel

noncomputable def freeT (p : Program) : Bool := stdNames.all fun q => !(((recsOf p).map (·.name)).contains (Str.ofString q.1)) && !(((litsOf p).map (·.1)).contains (Str.ofString q.1)) && !(((clssOf p []).map (·.name)).contains (Str.ofString q.1))

theorem not_mem_of {x : Str} {l : List Str} (h : (!l.contains x) = true) : x ∉ l := fun m => by
  rw [List.contains_iff_mem.mpr m] at h; cases h
theorem std_of1 {p : Program} {mean : ExcName → Option Value} {C : Cx} (T : Top p [] mean C.mg C.mb C.h0) (e : freeT p = true) : ∀ q ∈ stdNames, C.G q.1 q.2 := fun q hq => by
  have h1 := Bool.and_eq_true_iff.mp (List.all_eq_true.mp e q hq)
  have h2 := Bool.and_eq_true_iff.mp h1.1
  have h3 := Bool.and_eq_true_iff.mp (List.all_eq_true.mp std_boot q hq)
  have h4 := Bool.and_eq_true_iff.mp h3.1
  refine .inr ⟨T.free _ (not_mem_of h3.2) (List.not_mem_nil) (not_mem_of h2.1) (not_mem_of h2.2) (not_mem_of h1.2), ?_⟩
  rw [T.builtins _ fun e => ?_]
  · exact eq_of_beq h4.1
  · rw [e] at h4; exact Bool.false_ne_true h4.2
theorem std_all {C : Cx} (key : ∀ q ∈ stdNames, C.G q.1 q.2) (n : Nat) (h : n < stdNames.length) : C.G stdNames[n].1 stdNames[n].2 := key _ (List.getElem_mem h)
theorem std_of {p : Program} {mean : ExcName → Option Value} {C : Cx} (T : Top p [] mean C.mg C.mb C.h0) (e : freeT p = true) : Std C := by
  have key := std_all (std_of1 T e)
  exact ⟨key 0 (by decide), key 1 (by decide), key 2 (by decide), key 3 (by decide), key 4 (by decide), key 5 (by decide), key 6 (by decide), key 7 (by decide), key 8 (by decide), key 9 (by decide), key 10 (by decide), key 11 (by decide), key 12 (by decide), key 13 (by decide), key 14 (by decide), key 15 (by decide), key 16 (by decide), key 17 (by decide)⟩

theorem good_of {p : Program} {loose : List Str} {mean : ExcName → Option Value} {C : Cx} (T : Top p loose mean C.mg C.mb C.h0) : C.Good := ⟨T.g, T.b, T.nolimit⟩

noncomputable def defT (p : Program) (f : String) (vs : Vs) (np : Nat) (body : List St) : Bool :=
  match (recsOf p).find? fun d => d.name == Str.ofString f with
  | some d => okFn (Calls.docDef d.name d.params d.body d.scope .none .none .none) vs np body
  | none => false
theorem def_of {p : Program} {mean : ExcName → Option Value} {C : Cx} (T : Top p [] mean C.mg C.mb C.h0) {f : String} {vs : Vs} {np : Nat} {body : List St} (h : defT p f vs np body = true) : Def C f vs np body := by
  unfold defT at h
  cases e : (recsOf p).find? fun d => d.name == Str.ofString f with
  | none => rw [e] at h; exact (Bool.false_ne_true h).elim
  | some d =>
    rw [e] at h
    obtain ⟨a, o, pm, code, doc, h1, h2, h3, h4⟩ := T.fn d (List.mem_of_find?_eq_some e)
    have hn : d.name = Str.ofString f := eq_of_beq (List.find?_some (p := fun d : DefRec => d.name == Str.ofString f) e)
    exact ⟨a, o, _, hn ▸ h1, h2, h3, h4, h⟩

theorem good_true {c : ClaimW} {cl : Str → Option Addr} {mean : ExcName → Option Value} {args : List WData} {s₁ s' : Shared} (k : ∀ b o, s₁.heap.get? b = some o → s'.heap.get? b = some o) (hg : s'.gens = #[]) (hos : s'.os = s₁.os)
    (hn : ∀ cls, c.raises args cls = false) (hp : c.post args (.bool true) args = true) : GoodWG c cl mean args s₁ (.ok (.ret (.bool true))) s' :=
  GoodW.toG ⟨.inl ⟨.bool true, .bool true, [], rfl, hn, .bool true, hp, unshared_nil⟩, k, hos, hg⟩

theorem ints_vrs {C : Cx} {h : Heap} : ∀ {vs : List Value} {ns : List Int}, IntsAre vs ns → VRs C h (ns.map .int) vs
  | _, _, .nil => .nil
  | _, _, .cons n t r => VRs.cons .int_ (ints_vrs r)

theorem start {p : Program} {w : World} {s₁ : Shared} {mg mb : Str → Option Value} {fa a : Addr} {vs : List Value} {ns : List Int} (hL : s₁.heap.IsList a vs.toArray) (hI : IntsAre vs ns) (hg : s₁.gens = #[])
    (hmg : mg "law" = some (.ref fa)) (h : CallW ⟨p, w, s₁.heap, mg, mb⟩ ⟨60, true⟩ "law" [.ref a] (H0 a ns) (fun v _ => v = .bool true) (fun _ _ => False)) :
    wpAny (Cx.M ⟨p, w, s₁.heap, mg, mb⟩) callerA (call (.ref fa) [.ref a]) (fun v s' => v = .bool true ∧ (∀ b o, s₁.heap.get? b = some o → s'.heap.get? b = some o) ∧ s'.gens = #[] ∧ s'.os = s₁.os) (fun _ _ => False) s₁ := by
  have ok : Ok ⟨p, w, s₁.heap, mg, mb⟩ ⟨60, true⟩ (H0 a ns) callerA s₁ := by
    refine ⟨fun b o e => ?_, fun b o e => e, ⟨by decide +kernel, by decide +kernel⟩, ⟨fun _ => rfl, .inl rfl⟩, [], rfl, fun e he => by cases he⟩
    unfold H0 at e
    split at e
    · rename_i hb; subst hb; cases e
      exact ⟨vs.toArray, hL, by simpa using ints_vrs hI⟩
    · cases e
  refine wpAny_mono (h (.ref fa) (.inl hmg) callerA s₁ [.ref a] ok (VRs.cons .ref_ .nil)) (fun v s' x => ?_) fun e s' x => ?_
  · obtain ⟨r, H', st, vr, rfl⟩ := x
    dsimp only [VR] at vr
    exact ⟨vr, fun b o e => st.top b o e, st.gens.trans hg, st.os⟩
  · obtain ⟨_, _, _, _, _, _, _, f⟩ := x; exact f
end Vc
end

section
set_option autoImplicit false
set_option linter.unusedVariables false
set_option maxRecDepth 100000
set_option maxHeartbeats 400000
namespace Vc
open PySem PySem.W PyProof.Rows

section
variable {prog : Program} {w : World} {A : Around} {E : Value → Shared → Prop} {K : Frag} {x D : Addr} {ox : Obj}
variable {h : Heap} {g : Array GenState} {d : Drawn} {t : Nat} {os : OsState}

theorem bga_kind : builtinKind "BaseException.__getattribute__" = some .slot := by decide +kernel
theorem bga_split : splitId "BaseException.__getattribute__" = some ("BaseException", "__getattribute__") := by decide +kernel
theorem bga_plain : plainId "BaseException.__getattribute__" = true := by decide +kernel

theorem exc_find {tk : Tok} {Q : Fin → Shared → Prop} (X : K.In h) (I : InstAt h x ox D none) (hf : findObj K D none "__class__" = some (.bind (.builtin "getset_descriptor.__get__") (.builtin "object.__class__"))) (hm : mroIn K D (.type "object") = some true)
    (hq : Q (.done (.ret (.ref D))) ⟨h, g, d, t, os⟩) : wpAny (model prog w) A (Builtin.«object.__getattribute__» ⟨[.ref x, .str "__class__" tk], []⟩) Q E ⟨h, g, d, t, os⟩ := by
  have LT := I.type (M := model prog w)
  have LF := looks_find (M := model prog w) X I hf
  refine wpAny_bind (wpAny_pure ?_)
  refine wpAny_bind (wpAny_pure ?_)
  refine wpAny_bind (LT.at ?_)
  refine wpAny_bind (LF.at ?_)
  refine wpAny_bind (wpAny_holding (wpAny_call (class_get (s := ⟨h, g, d, t, os⟩) X I hm ?_)))
  exact wpAny_pure hq

theorem exc_ga {tk : Tok} {R : Result → Shared → Prop} (X : K.In h) (I : InstAt h x ox D none) (hf : findObj K D none "__class__" = some (.bind (.builtin "getset_descriptor.__get__") (.builtin "object.__class__"))) (hm : mroIn K D (.type "object") = some true) (hmB : mroIn K D (.type "BaseException") = some true)
    (hq : R (.ok (.ret (.ref D))) ⟨h, g, d, t, os⟩) :
    codeAny (model prog w) A (.call (.builtin "BaseException.__getattribute__") ⟨[.ref x, .str "__class__" tk], []⟩) R ⟨h, g, d, t, os⟩ := by
  have LB : Looks (model prog w) h (isInstance (.ref x) (.type "BaseException")) true := (I.type (M := model prog w)).andThen (looks_mroIn X hmB)
  refine codeAny_call_builtin bga_plain F.entry_bexc_ga ?_
  exact check_slot (M := model prog w) (s := ⟨h, g, d, t, os⟩) (i := "BaseException.__getattribute__") (owner := "BaseException") (n := "__getattribute__") (self := .ref x) (rest := [.str "__class__" tk]) (kw := []) bga_kind bga_split LB (F.args_bexc_ga _ _) (exc_find X I hf hm hq)

theorem bga_bind (self : Value) : bindSpecial (.builtin "BaseException.__getattribute__") self = pure (.builtin "BaseException.__getattribute__", [self]) :=
  (Slot.of (T := "BaseException") (name := "__getattribute__") (owner := "BaseException") (n := "__getattribute__") (by rw [typeLookup_type, builtinLookup_eq_fast]; kernel_rfl) (by decide +kernel) (by decide +kernel) (by decide +kernel)
    (.inl (by decide +kernel)) (by rw [isSubtype_type]; kernel_rfl)).bind self

theorem exc_class {Q : Option Value → Shared → Prop} (X : K.In h) (I : InstAt h x ox D none) (hf : findObj K D none "__class__" = some (.bind (.builtin "getset_descriptor.__get__") (.builtin "object.__class__"))) (hm : mroIn K D (.type "object") = some true) (hmB : mroIn K D (.type "BaseException") = some true)
    (hga : findIn K (.ref D) "__getattribute__" = some (some (.builtin "BaseException.__getattribute__"))) (hgt : findIn K (.ref D) "__getattr__" = some none)
    (hq : Q (some (.ref D)) ⟨h, g, d, t + 1, os⟩) : wpAny (model prog w) A (getAttr? (.ref x) "__class__") Q E ⟨h, g, d, t, os⟩ := by
  have LT := I.type (M := model prog w)
  have L1 := looks_findIn (M := model prog w) X hga
  have L2 := looks_findIn (M := model prog w) X hgt
  unfold getAttr? getAttrBy? getAttrBy
  refine wpAny_bind (wpAny_mkText (wpAny_bind (wpAny_attempt (wpAny_holding (wpAny_bind (LT.at (wpAny_bind (L1.at ?_))))))))
  show wpAny _ _ (getAttrByItsOwn _ _ _ _ _ _) _ _ _
  unfold getAttrByItsOwn
  refine wpAny_bind (m := hookBefore (.ref D)) (L2.at ?_)
  refine wpAny_bind (wpAny_attempt (wpAny_holding ?_))
  unfold callGetattribute
  rw [if_neg (by simp)]
  unfold boundAndCalled
  rw [bga_bind]
  refine wpAny_bind (wpAny_pure ?_)
  first
    | exact wpAny_call (exc_ga X I hf hm hmB (wpAny_pure (wpAny_pure hq)))
    | exact wpAny_holding (wpAny_call (exc_ga X I hf hm hmB (wpAny_pure (wpAny_pure hq))))

noncomputable def excIn (K : Frag) (D : Addr) : Bool :=
  (findObj K D none "__class__" matches some (.bind (.builtin "getset_descriptor.__get__") (.builtin "object.__class__"))) && mroIn K D (.type "object") == some true && mroIn K D (.type "BaseException") == some true &&
  findIn K (.ref D) "__getattribute__" == some (some (.builtin "BaseException.__getattribute__")) && findIn K (.ref D) "__getattr__" == some none && (clsIn K D).isSome
theorem excIn_of (e : excIn K D = true) : findObj K D none "__class__" = some (.bind (.builtin "getset_descriptor.__get__") (.builtin "object.__class__")) ∧ mroIn K D (.type "object") = some true ∧ mroIn K D (.type "BaseException") = some true ∧
    findIn K (.ref D) "__getattribute__" = some (some (.builtin "BaseException.__getattribute__")) ∧ findIn K (.ref D) "__getattr__" = some none ∧ (clsIn K D).isSome = true := by
  unfold excIn at e
  simp only [Bool.and_eq_true, beq_iff_eq] at e
  obtain ⟨⟨⟨⟨⟨e1, e2⟩, e3⟩, e4⟩, e5⟩, e6⟩ := e
  refine ⟨?_, e2, e3, e4, e5, e6⟩
  split at e1
  · assumption
  · cases e1
theorem isType_of (X : K.In h) (e : (clsIn K D).isSome = true) {M : Model} : Looks M h (isType (.ref D)) true := by
  unfold clsIn at e
  split at e
  · rename_i c' d' cd' sl' ho
    intro A' Q' E' s' k q
    unfold isType loadHead
    exact wpAny_bind (wpAny_loadPart (k _ _ (X _ _ ho)) (wpAny_pure q))
  · cases e
theorem kitx_exc (e : excIn K D = true) : KitX K (.ref x) (.ref D) (fun h => ∃ ox, InstAt h x ox D none) := by
  obtain ⟨e1, e2, e3, e4, e5, e6⟩ := excIn_of e
  refine ⟨fun _ _ _ ⟨ox, I⟩ => I.type, fun _ _ X _ => isType_of X e6, fun h tp dd its n sl X htp => ?_, fun {prog w A E Q s} X ⟨ox, I⟩ k => ?_⟩
  · refine Bool.eq_false_iff.mpr fun q => ?_
    have e : D = tp := Value.ref.inj (beq_iff_eq.mp q)
    subst e
    unfold clsIn at e6
    split at e6
    · rename_i c' d' cd' sl' ho
      have z := (X _ _ ho).symm.trans htp
      cases z
    · cases e6
  · obtain ⟨hh, g, d, t, os⟩ := s
    exact exc_class X I e1 e2 e3 e4 e5 k
end
end Vc
end

section
set_option autoImplicit false
set_option linter.unusedVariables false
set_option maxRecDepth 100000
namespace Vc
open PySem PySem.W PyProof.Rows

section
variable {C : Cx} {d : Md} {H : MH} {Q : V → MH → Prop} {X : XP} {K : Frag}

theorem own_g (G : C.Good) (KX : K.In C.h0) {c : String} {D : Addr} (e : nsIn K mainGlobals (Str.ofString c) = some (some (.ref D))) : C.G c (.ref D) := .inl (mg_of KX G.g e)

theorem exc_inst {h : Heap} {a : Addr} {o : Obj} {vs : Array Value} {D : Addr} (ho : h.get? a = some o) (hc : o.cls = .ref D) (hn : o.dict = none) (hd : o.data = .fields vs) : InstAt h a o D none :=
  ⟨ho, hc, by unfold notCls; rw [hd], by rw [hn]; trivial⟩

theorem isx {c x : String} {D : Addr} {cv : Value} {b : Bool} (KX : K.In C.h0) (gc : C.G c (.ref D)) (gx : C.G x cv) (e : excIn K D = true) (k : kitOne K (.ref D) cv = some b) (q : Q (.bool b) H) :
    CallV C d (.builtin "isinstance") [.exc c, .glb x] H Q X := fun A s cs ok rs => by
  obtain ⟨c1, c2, rfl, r, r'⟩ := args2 rs
  dsimp only [VR] at r; rw [VR] at r'
  obtain ⟨a, o, vs, r, rfl, ho, hc, ⟨g, hn⟩, hd⟩ := r
  cases g.uniq gc
  cases r'.uniq gx
  exact kia_one (kitx_exc e) (KX.keeps ok.top) ⟨o, exc_inst ho hc hn hd⟩ k (by intro z; cases z) fun tk => qp (ok.toks tk) .bool_ q

theorem exm_of {c h : String} {D R : Addr} {b : Bool} (KX : K.In C.h0) (gc : C.G c (.ref D)) (gh : C.G h (.ref R)) (e : exmOne K (.ref D) (.ref R) = some b) : Exm C c h b :=
  ⟨⟨R, gh⟩, fun A s a o r rh t ho hc g1 g2 Q E q => by
    cases g1.uniq gc
    cases g2.uniq gh
    have LT : Looks C.M s.heap (typeOf (.ref a)) (.ref D) := hc ▸ (Looks.ld ho).andThen .now
    exact exm_one (KX.keeps t) LT e A Q E s (fun _ _ e => e) q⟩

theorem rai_of {p : Program} {mean : ExcName → Option Value} {c : String} (G : C.Good) (T : Top p [] mean C.mg C.mb C.h0) (hs : specOf p (Str.ofString c) = some ("ValueError.__new__", [.type "ValueError", .type "Exception", .type "BaseException", .type "object"]))
    (hdb : (Str.ofString c == ("__debug__" : Str)) = false) (hq : d.q = true) (hX : X c H) : RaiW C d c H X := by
  intro A s msg ok env pos pos' npos cpos k hk hkind hgl hbl
  obtain ⟨Cc, O, hm⟩ := T.ownAt hs
  have O := O.own
  obtain ⟨tl, N, nm, q, bs, hdct, sn, sub, ab, col, dd, k0, k1, k2, k3, k5, mN, hC, hN, hni, TL⟩ := O.obj
  have FB := PySem.F.excBase_ValueError
  refine wpAny_Raise_call_subT (C := Cc) (nm := nm) (q := q) (N := N) (bs := bs) (bm := tl) (hdct := hdct) (sn := sn) (sub := sub) (ab := ab) (col := col) (dd := dd) (k0 := k0) (k1 := k1) (k2 := k2) (k3 := k3) (k5 := k5)
    FB (mN := mN) (TL.hasType FB.hasBase) (ok.hnd.1 hq) rfl hni ?_
  refine Calls.Name_function_global hkind hk (Calls.loadGlobal_global (by rw [hgl]; exact G.g.keeps ok.top) O.bound ⟨rfl, ?_⟩) hdb
  refine Calls.evalArgs_plain (Calls.spliced_cons (Calls.Constant_str (pos := cpos) (k := k) (Calls.spliced_nil ⟨rfl, by simp; decide, ok.top _ _ hC, hN.keeps ok.top, TL.keeps ok.top, fun h' e hm => ?_⟩)))
  obtain ⟨t, he, _, _⟩ := hm.there
  have st : Step C No H s H { s with heap := h', toks := s.toks + 1 } := Step.keeps ok.rel ok.top hm.keeps rfl rfl
  exact ⟨e, c, H, rfl, st, fun _ f => f.elim, ⟨hm.new, _, _, Cc, he, rfl, ⟨.inl O.bound, rfl⟩, rfl, by simp, by simp, .inl ⟨rfl, by simp⟩⟩, hX⟩

theorem tcall_w (a : Addr) (l : List Value) : (Code.builtin "type.__call__" ⟨.ref a :: l, []⟩).weight = 1 := by kernel_rfl
theorem tcall_u (a : Addr) (l : List Value) : (Code.builtin "type.__call__" ⟨.ref a :: l, []⟩).cUnits = 1 := by kernel_rfl
theorem tcall_e (a : Addr) (l : List Value) : (Code.builtin "type.__call__" ⟨.ref a :: l, []⟩).envs = [] := by kernel_rfl
theorem callee_cls (KX : K.In C.h0) {D : Addr} (e : keepIn K (.ref D) = true) : Callee C (.ref D) := fun A s Q E t h => by
  obtain ⟨k, _, L⟩ := looks_keep (M := C.M) e KX
  exact L A Q E s t (h k)

theorem make_of {n : Nat} {q : Bool} {D fI : Addr} {cn : String} {args : List V} (KX : K.In C.h0) (gC : C.G cn (.ref D)) (hm : makesIn K D = true) (hi : findIn K (.ref D) "__init__" = some (some (.ref fI))) (hf : typeIn K (.ref fI) = some (.type "function"))
    {o : Obj} {fd : FuncData} {vs : Vs} {np : Nat} {body : List St} (G : C.Good) (ho : C.h0.get? fI = some o) (hd : o.data = .func fd) (hcd : C.h0.CodeRec fd.code fd.qualname) (hok : okFn fd vs np body = true) (hl : args.length + 1 = np)
    (W : ∀ a dx, H a = none → H dx = none → a ≠ dx → wpSs C ⟨n, q⟩ body ((.ref a :: args).map some ++ List.replicate (vs.length - np) none) (upd (upd H dx (.nsd [])) a (.ins cn dx)) (fun f _ H' => match f with | .ret v => v = .none ∧ Q (.ref a) H' | .next => V.none = .none ∧ Q (.ref a) H') (fun c _ H' => X c H')) :
    CallV C ⟨n + 2, q⟩ (.ref D) args H Q X := fun A s cs ok rs => by
  refine wpAny_call ?_
  obtain ⟨h, g, dr, t, os⟩ := s
  have KS := KX.keeps ok.top
  have k : ∀ b ob, h.get? b = some ob → ((h.push emptyDict).push (instObj D h.objs.size)).get? b = some ob := fun b ob e => Heap.get?_push_of_some _ (Heap.get?_push_of_some _ e)
  have hx : ((h.push emptyDict).push (instObj D h.objs.size)).get? (h.objs.size + 1) = some (instObj D h.objs.size) := by
    have := Heap.get?_push_size (h.push emptyDict) (o := instObj D h.objs.size) rfl
    rwa [Heap.size_push] at this
  have hdx : ((h.push emptyDict).push (instObj D h.objs.size)).get? h.objs.size = some emptyDict := Heap.get?_push_of_some _ (Heap.get?_push_size _ rfl)
  have n1 : h.get? (h.objs.size + 1) = none := by
    cases e : h.get? (h.objs.size + 1) with
    | none => rfl
    | some ob => exact absurd (Heap.lt_size e) (Nat.not_lt.mpr (Nat.le_succ _))
  have n0 := fresh_size h
  have HN1 : H (h.objs.size + 1) = none := ok.rel.fresh n1
  have HN0 : H h.objs.size = none := ok.rel.fresh n0
  have z1 : C.h0.get? (h.objs.size + 1) = none := fresh_top ok.top n1
  have z0 : C.h0.get? h.objs.size = none := fresh_top ok.top n0
  have vk : VK h ((h.push emptyDict).push (instObj D h.objs.size)) := .of_keeps k
  have st : Step C No H ⟨h, g, dr, t, os⟩ (upd (upd H h.objs.size (.nsd [])) (h.objs.size + 1) (.ins cn h.objs.size)) ⟨(h.push emptyDict).push (instObj D h.objs.size), g, dr, t, os⟩ := by
    refine ⟨fun b o' e => ?_, fun b ob e _ _ => ⟨ob.slots, k b ob e, fun _ => rfl⟩, fun b ob e => k b ob (ok.top b ob e), fun b e => ?_, fun b e => ?_, fun b f _ => f.elim, vk, rfl, rfl⟩
    · by_cases q1 : b = h.objs.size + 1
      · subst q1; rw [upd_self] at e; cases e; exact ⟨z1, D, gC, hx⟩
      · rw [upd_ne q1] at e
        by_cases q0 : b = h.objs.size
        · subst q0; rw [upd_self] at e; cases e; exact ⟨z0, _, _, hdx, trivial⟩
        · rw [upd_ne q0] at e; exact (ok.rel b o' e).keep vk fun ob => k b ob
    · by_cases q1 : b = h.objs.size + 1
      · subst q1; rw [upd_self]; rfl
      · rw [upd_ne q1]
        by_cases q0 : b = h.objs.size
        · subst q0; rw [upd_self]; rfl
        · rw [upd_ne q0]; exact e
    · by_cases q1 : b = h.objs.size + 1
      · subst q1; exact .inr n1
      · rw [upd_ne q1] at e
        by_cases q0 : b = h.objs.size
        · subst q0; exact .inr n0
        · rw [upd_ne q0] at e; exact .inl e
  refine make_core (makes_of KS hm) (looks_findIn KS hi) (fun self => bind_fn KS self hf) (.inl rfl) ?_
  have okU : Ok C ⟨n + 1, q⟩ (upd (upd H h.objs.size (.nsd [])) (h.objs.size + 1) (.ins cn h.objs.size)) (A.under (.builtin "type.__call__" ⟨.ref D :: cs, []⟩)) ⟨(h.push emptyDict).push (instObj D h.objs.size), g, dr, t, os⟩ := by
    have o2 := ok.step st
    refine ⟨o2.rel, o2.top, ⟨?_, ?_⟩, o2.hnd, ?_⟩
    · have := o2.room.1; show A.depth + (Code.builtin "type.__call__" ⟨.ref D :: cs, []⟩).weight + 2 * (n + 1) + 2 < recursionLimit; rw [tcall_w]; dsimp only at this; omega
    · have := o2.room.2; show A.units + (Code.builtin "type.__call__" ⟨.ref D :: cs, []⟩).cUnits + 8 * (n + 1) + 40 < cLine; rw [tcall_u]; dsimp only at this; omega
    · obtain ⟨l, hl1, hl2⟩ := o2.frs
      refine ⟨l, ?_, hl2⟩
      show pushEnvs (Code.builtin "type.__call__" ⟨.ref D :: cs, []⟩).envs A.frames = _
      rw [tcall_e, hl1]; rfl
  refine codeAny_mono (fn_code (args := .ref (h.objs.size + 1) :: args) (Q := fun v H' => v = .none ∧ Q (.ref (h.objs.size + 1)) H') (X := X) G ho hd hcd hok hl (W (h.objs.size + 1) h.objs.size HN1 HN0 (Nat.succ_ne_self _)) _ _ (.ref (h.objs.size + 1) :: cs) okU (VRs.cons .ref_ (rs.keep vk))) fun r s' hr => ?_
  rcases r with e | (_ | _ | _ | v)
  · exact XG.back st hr
  · exact hr.elim
  · exact hr.elim
  · exact hr.elim
  · obtain ⟨v', H', st', vr, rfl, hQ⟩ := hr
    dsimp only [VR] at vr
    exact ⟨vr, .ref (h.objs.size + 1), H', st.trans st', .ref_, hQ⟩
end
end Vc
end

section
set_option autoImplicit false
set_option linter.unusedVariables false
namespace Vc
open PySem PyProof.Rows

section
variable {C : Cx} {d : Md} {H : MH} {A : Around} {s : Shared} {Q : V → MH → Prop} {X : XP}

theorem Ok.none (ok : Ok C d H A s) (hq : d.q = true) : A.handled = Option.none := ok.hnd.1 hq

theorem cv_min {a b : Int} (hq : d.q = true) (q : Q (.int (min a b)) H) : CallV C d (.builtin "min") [.int a, .int b] H Q X := fun A s cs ok rs => by
  obtain ⟨c, e, rfl, r, r'⟩ := args2 rs
  rw [VR] at r r'; obtain ⟨t, rfl⟩ := r; obtain ⟨u, rfl⟩ := r'
  refine min_two_ints (ok.none hq) fun h' tk k => qp (Step.keeps ok.rel ok.top k rfl rfl) ?_ q
  by_cases h : b < a
  · rw [if_pos h, Int.min_eq_right (Int.le_of_lt h)]; exact .int_
  · rw [if_neg h, Int.min_eq_left (Int.not_lt.mp h)]; exact .int_
theorem bin_tcat {l m : List V} (hsz : l.length + m.length ≤ sizeLine) (q : Q (.tup (l ++ m)) H) : BinW C d .Add (.tup l) (.tup m) H Q X := fun A s ca cb ok ra rb => by
  rw [VR] at ra rb
  obtain ⟨a, items, rfl, hL, rs⟩ := ra
  obtain ⟨b, items2, rfl, hL2, rs2⟩ := rb
  have hn := rs.length
  have hn2 := rs2.length
  simp only [Array.length_toList] at hn hn2
  obtain ⟨⟨cls, dd, data, sl⟩, ho, hc, n, hd⟩ := id hL
  obtain ⟨⟨cls2, dd2, data2, sl2⟩, ho2, hc2, n2, hd2⟩ := id hL2
  simp only at hc hd hc2 hd2
  subst hc hd hc2 hd2
  by_cases h1 : items.isEmpty = true
  · refine concat_meets ⟨_, ho, rfl⟩ ⟨_, ho2, rfl⟩ noFill_tuple_add seq_tuple_add PySem.F.slot_tuple_add PySem.F.entry_tuple_add (PySem.F.args_tuple_add_2 _ _) (tuple_addW0 a b items items2 n n2 dd dd2 sl sl2 h1) ⟨ho, ho2, ?_⟩
    have : l = [] := List.length_eq_zero_iff.mp (by rw [hn]; simpa using h1)
    subst this
    exact qp ok.refl (by dsimp only [VR]; exact ⟨b, items2, rfl, hL2, rs2⟩) q
  · by_cases h2 : items2.isEmpty = true
    · refine concat_meets ⟨_, ho, rfl⟩ ⟨_, ho2, rfl⟩ noFill_tuple_add seq_tuple_add PySem.F.slot_tuple_add PySem.F.entry_tuple_add (PySem.F.args_tuple_add_2 _ _) (tuple_addW1 a b items items2 n n2 dd dd2 sl sl2 h1 h2) ⟨ho, ho2, ?_⟩
      have : m = [] := List.length_eq_zero_iff.mp (by rw [hn2]; simpa using h2)
      subst this
      rw [List.append_nil] at q
      exact qp ok.refl (by dsimp only [VR]; exact ⟨a, items, rfl, hL, rs⟩) q
    · refine concat_meets ⟨_, ho, rfl⟩ ⟨_, ho2, rfl⟩ noFill_tuple_add seq_tuple_add PySem.F.slot_tuple_add PySem.F.entry_tuple_add (PySem.F.args_tuple_add_2 _ _) (tuple_addW2 a b items items2 n n2 dd dd2 sl sl2 h1 h2 (by omega)) ⟨ho, ho2, ?_⟩
      have k : ∀ b o, s.heap.get? b = some o → (s.heap.push { cls := .type "tuple", data := .seq (items ++ items2) }).get? b = some o := fun b o e => Heap.get?_push_of_some _ e
      refine qp (Step.keeps (s' := { s with heap := s.heap.push { cls := .type "tuple", data := .seq (items ++ items2) } }) ok.rel ok.top k rfl rfl) ?_ q
      dsimp only [VR]
      exact ⟨_, _, rfl, ⟨_, Heap.get?_push_size _ rfl, rfl, _, rfl⟩, by rw [Array.toList_append]; exact (rs.append rs2).keep (.of_keeps k)⟩

theorem vrs_bools {h : Heap} : ∀ {bs : List Bool} {vs : List Value}, VRs C h (bs.map .bool) vs → vs = bs.map .bool
  | [], _, r => r.inv_nil
  | b :: bs, _, r => by
    obtain ⟨v, vs', rfl, h1, h2⟩ := r.inv_cons
    dsimp only [VR] at h1; subst h1
    rw [vrs_bools h2]; rfl

theorem all_range (bs : List Bool) : (List.range bs.length).all (fun i => bs.getD i false) = bs.all id := by
  rw [Bool.eq_iff_iff]
  simp only [List.all_eq_true, List.mem_range, id]
  constructor
  · intro h b hb
    obtain ⟨i, hi, e⟩ := List.getElem_of_mem hb
    have := h i hi
    rw [List.getD_eq_getElem?_getD, List.getElem?_eq_getElem hi] at this
    rw [← e]; exact this
  · intro h i hi
    rw [List.getD_eq_getElem?_getD, List.getElem?_eq_getElem hi]
    exact h _ (List.getElem_mem hi)
theorem cv_all {a : Addr} {bs : List Bool} (hq : d.q = true) (h : H a = some (.lst (bs.map .bool))) (q : Q (.bool (bs.all id)) H) : CallV C d (.builtin "all") [.ref a] H Q X := fun A s cs ok rs => by
  obtain ⟨c, rfl, r⟩ := args1 rs
  dsimp only [VR] at r; subst r
  obtain ⟨items, hL, rs⟩ := list_at ok.rel (items_lst h)
  have hi := vrs_bools rs
  have hne : a ≠ s.heap.objs.size := fun e => by obtain ⟨o, ho, _⟩ := hL; rw [e, fresh_size] at ho; cases ho
  refine call_all_walk (wpAny_pyIter_list hL ?_)
  have hn : items.size = bs.length := by rw [← Array.length_toList, hi, List.length_map]
  refine ⟨_, _, _, _, _, _, fun i => bs.getD i false, rfl, Walks.list (A := A.in1) (ok.none hq) s.heap.objs.size a hne items, ⟨⟨_, Heap.get?_push_size _ rfl, rfl, rfl⟩, hL.push _⟩, fun i v s' Q' E' hP hQ => ?_, fun h' tk k => ?_⟩
  · replace hP : items[i]? = some v := hP
    rw [← Array.getElem?_toList, hi, List.getElem?_map] at hP
    cases e : bs[i]? with
    | none => rw [e] at hP; cases hP
    | some b =>
      rw [e] at hP; cases hP
      refine wpAny_truthy_bool ?_
      replace hQ : Q' (bs.getD i false) s' := hQ
      rw [List.getD_eq_getElem?_getD, e] at hQ; exact hQ
  · rw [hn, all_range]
    refine qp (Step.keeps ok.rel ok.top (fun b o e => k b o (fun hm => ?_) (Heap.get?_push_of_some _ e)) rfl rfl) .bool_ q
    simp only [List.mem_singleton] at hm
    rw [hm, fresh_size] at e; cases e
end
end Vc
end

section
set_option autoImplicit false
set_option linter.unusedVariables false
namespace Vc
open PySem PyProof.Rows

section
variable {C : Cx} {d : Md} {H : MH} {A : Around} {s : Shared} {Q : V → MH → Prop} {X : XP}

theorem places_one (a b : Nat) : Builtin.Slice.slicePlaces (a : Int) (b : Int) 1 = b - a := by
  unfold Builtin.Slice.slicePlaces
  have h1 : (1 : Int) > 0 := by omega
  simp only [h1, if_true, Int.ediv_one]
  split <;> omega
theorem part_any {v : Value} {k : Option Int} {E : Value → Shared → Prop} {P : Option Int → Shared → Prop} (p : IsPart v k) (h : P k s) : wpAny C.M A (Builtin.Slice.slicePartIndex v) P E s := by
  cases p with
  | none => exact slicePart_none h
  | int i t => exact slicePart_int h

theorem sliced {sl : Addr} {vl vu : Value} {lo hi : Option Int} {a b n : Nat} {E : Value → Shared → Prop} {P : Int × Int × Nat → Shared → Prop} (hs : s.heap.IsSliceOf sl vl vu .none) (pl : IsPart vl lo) (pu : IsPart vu hi)
    (he : Builtin.Slice.sliceAdjust lo hi 1 (n : Int) = ((a : Int), (b : Int))) (h : P ((a : Int), 1, b - a) s) : wpAny C.M A (Builtin.Slice.sliceApplied (.ref sl) (pure (n : Int))) P E s := by
  obtain ⟨os, hos, hcs, hds⟩ := id hs
  unfold Builtin.Slice.sliceApplied Builtin.Slice.sliceFields
  refine wpAny_bind (wpAny_bind (wpAny_field hos hds (x := vl) rfl (wpAny_bind (wpAny_field hos hds (x := vu) rfl (wpAny_bind (wpAny_field hos hds (x := .none) rfl (wpAny_pure ?_)))))))
  refine wpAny_bind (slicePart_none ?_)
  show wpAny _ _ (if ((1 : Int) == 0) = true then _ else _) _ _ s
  rw [if_neg (by decide)]
  refine wpAny_bind (part_any pl (wpAny_bind (part_any pu (wpAny_bind (wpAny_pure ?_)))))
  show wpAny _ _ (match Builtin.Slice.sliceAdjust lo hi 1 (n : Int) with | (lo, hi) => pure (lo, (1 : Int), Builtin.Slice.slicePlaces lo hi 1)) _ _ s
  rw [he]
  show wpAny _ _ (pure ((a : Int), (1 : Int), Builtin.Slice.slicePlaces (a : Int) (b : Int) 1)) _ _ s
  rw [places_one a b]
  exact wpAny_pure h
theorem picked (xs : Array Value) (a n : Nat) : ((List.range n).filterMap fun (k : Nat) => xs[((a : Int) + (k : Int) * 1).toNat]?) = (xs.toList.drop a).take n := by
  have e : (fun (k : Nat) => xs[((a : Int) + (k : Int) * 1).toNat]?) = fun k => xs[a + k]? := by
    funext k
    have : ((a : Int) + (k : Int) * 1).toNat = a + k := by omega
    rw [this]
  rw [e]
  have := pick_run xs a n
  rw [List.filterMap_map] at this
  exact this

theorem sli_tup {l : List V} {vl vu : V} {lo hi : Option Int} {a b : Nat} (pl : Prt vl lo) (pu : Prt vu hi) (he : Builtin.Slice.sliceAdjust lo hi 1 (l.length : Int) = ((a : Int), (b : Int))) (hb : b ≤ l.length) (hl : l.length ≤ sizeLine)
    (q : Q (.tup ((l.drop a).take (b - a))) H) : SliW C d (.tup l) vl vu .none H Q X := fun A s co cl cu ct p ok ro rl ru rt hp => by
  have ro' := ro
  dsimp only [VR] at ro; dsimp only [VR] at rt; subst rt
  obtain ⟨t, items, rfl, ht, rs⟩ := ro
  have hn := rs.length
  simp only [Array.length_toList] at hn
  obtain ⟨o, ho, hc, n, hd⟩ := id ht
  have hT : IsTup s.heap t items := ⟨o, ho, hc, n, hd⟩
  have hs : s.heap.IsSliceOf p cl cu .none := ⟨_, hp, rfl, rfl⟩
  have hTs : s.TypeIs (.ref p) "slice" := ⟨_, hp, rfl⟩
  refine ⟨gip (T := "tuple") ⟨o, ho, hc⟩ slot_tuple_getitem.lookup, ?_⟩
  have hsz : sizeOk (.seq ((items.toList.drop a).take (b - a)).toArray) := by
    show ((items.toList.drop a).take (b - a)).toArray.size ≤ sizeLine
    rw [List.size_toArray, List.length_take, List.length_drop, Array.length_toList]
    omega
  unfold getItem
  try with_reducible refine wpAny_holding ?_
  first | refine wpAny_bind (wpAny_pure ?_) | skip
  refine wpAny_bind (wpAny_sequenceKey hT.typeIs (by decide) ?_)
  refine wpAny_bind (wpAny_callSpecial?_slot (name := Str.ofString "__getitem__") hT.typeIs slot_tuple_getitem
    (wpAny_call_entry slot_tuple_getitem hT.typeIs entry_tuple_getitem ?_ (args_tuple_getitem _ _)))
  show wpAny _ _ (Builtin.Tuple.tupleItemsOf (.ref t) >>= _) _ _ s
  refine wpAny_bind (tupleItemsOf_ hT ?_)
  refine wpAny_bind (wpAny_typeOf hTs ?_)
  rw [if_pos (by decide)]
  refine wpAny_bind (sliced (C := C) (n := items.size) hs (pl.is rl) (pu.is ru) (by rw [← hn]; exact he) ?_)
  have key : VRs C s.heap ((l.drop a).take (b - a)) ((items.toList.drop a).take (b - a)) := (rs.drop a).take _
  dsimp only
  rw [picked]
  by_cases hw : ((a : Int) == 0 && (1 : Int) == 1 && (b - a) == items.size) = true
  · rw [if_pos hw]
    simp only [Bool.and_eq_true, beq_iff_eq] at hw
    obtain ⟨⟨h0, _⟩, h1⟩ := hw
    have ha : a = 0 := by omega
    subst ha
    have e : (l.drop 0).take (b - 0) = l := by rw [List.drop_zero]; exact List.take_of_length_le (by omega)
    rw [e] at q
    have fin : QP C H s Q (.ref t) s := qp ok.refl ro' q
    refine wpAny_bind (m := Builtin.Tuple.tupleIsExact (.ref t)) (wpAny_bind (wpAny_typeOf hT.typeIs (wpAny_pure ?_)))
    rw [if_pos (by decide)]
    exact wpAny_bind (wpAny_rule (wpAny_pure ⟨_, rfl, wpAny_pure fin⟩))
  · rw [if_neg hw]
    generalize hP : ((items.toList.drop a).take (b - a)).toArray = P at hsz
    have fin : QP C H s Q (.ref s.heap.objs.size) { s with heap := s.heap.push { cls := .type "tuple", data := .seq P } } := by
      refine qp (Step.keeps ok.rel ok.top (fun b o e => Heap.get?_push_of_some _ e) rfl rfl) ?_ q
      dsimp only [VR]
      refine ⟨_, P, rfl, ⟨_, Heap.get?_push_size _ rfl, rfl, _, rfl⟩, ?_⟩
      rw [← hP, List.toList_toArray]
      exact key.keep (.of_keeps fun b o e => Heap.get?_push_of_some _ e)
    first
      | exact wpAny_bind (m := Builtin.Tuple.tupleExact _) (wpAny_newObj_type (wpAny_pure ⟨_, rfl, wpAny_pure fin⟩) hsz)
      | exact wpAny_bind (m := Builtin.Tuple.tupleExact _) (wpAny_newObj_type (wpAny_bind (wpAny_pure (wpAny_pure ⟨_, rfl, wpAny_pure fin⟩))) hsz)
      | exact wpAny_bind (wpAny_bind (m := Builtin.Tuple.tupleExact _) (wpAny_newObj_type (wpAny_pure (wpAny_pure ⟨_, rfl, wpAny_pure fin⟩)) hsz))
      | exact wpAny_bind (wpAny_bind (m := Builtin.Tuple.tupleExact _) (wpAny_newObj_type (wpAny_pure ⟨_, rfl, wpAny_pure fin⟩) hsz))

theorem bin_str {x y : Str} (hsz : x.length + y.length ≤ sizeLine) (q : Q (.str (x ++ y)) H) : BinW C d .Add (.str x) (.str y) H Q X := fun A s ca cb ok ra rb => by
  rw [VR] at ra rb; obtain ⟨t, rfl⟩ := ra; obtain ⟨u, rfl⟩ := rb
  exact add_str (fun t' tk => qp (ok.toks tk) .str_ q) hsz
theorem cmp_str {x y : Str} (hx : PyData.strOk x = true) (hy : PyData.strOk y = true) (q : Q (.bool (x == y)) H) : CmpW C d .Eq (.str x) (.str y) H Q X :=
  cmp_eq (.str _) (.str _) (by simpa [PyData.canLay0] using hx) (by simpa [PyData.canLay0] using hy) (by simp [PyData.depth]) (by rw [PyData.eqv]; exact q)
theorem cmp_is {a b : Bool} (q : Q (.bool (a == b)) H) : CmpW C d .Is (.bool a) (.bool b) H Q X := fun A s ca cb ok ra rb => by
  rw [VR] at ra rb; subst ra rb
  exact is_bool (qp ok.refl .bool_ q)
theorem cmp_isnot {a b : Bool} (q : Q (.bool (a != b)) H) : CmpW C d .IsNot (.bool a) (.bool b) H Q X := fun A s ca cb ok ra rb => by
  rw [VR] at ra rb; subst ra rb
  exact isnot_bool (qp ok.refl .bool_ q)
theorem bin_pow {a n : Int} (hn : 0 ≤ n) (hn2 : n ≤ 1000000) (ha : a.natAbs < 2 ^ 64) (q : Q (.int (a ^ n.toNat)) H) : BinW C d .Pow (.int a) (.int n) H Q X := fun A s ca cb ok ra rb => by
  rw [VR] at ra rb; obtain ⟨t, rfl⟩ := ra; obtain ⟨u, rfl⟩ := rb
  exact pow_int_small hn hn2 ha (qp (ok.toks _) .int_ q)
theorem cv_isi_dict {a : Addr} {l : List (Int × V)} (hG : C.G "list" (.type "list")) (h : H a = some (.dci l)) (q : Q (.bool false) H) : CallV C d (.builtin "isinstance") [.ref a, .glb "list"] H Q X := fun A s cs ok rs => by
  obtain ⟨c, e, rfl, r, r'⟩ := args2 rs
  rw [VR] at r'; cases hG.uniq r'
  dsimp only [VR] at r; subst r
  obtain ⟨_, _, kvs, hD, _⟩ := ok.rel _ _ h
  obtain ⟨o, ho, hc⟩ := hD.typeIs (s := s)
  exact IsiPair.dict_list ho hc (qp (ok.toks _) .bool_ q)
theorem foldl_app (l : List Value) (n : Nat) : ∀ acc : Array Value, (List.foldl (fun x1 x2 => x1 ++ x2) acc (List.replicate n l.toArray)).toList = acc.toList ++ (List.replicate n l).flatten := by
  induction n with
  | zero => intro acc; simp
  | succ n ih => intro acc; rw [List.replicate_succ, List.foldl_cons, ih]; simp [List.replicate_succ]
theorem vrs_rep {h : Heap} {l : List V} {m : List Value} (r : VRs C h l m) : ∀ n : Nat, VRs C h (List.replicate n l).flatten (List.replicate n m).flatten
  | 0 => by simpa using VRs.nil
  | n + 1 => by rw [List.replicate_succ, List.replicate_succ, List.flatten_cons, List.flatten_cons]; exact r.append (vrs_rep r n)
theorem bin_lmul {a : Addr} {l : List V} {x : Int} (h : H a = some (.lst l)) (hne : l ≠ []) (h0 : 0 ≤ x) (hx : x ≤ 1000) (hl : l.length ≤ 1000) (q : ∀ b, H b = none → Q (.ref b) (upd H b (.lst (List.replicate x.toNat l).flatten))) : BinW C d .Mult (.ref a) (.int x) H Q X := fun A s ca cb ok ra rb => by
  dsimp only [VR] at ra; dsimp only [VR] at rb; subst ra; obtain ⟨u, rfl⟩ := rb
  obtain ⟨_, items, ⟨k, hL⟩, rs⟩ := ok.rel _ _ h
  have hn := rs.length
  simp only [Array.length_toList] at hn
  have hne' : items.isEmpty = false := by
    cases l with
    | nil => exact (hne rfl).elim
    | cons y ys => rw [Array.isEmpty_eq_false_iff]; intro z; rw [z] at hn; simp at hn
  have hmul : items.size * x.toNat ≤ 1000 * 1000 := Nat.mul_le_mul (by omega) (by omega)
  have fin : QP C H s Q (.ref s.heap.objs.size) { s with heap := s.heap.push { cls := .type "list", data := .seq (List.foldl (fun x1 x2 => x1 ++ x2) #[] (List.replicate (if items.isEmpty = true then 0 else x.toNat) items)) } } := by
    rw [hne', if_neg (by decide)]
    have key : VRs C s.heap (List.replicate x.toNat l).flatten (List.foldl (fun x1 x2 => x1 ++ x2) #[] (List.replicate x.toNat items)).toList := by
      have := foldl_app items.toList x.toNat #[]
      simp only [Array.toArray_toList] at this
      rw [this]
      simpa using vrs_rep rs x.toNat
    obtain ⟨st, hf⟩ := alloc_list (s' := { s with heap := s.heap.push { cls := .type "list", data := .seq (List.foldl (fun x1 x2 => x1 ++ x2) #[] (List.replicate x.toNat items)) } }) ok key rfl rfl rfl
    exact qp' st .ref_ (q _ hf)
  exact wpAny_binaryOp_repeat_ref (T := "list") (U := "int") (by decide) ⟨_, hL, rfl⟩ (fun s' => typeIs_int s' x u) noFill_list_mul PySem.F.fills_int_mul PySem.F.slot_int_rmul repeat_list PySem.F.slot_int_index.lookup
    (call_meets PySem.F.slot_int_rmul (typeIs_int s x u) PySem.F.entry_int_rmul (PySem.F.args_int_rmul_2 _ _) (int___rmul___int_list x u a items k)
      ⟨hL, rfl, ⟨_, hL, rfl⟩, call_meets PySem.F.slot_list_mul ⟨_, hL, rfl⟩ PySem.F.entry_list_mul (PySem.F.args_list_mul_2 _ _)
        (AutoListH.list___mul___list_int_3 a items k x u (by simp [Builtin.List.listFitsIndex]; omega) (by omega) (by simp [Builtin.List.listTooLong, sizeLine]; omega))
        ⟨hL, fin⟩⟩)
end
end Vc
end

section
set_option autoImplicit false
set_option linter.unusedVariables false
namespace Vc
open PySem PyProof.Rows

noncomputable def law_cell_vs : Vs := [(Str.ofString "_law_script", .loc), (Str.ofString "_law_k", .loc)]
noncomputable def law_cell_b : List St :=
   [.ret (.sub (.bin .Add (.sli (.nm 0) (.nm 1) (.bin .Add (.nm 1) (.ci 1)) .cn) (.lst [(.ci 0)])) (.ci 0))]
noncomputable def law_mixed_vs : Vs := [(Str.ofString "_law_script", .loc), (Str.ofString "_law_k", .loc)]
noncomputable def law_mixed_b : List St :=
   [.ret (.bin .Mod (.bin .Mult (.bin .Add (.call "_law_cell" [(.nm 0), (.nm 1)]) (.bin .Mult (.ci 101) (.nm 1))) (.ci 48271)) (.ci 2147483647))]
noncomputable def cell (ns : List Int) (k : Int) : Int := ns.getD k.toNat 0
noncomputable def mixed (ns : List Int) (k : Int) : Int := (cell ns k + 101 * k) * 48271 % 2147483647
theorem mixed_ge (ns : List Int) (k : Int) : 0 ≤ mixed ns k := Int.emod_nonneg _ (by decide)
section
variable {C : Cx} {H : MH} {Q : V → MH → Prop} {X : XP} {n : Nat} {q : Bool} {a : Addr} {ns : List Int} {k : Int}

theorem vsl_cell (hk : 0 ≤ k) : (vsl (ns.map .int) (some k) (some (k + 1)) ++ [V.int 0])[0]? = some (.int (cell ns k)) := by
  obtain ⟨k, rfl⟩ := Int.eq_ofNat_of_zero_le hk
  unfold vsl cell
  simp only [Option.elim, List.length_map]
  rw [clipAt_nat, show (k : Int) + 1 = ((k + 1 : Nat) : Int) by omega, clipAt_nat]
  by_cases h : k < ns.length
  · rw [Nat.min_eq_left (by omega), Nat.min_eq_left (by omega), show k + 1 - k = 1 by omega]
    rw [List.drop_eq_getElem_cons (by simpa using h)]
    simp [List.getD_eq_getElem?_getD, h]
  · rw [Nat.min_eq_right (by omega), Nat.min_eq_right (by omega)]
    simp [List.getD_eq_getElem?_getD, h]

theorem cell_ct (G : C.Good) (D : Def C "_law_cell" law_cell_vs 2 law_cell_b) (ha : H a = some (.fro (ns.map .int))) (hl : ns.length ≤ 63) (hk : 0 ≤ k) (K : ∀ H', Ext H H' → Q (.int (cell ns k)) H') : CallW C ⟨n + 1, q⟩ "_law_cell" [.ref a, .int k] H Q X := by
  have hz : 1000 < sizeLine := by decide
  have hv : ∀ lo hi, (vsl (ns.map .int) lo hi).length ≤ 63 := fun lo hi => by unfold vsl; simp; omega
  refine D.call G rfl ?_
  unfold law_cell_b
  refine SS_ret (E_sub (E_bin (E_sli (E_nm rfl (E_nm rfl (E_bin (E_nm rfl (E_ci (bin_add (E_cn (sli_list (items_fro ha) (by simp; omega) (.int _) (.int _) fun b hb => ?_)))))))))))
  refine E_lst (Es_cons (E_ci (Es_nil ⟨by simp; omega, fun c hc => ?_⟩)))
  refine bin_cat ((Ext.new hc).items items_new) items_new (by have := hv (some k) (some (k + 1)); simp; omega) fun e he => ?_
  refine E_ci (sub_list (j := 0) items_new (by have := hv (some k) (some (k + 1)); simp; omega) ?_ (vsl_cell hk) ?_)
  · simp [seqIndex?]
  · exact K _ ((((Ext.refl _).more hb).more hc).more he)

theorem mixed_ct (G : C.Good) (D : Def C "_law_cell" law_cell_vs 2 law_cell_b) (D' : Def C "_law_mixed" law_mixed_vs 2 law_mixed_b) (ha : H a = some (.fro (ns.map .int))) (hl : ns.length ≤ 63) (hk : 0 ≤ k) (K : ∀ H', Ext H H' → Q (.int (mixed ns k)) H') : CallW C ⟨n + 2, q⟩ "_law_mixed" [.ref a, .int k] H Q X := by
  refine D'.call G rfl ?_
  unfold law_mixed_b
  refine SS_ret (E_bin (E_bin (E_bin (E_fn D.fn (Es_cons (E_nm rfl (Es_cons (E_nm rfl (Es_nil (cell_ct G D ha hl hk fun H' x => ?_)))))))))) 
  refine E_bin (E_ci (E_nm rfl (bin_mul (bin_add (E_ci (bin_mul (E_ci (bin_modp (by decide) (K _ x))) (.of_right (by decide)))))  (.of_left (by decide)))))

end

inductive Wd where
  | sum | stop | pick | nt
  deriving DecidableEq
noncomputable def Wd.name : Wd → String
  | .sum => "sum"
  | .stop => "stop"
  | .pick => "pick"
  | .nt => "not"
noncomputable def Wd.ar : Wd → Nat
  | .sum => 2
  | .stop => 2
  | .pick => 3
  | .nt => 1
structure Pt where
  w : Wd
  ls : List Nat
noncomputable def Pt.v (p : Pt) : V := .tup (.str (Str.ofString p.w.name) :: p.ls.map fun (l : Nat) => V.int l)
noncomputable def Pt.ok (p : Pt) (n : Nat) : Prop := p.ls.length = p.w.ar ∧ ∀ l ∈ p.ls, l < n
section
variable {C : Cx} {H : MH} {Q : V → MH → Prop} {X : XP} {n : Nat} {q : Bool} {b : Addr} {ds : List Int} {ring : Int} {p : Pt}

end
end Vc
end

section
set_option autoImplicit false
set_option linter.unusedVariables false
namespace Vc
open PySem PyProof.Rows

theorem Ext.mut {H H' : MH} {a : Addr} {o : O} (x : Ext H H') (h : H a = none) : Ext H (upd H' a o) := fun b o' e => by
  rw [upd_ne]
  · exact x b o' e
  · rintro rfl; rw [h] at e; cases e
theorem Ext.gone {H H' : MH} {a : Addr} (x : Ext H H') (h : H' a = none) : H a = none := by
  cases e : H a with
  | none => rfl
  | some o => rw [x a o e] at h; cases h
theorem Ext.ne {H : MH} {a b : Addr} {o : O} (h : H a = some o) (h' : H b = none) : a ≠ b := by rintro rfl; rw [h] at h'; cases h'

noncomputable def is_among_vs : Vs := [(Str.ofString "thing", .loc), (Str.ofString "least", .loc), (Str.ofString "most", .loc)]
noncomputable def is_among_b : List St :=
   [.ret (.bop .And [(.call "isinstance" [(.nm 0), (.gl "int")]), (.una .Not (.call "isinstance" [(.nm 0), (.gl "bool")])), (.cmp2 .LtE .LtE (.nm 1) (.nm 0) (.nm 2))])]
noncomputable def law_part_b : List St :=
   [.asg 2 (.sub (.lst [(.cs "sum"), (.cs "stop"), (.cs "pick"), (.cs "not")]) (.bin .Mod (.nm 0) (.ci 4))),
    .asg 3 (.lst []),
    .for [4] (.pl (.call "range" [(.sub (.dct ["sum", "stop", "pick", "not"] [(.ci 2), (.ci 2), (.ci 3), (.ci 1)]) (.nm 2))])) [.asg 5 (.bin .FloorDiv (.bin .FloorDiv (.nm 0) (.ci 4)) (.sub (.lst [(.ci 1), (.ci 7), (.ci 49)]) (.nm 4))),
    .ife (.cmp .Eq (.bin .Mod (.nm 5) (.ci 2)) (.ci 0)) [.exp (.meth (.nm 3) "append" [(.bin .Sub (.bin .Sub (.nm 1) (.ci 1)) (.bin .Mod (.bin .FloorDiv (.nm 5) (.ci 2)) (.call "min" [(.nm 1), (.ci 3)])))])] [.exp (.meth (.nm 3) "append" [(.bin .Mod (.bin .FloorDiv (.nm 5) (.ci 2)) (.nm 1))])]],
    .ret (.call "tuple" [(.bin .Add (.lst [(.nm 2)]) (.nm 3))])]
noncomputable def law_work_vs : Vs := [(Str.ofString "_law_script", .cel), (Str.ofString "_law_most", .loc), (Str.ofString "_law_first", .loc), (Str.ofString "_law_ring", .loc), (Str.ofString "_law_inputs", .cel), (Str.ofString "_law_many", .loc), (Str.ofString "_law_parts", .loc)]
noncomputable def law_work_b : List St :=
   [.asg 2 (.call "_law_mixed" [(.nm 0), (.ci 0)]),
    .asg 3 (.sub (.lst [(.ci 2), (.ci 2), (.ci 3), (.ci 2), (.ci 3), (.ci 4), (.ci 5), (.ci 2)]) (.bin .Mod (.nm 2) (.ci 8))),
    .asg 4 (.bin .Add (.ci 1) (.bin .Mod (.bin .FloorDiv (.nm 2) (.ci 8)) (.ci 3))),
    .ife (.cmp .Eq (.bin .Mod (.bin .FloorDiv (.nm 2) (.ci 24)) (.ci 8)) (.ci 1)) [.asg 4 (.bin .Add (.ci 1) (.bin .Mod (.bin .FloorDiv (.nm 2) (.ci 192)) (.ci 6)))] [],
    .asg 5 (.bin .Add (.ci 1) (.bin .Mod (.call "_law_mixed" [(.nm 0), (.ci 1)]) (.nm 1))),
    .ife (.bop .And [(.cmp .Gt (.nm 3) (.ci 3)), (.cmp .Lt (.nm 1) (.ci 8))]) [.asg 5 (.call "min" [(.nm 5), (.ci 4)])] [],
    .asg 6 (.comp 1 (.call "_law_part" [(.call "_law_mixed" [(.nm 0), (.bin .Add (.ci 2) (.nm 7))]), (.bin .Add (.nm 4) (.nm 7))]) (.call "range" [(.nm 5)]) []),
    .ret (.tup [(.nm 3), (.nm 4), (.nm 6)])]

section
variable {C : Cx} {H : MH} {Q : V → MH → Prop} {X : XP} {n : Nat} {c lines : Int}

theorem itq_rng {d : Md} {a b : Int} (hq : d.q = true) (ha : -1000000 ≤ a) (ha' : a ≤ 1000000) (hb : -1000000 ≤ b) (hb' : b ≤ 1000000) : Itq d (.rng a b 1) :=
  ⟨.inl hq, fun _ _ _ e => by cases e; exact small_one (by omega) (by omega) (by omega) (by omega)⟩

theorem part_ct {vs : Vs} (G : C.Good) (S : Std C) (D : Def C "_law_part" vs 2 law_part_b) (hv : vs.length = 6) (hc : 0 ≤ c) (hl : 1 ≤ lines) (K : ∀ (p : Pt) H', p.ok lines.toNat → Ext H H' → Q p.v H') :
    CallW C ⟨n + 1, true⟩ "_law_part" [.int c, .int lines] H Q X := by
  have hz : 1000 < sizeLine := by decide
  refine D.call G rfl ?_
  rw [hv]
  unfold law_part_b
  (with_reducible (refine SS_asg ?_; refine E_sub ?_; refine E_lst ?_; refine Es_cons ?_; refine E_cs ?_; refine Es_cons ?_; refine E_cs ?_; refine Es_cons ?_; refine E_cs ?_; refine Es_cons ?_; refine E_cs ?_; refine Es_nil ?_))
  refine ⟨by decide, fun t0 ht0 => ?_⟩
  (with_reducible (refine E_bin ?_; refine E_nm (by with_unfolding_all rfl) ?_; refine E_ci ?_))
  refine bin_modp (by decide) ?_
  have hw : ∃ w : Wd, ∀ (Q : V → MH → Prop), Q (.str (Str.ofString w.name)) (upd H t0 (.lst [V.str (Str.ofString "sum"), .str (Str.ofString "stop"), .str (Str.ofString "pick"), .str (Str.ofString "not")])) → SubW C ⟨n, true⟩ (.ref t0) (.int (c % 4)) (upd H t0 (.lst [V.str (Str.ofString "sum"), .str (Str.ofString "stop"), .str (Str.ofString "pick"), .str (Str.ofString "not")])) Q (fun c H1 => X c H1) := by
    have h4 : c % 4 = ((0 : Nat) : Int) ∨ c % 4 = ((1 : Nat) : Int) ∨ c % 4 = ((2 : Nat) : Int) ∨ c % 4 = ((3 : Nat) : Int) := by omega
    rcases h4 with h | h | h | h <;> rw [h]
    · exact ⟨.sum, fun Q q => sub_listn items_new (by decide) rfl q⟩
    · exact ⟨.stop, fun Q q => sub_listn items_new (by decide) rfl q⟩
    · exact ⟨.pick, fun Q q => sub_listn items_new (by decide) rfl q⟩
    · exact ⟨.nt, fun Q q => sub_listn items_new (by decide) rfl q⟩
  obtain ⟨w, hw⟩ := hw
  refine hw _ ?_
  clear hw
  have x1 := Ext.new (o := .lst [V.str (Str.ofString "sum"), .str (Str.ofString "stop"), .str (Str.ofString "pick"), .str (Str.ofString "not")]) ht0
  generalize upd H t0 (.lst [V.str (Str.ofString "sum"), .str (Str.ofString "stop"), .str (Str.ofString "pick"), .str (Str.ofString "not")]) = H1 at x1 ⊢
  clear ht0
  (with_reducible (refine SS_asg ?_; refine E_lst ?_; refine Es_nil ?_))
  refine ⟨by decide, fun t ht => ?_⟩
  have ht' := x1.gone ht
  have x2 := x1.more (o := .lst []) ht
  have t2 := upd_self H1 t (.lst [])
  generalize upd H1 t (.lst []) = H2 at x2 t2 ⊢
  clear x1 ht
  refine SS_for ?_
  (with_reducible (refine E_call (Std.n_range (by assumption)) callee_type ?_; refine Es_cons ?_; refine E_sub ?_; refine E_dct ?_; refine Es_cons ?_; refine E_ci ?_; refine Es_cons ?_; refine E_ci ?_; refine Es_cons ?_; refine E_ci ?_; refine Es_cons ?_; refine E_ci ?_; refine Es_nil ?_))
  refine ⟨rfl, by decide, by decide +kernel, fun g hg => ?_⟩
  (with_reducible (refine E_nm (by with_unfolding_all rfl) ?_))
  refine sub_dcs (upd_self ..) (x := .int w.ar) ?_ ?_
  · cases w <;> rfl
  have x3 := x2.more (o := .dcs ((["sum", "stop", "pick", "not"].map Str.ofString).zip [V.int 2, .int 2, .int 3, .int 1])) hg
  have t3 := Ext.new (o := .dcs ((["sum", "stop", "pick", "not"].map Str.ofString).zip [V.int 2, .int 2, .int 3, .int 1])) hg t _ t2
  generalize upd H2 g _ = H3 at x3 t3 ⊢
  clear x2 t2 hg
  (with_reducible (refine Es_nil ?_))
  refine cv_range1 ?_
  have har : w.ar ≤ 3 := by cases w <;> decide
  refine ⟨_, itq_rng rfl (by omega) (by omega) (by omega) (by omega), rfl, ?_⟩
  refine for_inv (P := fun i ρ H' => ∃ kk nn, ∃ ls : List Nat, ρ = [some (.int c), some (.int lines), some (.str (Str.ofString w.name)), some (.ref t), kk, nn] ∧ H' t = some (.lst (ls.map fun (l : Nat) => V.int l)) ∧ Ext H H' ∧ ls.length = i ∧ ∀ l ∈ ls, l < lines.toNat)
    ⟨none, none, [], rfl, t3, x3, rfl, by simp⟩ (fun i x ρ H' R hP hx hR => ?_) fun ρ H' hP => ⟨rfl, ?_⟩
  · obtain ⟨kk, nn, ls, rfl, ht, hx', hi, hls⟩ := hP
    obtain ⟨rfl, hi'⟩ := rng_get hx
    refine ⟨rfl, _, rfl, ?_⟩
    (with_reducible (refine SS_asg ?_; refine E_bin ?_; refine E_bin ?_; refine E_nm (by with_unfolding_all rfl) ?_; refine E_ci ?_))
    refine bin_divp (by decide) (by decide) ?_
    (with_reducible (refine E_sub ?_; refine E_lst ?_; refine Es_cons ?_; refine E_ci ?_; refine Es_cons ?_; refine E_ci ?_; refine Es_cons ?_; refine E_ci ?_; refine Es_nil ?_))
    refine ⟨by decide, fun u hu => ?_⟩
    (with_reducible (refine E_nm (by with_unfolding_all rfl) ?_))
    have hs : ∃ m : Int, 0 < m ∧ m < 100 ∧ ([V.int 1, .int 7, .int 49])[i]? = some (.int m) := by
      have : i = 0 ∨ i = 1 ∨ i = 2 := by omega
      rcases this with rfl | rfl | rfl
      · exact ⟨1, by decide, by decide, rfl⟩
      · exact ⟨7, by decide, by decide, rfl⟩
      · exact ⟨49, by decide, by decide, rfl⟩
    obtain ⟨m, hm, hm', hms⟩ := hs
    rw [Int.zero_add]
    refine sub_listn (i := i) items_new (by decide) hms (bin_divp hm (by omega) ?_)
    generalize hnear : c / 4 / m = near
    have hn0 : 0 ≤ near := by rw [← hnear]; exact Int.ediv_nonneg (Int.ediv_nonneg hc (by decide)) (by omega)
    have tu := Ext.ne ht hu
    have ht1 : upd H' u (.lst [V.int 1, .int 7, .int 49]) t = some (.lst (ls.map fun (l : Nat) => V.int l)) := (upd_ne tu).trans ht
    have x4 : Ext H (upd H' u (.lst [V.int 1, .int 7, .int 49])) := hx'.more hu
    generalize upd H' u (.lst [V.int 1, .int 7, .int 49]) = H4 at ht1 x4 ⊢
    have done : ∀ (e : Int), 0 ≤ e → e < lines → R [some (.int c), some (.int lines), some (.str (Str.ofString w.name)), some (.ref t), some (.int i), some (.int near)] (upd H4 t (.lst ((ls.map fun (l : Nat) => V.int l) ++ [.int e]))) := by
      intro e he he'
      refine hR _ _ ⟨_, _, ls ++ [e.toNat], rfl, ?_, x4.mut ht', by simp [hi], fun l hl' => ?_⟩
      · rw [upd_self, List.map_append]; simp only [List.map_cons, List.map_nil, Int.toNat_of_nonneg he]
      · rcases List.mem_append.mp hl' with h | h
        · exact hls l h
        · simp only [List.mem_singleton] at h; omega
    have hlen : (ls.map fun (l : Nat) => V.int l).length ≤ sizeLine := by simp; omega
    (with_reducible (refine SS_ife ?_; refine T_cmp ?_; refine E_cmp ?_; refine E_bin ?_; refine E_nm (by with_unfolding_all rfl) ?_; refine E_ci ?_))
    refine bin_modp (by decide) ?_
    (with_reducible (refine E_ci ?_; refine cmp_eq_int ?_; refine tru_bool ?_))
    split
    · (with_reducible (refine SS_app1 ?_; refine SS_exp ?_; refine E_meth ?_; refine E_nm (by with_unfolding_all rfl) ?_))
      refine ⟨_, mget_append ht1, callee_builtin, ?_⟩
      (with_reducible (refine Es_cons ?_; refine E_bin ?_; refine E_bin ?_; refine E_nm (by with_unfolding_all rfl) ?_; refine E_ci ?_; refine bin_sub ?_; refine E_bin ?_; refine E_bin ?_; refine E_nm (by with_unfolding_all rfl) ?_; refine E_ci ?_))
      refine bin_divp (by decide) (by decide) ?_
      (with_reducible (refine E_call (Std.n_min (by assumption)) callee_builtin ?_; refine Es_cons ?_; refine E_nm (by with_unfolding_all rfl) ?_; refine Es_cons ?_; refine E_ci ?_; refine Es_nil ?_))
      refine cv_min rfl (bin_modp (by omega) ?_)
      have h1 : 0 ≤ near / 2 % min lines 3 := Int.emod_nonneg _ (by omega)
      have h2 : near / 2 % min lines 3 < min lines 3 := Int.emod_lt_of_pos _ (by omega)
      (with_reducible (refine bin_sub ?_; refine Es_nil ?_))
      refine cv_append ht1 hlen (SS_nil ?_)
      exact done _ (by omega) (by omega)
    · (with_reducible (refine SS_app1 ?_; refine SS_exp ?_; refine E_meth ?_; refine E_nm (by with_unfolding_all rfl) ?_))
      refine ⟨_, mget_append ht1, callee_builtin, ?_⟩
      (with_reducible (refine Es_cons ?_; refine E_bin ?_; refine E_bin ?_; refine E_nm (by with_unfolding_all rfl) ?_; refine E_ci ?_))
      refine bin_divp (by decide) (by decide) ?_
      (with_reducible (refine E_nm (by with_unfolding_all rfl) ?_))
      refine bin_modp (by omega) ?_
      have h1 : 0 ≤ near / 2 % lines := Int.emod_nonneg _ (by omega)
      have h2 : near / 2 % lines < lines := Int.emod_lt_of_pos _ (by omega)
      (with_reducible (refine Es_nil ?_))
      refine cv_append ht1 hlen (SS_nil ?_)
      exact done _ (by omega) (by omega)
  rw [rng_len] at hP
  obtain ⟨kk, nn, ls, rfl, ht, hx, hi, hls⟩ := hP
  (with_reducible (refine SS_ret ?_; refine E_call (Std.n_tuple (by assumption)) callee_type ?_; refine Es_cons ?_; refine E_bin ?_; refine E_lst ?_; refine Es_cons ?_; refine E_nm (by with_unfolding_all rfl) ?_; refine Es_nil ?_))
  refine ⟨by simp; omega, fun u hu => ?_⟩
  (with_reducible (refine E_nm (by with_unfolding_all rfl) ?_))
  refine bin_cat items_new ((Ext.new hu).items (items_lst ht)) (by simp; omega) fun v hv => ?_
  (with_reducible (refine Es_nil ?_))
  refine cv_tuple items_new (by simp; omega) ?_
  exact K ⟨w, ls⟩ _ ⟨show ls.length = w.ar by omega, hls⟩ ((hx.more hu).more hv)

structure Wk where
  ring : Int
  inp : Nat
  ps : List Pt
structure Wk.Ok (w : Wk) (most : Nat) : Prop where
  r1 : 2 ≤ w.ring
  r2 : w.ring ≤ 5
  i1 : 1 ≤ w.inp
  i2 : w.inp ≤ 6
  p1 : 1 ≤ w.ps.length
  p2 : w.ps.length ≤ most
  pt : ∀ (k : Nat) (p : Pt), w.ps[k]? = some p → p.ok (w.inp + k)
noncomputable def Wk.v (w : Wk) (pa : Addr) : V := .tup [.int w.ring, .int w.inp, .ref pa]

theorem work_ct {vs : Vs} {a : Addr} {ns : List Int} {most : Nat} (G : C.Good) (S : Std C) (Dc : Def C "_law_cell" law_cell_vs 2 law_cell_b) (Dm : Def C "_law_mixed" law_mixed_vs 2 law_mixed_b) (Dp : Def C "_law_part" vs 2 law_part_b) (hv : vs.length = 6)
    (D : Def C "_law_work" law_work_vs 2 law_work_b) (ha : H a = some (.fro (ns.map .int))) (hl : ns.length ≤ 63) (hm : 1 ≤ most) (hm' : most ≤ 100)
    (K : ∀ (w : Wk) pa H', w.Ok most → Ext H H' → H pa = none → H' pa = some (.lst (w.ps.map Pt.v)) → Q (w.v pa) H') : CallW C ⟨n + 3, true⟩ "_law_work" [.ref a, .int most] H Q X := by
  have hz : 1000 < sizeLine := by decide
  refine D.call G rfl ?_
  unfold law_work_b
  (with_reducible (refine SS_asg ?_))
  refine E_fn Dm.fn ?_
  (with_reducible (refine Es_cons ?_; refine E_nm (by with_unfolding_all rfl) ?_; refine Es_cons ?_; refine E_ci ?_; refine Es_nil ?_))
  refine mixed_ct G Dc Dm ha hl (by decide) fun H1 x1 => ?_
  generalize mixed ns 0 = f0
  (with_reducible (refine SS_asg ?_; refine E_sub ?_; refine E_lst ?_; refine Es_cons ?_; refine E_ci ?_; refine Es_cons ?_; refine E_ci ?_; refine Es_cons ?_; refine E_ci ?_; refine Es_cons ?_; refine E_ci ?_; refine Es_cons ?_; refine E_ci ?_; refine Es_cons ?_; refine E_ci ?_; refine Es_cons ?_; refine E_ci ?_; refine Es_cons ?_; refine E_ci ?_; refine Es_nil ?_))
  refine ⟨by decide, fun t ht => ?_⟩
  (with_reducible (refine E_bin ?_; refine E_nm (by with_unfolding_all rfl) ?_; refine E_ci ?_))
  refine bin_modp (by decide) ?_
  have hring : ∃ r : Int, 2 ≤ r ∧ r ≤ 5 ∧ ([V.int 2, .int 2, .int 3, .int 2, .int 3, .int 4, .int 5, .int 2])[(f0 % 8).toNat]? = some (.int r) := by
    have h8 : (f0 % 8).toNat = 0 ∨ (f0 % 8).toNat = 1 ∨ (f0 % 8).toNat = 2 ∨ (f0 % 8).toNat = 3 ∨ (f0 % 8).toNat = 4 ∨ (f0 % 8).toNat = 5 ∨ (f0 % 8).toNat = 6 ∨ (f0 % 8).toNat = 7 := by omega
    rcases h8 with h | h | h | h | h | h | h | h <;> rw [h]
    · exact ⟨2, by decide, by decide, rfl⟩
    · exact ⟨2, by decide, by decide, rfl⟩
    · exact ⟨3, by decide, by decide, rfl⟩
    · exact ⟨2, by decide, by decide, rfl⟩
    · exact ⟨3, by decide, by decide, rfl⟩
    · exact ⟨4, by decide, by decide, rfl⟩
    · exact ⟨5, by decide, by decide, rfl⟩
    · exact ⟨2, by decide, by decide, rfl⟩
  obtain ⟨r, hr1, hr2, hr⟩ := hring
  rw [show f0 % 8 = (((f0 % 8).toNat : Nat) : Int) by omega]
  refine sub_listn items_new (by decide) hr ?_
  have x2 := x1.more (o := .lst [V.int 2, .int 2, .int 3, .int 2, .int 3, .int 4, .int 5, .int 2]) ht
  generalize upd H1 t (.lst [V.int 2, .int 2, .int 3, .int 2, .int 3, .int 4, .int 5, .int 2]) = H2 at x2 ⊢
  clear x1 ht hr
  (with_reducible (refine SS_asg ?_; refine E_bin ?_; refine E_ci ?_; refine E_bin ?_; refine E_bin ?_; refine E_nm (by with_unfolding_all rfl) ?_; refine E_ci ?_))
  refine bin_divp (by decide) (by decide) ?_
  (with_reducible (refine E_ci ?_))
  refine bin_modp (by decide) ?_
  (with_reducible (refine bin_add ?_))
  refine SS_join (J := fun ρ' H' => ∃ inp : Nat, 1 ≤ inp ∧ inp ≤ 6 ∧ ρ' = [some (.ref a), some (.int most), some (.int f0), some (.int r), some (.int inp), none, none] ∧ H' = H2) (fun ρ' H' hJ => ?_) fun R hR => ?_
  rotate_left
  · (with_reducible (refine T_cmp ?_; refine E_cmp ?_; refine E_bin ?_; refine E_bin ?_; refine E_nm (by with_unfolding_all rfl) ?_; refine E_ci ?_))
    refine bin_divp (by decide) (by decide) ?_
    (with_reducible (refine E_ci ?_))
    refine bin_modp (by decide) ?_
    (with_reducible (refine E_ci ?_; refine cmp_eq_int ?_; refine tru_bool ?_))
    split
    · (with_reducible (refine SS_asg ?_; refine E_bin ?_; refine E_ci ?_; refine E_bin ?_; refine E_bin ?_; refine E_nm (by with_unfolding_all rfl) ?_; refine E_ci ?_))
      refine bin_divp (by decide) (by decide) ?_
      (with_reducible (refine E_ci ?_))
      refine bin_modp (by decide) ?_
      (with_reducible (refine bin_add ?_))
      refine SS_nil (hR _ _ ⟨(1 + f0 / 192 % 6).toNat, by omega, by omega, ?_, rfl⟩)
      rw [Int.toNat_of_nonneg (by omega)]; rfl
    · refine SS_nil (hR _ _ ⟨(1 + f0 / 8 % 3).toNat, by omega, by omega, ?_, rfl⟩)
      rw [Int.toNat_of_nonneg (by omega)]; rfl
  obtain ⟨inp, hi1, hi2, rfl, rfl⟩ := hJ
  have a2 := x2 _ _ ha
  (with_reducible (refine SS_asg ?_; refine E_bin ?_; refine E_ci ?_; refine E_bin ?_))
  refine E_fn Dm.fn ?_
  (with_reducible (refine Es_cons ?_; refine E_nm (by with_unfolding_all rfl) ?_; refine Es_cons ?_; refine E_ci ?_; refine Es_nil ?_))
  refine mixed_ct G Dc Dm a2 hl (by decide) fun H3 x3 => ?_
  (with_reducible (refine E_nm (by with_unfolding_all rfl) ?_))
  refine bin_modp (by omega) ?_
  (with_reducible (refine bin_add ?_))
  have hmany : 1 ≤ 1 + mixed ns 1 % most ∧ 1 + mixed ns 1 % most ≤ most := by
    have h1 := Int.emod_nonneg (mixed ns 1) (show (most : Int) ≠ 0 by omega)
    have h2 := Int.emod_lt_of_pos (mixed ns 1) (show 0 < (most : Int) by omega)
    omega
  generalize 1 + mixed ns 1 % most = many at hmany ⊢
  refine SS_join (J := fun ρ' H' => ∃ many : Nat, 1 ≤ many ∧ many ≤ most ∧ ρ' = [some (.ref a), some (.int most), some (.int f0), some (.int r), some (.int inp), some (.int many), none] ∧ H' = H3) (fun ρ' H' hJ => ?_) fun R hR => ?_
  rotate_left
  · have h0 : R [some (.ref a), some (.int most), some (.int f0), some (.int r), some (.int inp), some (.int many), none] H3 := hR _ _ ⟨many.toNat, by omega, by omega, by rw [Int.toNat_of_nonneg (by omega)], rfl⟩
    (with_reducible (refine T_bop ?_; refine A_and ?_; refine T_cmp ?_; refine E_cmp ?_; refine E_nm (by with_unfolding_all rfl) ?_; refine E_ci ?_; refine cmp_gt ?_; refine tru_bool ?_))
    split
    · (with_reducible (refine A_and ?_; refine T_cmp ?_; refine E_cmp ?_; refine E_nm (by with_unfolding_all rfl) ?_; refine E_ci ?_; refine cmp_lt ?_; refine tru_bool ?_))
      split
      · (with_reducible (refine A_nil_and ?_; refine if_t ?_; refine SS_asg ?_; refine E_call (Std.n_min (by assumption)) callee_builtin ?_; refine Es_cons ?_; refine E_nm (by with_unfolding_all rfl) ?_; refine Es_cons ?_; refine E_ci ?_; refine Es_nil ?_))
        refine cv_min rfl (SS_nil (hR _ _ ⟨(min many 4).toNat, by omega, by omega, ?_, rfl⟩))
        rw [Int.toNat_of_nonneg (by omega)]; rfl
      · (with_reducible (refine if_f ?_))
        refine SS_nil ?_
        exact h0
    · (with_reducible (refine if_f ?_))
      refine SS_nil ?_
      exact h0
  clear many hmany
  obtain ⟨many, hmany1, hmany2, rfl, rfl⟩ := hJ
  have a3 := x3 _ _ a2
  have x13 := x2.trans x3
  refine SS_asg (E_comp ?_)
  (with_reducible (refine E_call (Std.n_range (by assumption)) callee_type ?_; refine Es_cons ?_; refine E_nm (by with_unfolding_all rfl) ?_; refine Es_nil ?_))
  refine cv_range1 ?_
  refine ⟨_, itq_rng rfl (by omega) (by omega) (by omega) (by omega), rfl, by rw [rng_len]; omega, ?_⟩
  refine comp_inv (P := fun i acc H' => ∃ ps : List Pt, acc = ps.map Pt.v ∧ ps.length = i ∧ (∀ (k : Nat) (p : Pt), ps[k]? = some p → p.ok (inp + k)) ∧ Ext H H')
    ⟨[], rfl, rfl, by simp, x13⟩ (fun i x acc H' R hP hx hR => ?_) fun acc H' hP => ⟨rfl, ?_⟩
  · obtain ⟨ps, rfl, hi, hps, hx'⟩ := hP
    obtain ⟨rfl, hi'⟩ := rng_get hx
    refine ⟨rfl, _, rfl, ?_⟩
    (with_reducible (refine Ts_nil ?_; refine if_t ?_))
    refine E_fn Dp.fn ?_
    (with_reducible (refine Es_cons ?_))
    refine E_fn Dm.fn ?_
    (with_reducible (refine Es_cons ?_; refine E_nm (by with_unfolding_all rfl) ?_; refine Es_cons ?_; refine E_bin ?_; refine E_ci ?_; refine E_nm (by with_unfolding_all rfl) ?_; refine bin_add ?_; refine Es_nil ?_))
    refine mixed_ct G Dc Dm (hx' _ _ ha) hl (by omega) fun H5 x5 => ?_
    (with_reducible (refine Es_cons ?_; refine E_bin ?_; refine E_nm (by with_unfolding_all rfl) ?_; refine E_nm (by with_unfolding_all rfl) ?_; refine bin_add ?_; refine Es_nil ?_))
    refine part_ct G S Dp hv (mixed_ge _ _) (by omega) fun p H6 hp x6 => ?_
    refine hR _ _ ⟨ps ++ [p], by simp, by simp [hi], fun k p' hk => ?_, (hx'.trans x5).trans x6⟩
    rcases Nat.lt_or_ge k ps.length with h | h
    · rw [List.getElem?_append_left h] at hk; exact hps k p' hk
    · rw [List.getElem?_append_right h] at hk
      have : k - ps.length = 0 := by
        rcases Nat.eq_zero_or_pos (k - ps.length) with h0 | h0
        · exact h0
        · rw [List.getElem?_eq_none (by simp; omega)] at hk; cases hk
      rw [this] at hk; cases hk
      have e : ((inp : Int) + (0 + (i : Int))).toNat = inp + k := by omega
      rw [e] at hp; exact hp
  rw [rng_len] at hP
  obtain ⟨ps, rfl, hi, hps, hx⟩ := hP
  refine ⟨by simp; omega, fun pa hpa => ?_⟩
  (with_reducible (refine SS_ret ?_; refine E_tup ?_; refine Es_cons ?_; refine E_nm (by with_unfolding_all rfl) ?_; refine Es_cons ?_; refine E_nm (by with_unfolding_all rfl) ?_; refine Es_cons ?_; refine E_nm (by with_unfolding_all rfl) ?_; refine Es_nil ?_))
  refine ⟨show 3 ≤ sizeLine by decide, ?_⟩
  exact K ⟨r, inp, ps⟩ pa _ ⟨hr1, hr2, hi1, hi2, by show 1 ≤ ps.length; omega, by show ps.length ≤ most; omega, hps⟩ (hx.more hpa) (hx.gone hpa) (upd_self ..)
end
end Vc
end

section
set_option autoImplicit false
set_option linter.unusedVariables false
namespace Vc
open PySem PyProof.Rows

noncomputable def lines_of_vs : Vs := [(Str.ofString "word", .loc)]
noncomputable def lines_of_b : List St :=
   [.ife (.cmp .Eq (.nm 0) (.cs "not")) [.ret (.ci 1)] [],
    .ife (.cmp .Eq (.nm 0) (.cs "pick")) [.ret (.ci 3)] [],
    .ife (.bop .Or [(.cmp .Eq (.nm 0) (.cs "sum")), (.cmp .Eq (.nm 0) (.cs "stop"))]) [.ret (.ci 2)] [],
    .ret (.ci 0)]
noncomputable def is_part_vs : Vs := [(Str.ofString "thing", .loc), (Str.ofString "ahead", .cel)]
noncomputable def is_part_b : List St :=
   [.ife (.bop .Or [(.una .Not (.call "isinstance" [(.nm 0), (.gl "tuple")])), (.cmp .Lt (.call "len" [(.nm 0)]) (.ci 2)), (.una .Not (.call "isinstance" [(.sub (.nm 0) (.ci 0)), (.gl "str")]))]) [.ret (.cb false)] [],
    .ret (.bop .And [(.cmp .Eq (.bin .Sub (.call "len" [(.nm 0)]) (.ci 1)) (.call "lines_of" [(.sub (.nm 0) (.ci 0))])), (.call "all" [(.comp 1 (.call "is_among" [(.nm 2), (.ci 0), (.bin .Sub (.nm 1) (.ci 1))]) (.sli (.nm 0) (.ci 1) .cn .cn) [])])])]
noncomputable def need_work_vs : Vs := [(Str.ofString "thing", .loc), (Str.ofString "ring", .loc), (Str.ofString "inputs", .loc), (Str.ofString "parts", .loc), (Str.ofString "at", .loc), (Str.ofString "part", .loc)]
noncomputable def need_work_b : List St :=
   [.ife (.bop .Or [(.una .Not (.call "isinstance" [(.nm 0), (.gl "tuple")])), (.cmp .NotEq (.call "len" [(.nm 0)]) (.ci 3))]) [.rais "BadWork" "a ring, inputs and parts are wanted"] [],
    .unp [1, 2, 3] (.nm 0),
    .ife (.bop .Or [(.una .Not (.call "is_among" [(.nm 1), (.ci 2), (.gl "MOST_RING")])), (.una .Not (.call "is_among" [(.nm 2), (.ci 1), (.gl "MOST_INPUTS")]))]) [.rais "BadWork" "no such ring, or no such inputs"] [],
    .ife (.bop .Or [(.una .Not (.call "isinstance" [(.nm 3), (.gl "list")])), (.una .Not (.cmp2 .LtE .LtE (.ci 1) (.call "len" [(.nm 3)]) (.gl "MOST_PARTS")))]) [.rais "BadWork" "one to ten parts are wanted"] [],
    .for [4, 5] (.en (.nm 3)) [.ife (.una .Not (.call "is_part" [(.nm 5), (.bin .Add (.nm 2) (.nm 4))])) [.rais "BadWork" "no part"] []],
    .ret (.cb true)]

mutual
theorem VD.ext {H H' : MH} (x : Ext H H') : ∀ {v : V} {d : PyData}, VD H v d → VD H' v d
  | _, _, .none => .none
  | _, _, .bool b => .bool b
  | _, _, .int i => .int i
  | _, _, .str s => .str s
  | _, _, .tup y => .tup (VDs.ext x y)
  | _, _, .lst e y => .lst (x _ _ e) (VDs.ext x y)
  | _, _, .fro e y => .fro (x _ _ e) (VDs.ext x y)
theorem VDs.ext {H H' : MH} (x : Ext H H') : ∀ {l : List V} {ds : List PyData}, VDs H l ds → VDs H' l ds
  | _, _, .nil => .nil
  | _, _, .cons y ys => .cons (VD.ext x y) (VDs.ext x ys)
end
theorem VDs.len {H : MH} : ∀ {l : List V} {ds : List PyData}, VDs H l ds → l.length = ds.length
  | _, _, .nil => rfl
  | _, _, .cons _ ys => by simp [VDs.len ys]
theorem VDs.at {H : MH} : ∀ {l : List V} {ds : List PyData} {i : Nat} {x : V}, VDs H l ds → l[i]? = some x → ∃ d, ds[i]? = some d ∧ VD H x d
  | _, _, _, _, .nil, e => by simp at e
  | _, _, 0, _, .cons y _, e => by simp at e; subst e; exact ⟨_, rfl, y⟩
  | _, _, i + 1, _, .cons _ ys, e => by simp at e; simpa using VDs.at ys e
noncomputable def amD : PyData → Int → Int → Bool
  | .int x, lo, hi => decide (lo ≤ x) && decide (x ≤ hi)
  | _, _, _ => false
noncomputable def linesOf (s : Str) : Int := if (s == Str.ofString "not") = true then 1 else if (s == Str.ofString "pick") = true then 3 else if (s == Str.ofString "sum" || s == Str.ofString "stop") = true then 2 else 0
noncomputable def isP : PyData → Int → Bool
  | .tuple (.str s :: r), ahead => decide (1 ≤ r.length) && (((r.length : Nat) : Int) == linesOf s) && r.all (fun x => amD x 0 (ahead - 1))
  | _, _ => false

section
variable {C : Cx} {H : MH} {Q : V → MH → Prop} {X : XP} {n : Nat} {q : Bool}

theorem among_any {v : V} {dv : PyData} {l m : Int} (G : C.Good) (S : Std C) (D : Def C "is_among" is_among_vs 3 is_among_b) (hv : VD H v dv) (K : Q (.bool (amD dv l m)) H) : CallW C ⟨n + 1, q⟩ "is_among" [v, .int l, .int m] H Q X := by
  refine D.call G rfl ?_
  unfold is_among_b
  (with_reducible (refine SS_ret ?_; refine E_bop ?_; refine B_and ?_; refine E_call (Std.n_isinstance (by assumption)) callee_builtin ?_; refine Es_cons ?_; refine E_nm (by with_unfolding_all rfl) ?_; refine Es_cons ?_; refine E_gl (Std.n_int (by assumption)) ?_; refine Es_nil ?_))
  cases hv with
  | none => refine cv_isi (k := false) S.n_int (by rfl) ?_; (with_reducible (refine tru_bool ?_; refine if_f ?_)); exact K
  | str s => refine cv_isi (k := false) S.n_int (by rfl) ?_; (with_reducible (refine tru_bool ?_; refine if_f ?_)); exact K
  | tup y => refine cv_isi (k := false) S.n_int (by rfl) ?_; (with_reducible (refine tru_bool ?_; refine if_f ?_)); exact K
  | lst e y => refine cv_isi_list (k := false) S.n_int (items_lst e) (by simp) ?_; (with_reducible (refine tru_bool ?_; refine if_f ?_)); exact K
  | fro e y => refine cv_isi_list (k := false) S.n_int (items_fro e) (by simp) ?_; (with_reducible (refine tru_bool ?_; refine if_f ?_)); exact K
  | bool b =>
    refine cv_isi (k := true) S.n_int (by rfl) ?_
    (with_reducible (refine tru_bool ?_; refine if_t ?_; refine B_and ?_; refine E_una ?_; refine E_call (Std.n_isinstance (by assumption)) callee_builtin ?_; refine Es_cons ?_; refine E_nm (by with_unfolding_all rfl) ?_; refine Es_cons ?_; refine E_gl (Std.n_bool (by assumption)) ?_; refine Es_nil ?_))
    refine cv_isi (k := true) S.n_bool (by rfl) ?_
    (with_reducible (refine una_not ?_; refine tru_bool ?_; refine tru_bool ?_; refine if_nt ?_))
    exact K
  | int x =>
    refine cv_isi (k := true) S.n_int (by rfl) ?_
    (with_reducible (refine tru_bool ?_; refine if_t ?_; refine B_and ?_; refine E_una ?_; refine E_call (Std.n_isinstance (by assumption)) callee_builtin ?_; refine Es_cons ?_; refine E_nm (by with_unfolding_all rfl) ?_; refine Es_cons ?_; refine E_gl (Std.n_bool (by assumption)) ?_; refine Es_nil ?_))
    refine cv_isi (k := false) S.n_bool (by rfl) ?_
    (with_reducible (refine una_not ?_; refine tru_bool ?_; refine tru_bool ?_; refine if_nf ?_; refine B_one ?_; refine E_cmp2 ?_; refine E_nm (by with_unfolding_all rfl) ?_; refine E_nm (by with_unfolding_all rfl) ?_; refine cmp_le ?_; refine tru_bool ?_))
    change Q (V.bool (decide (l ≤ x) && decide (x ≤ m))) H at K
    split
    · rename_i h
      (with_reducible (refine E_nm (by with_unfolding_all rfl) ?_; refine cmp_le ?_))
      rw [h, Bool.true_and] at K
      exact K
    · rename_i h
      rw [show decide (l ≤ x) = false by simpa using h, Bool.false_and] at K
      rw [show decide (l ≤ x) = false by simpa using h]
      exact K

theorem lines_ct {s : Str} (G : C.Good) (D : Def C "lines_of" lines_of_vs 1 lines_of_b) (hs : PyData.strOk s = true) (K : Q (.int (linesOf s)) H) : CallW C ⟨n + 1, q⟩ "lines_of" [.str s] H Q X := by
  refine D.call G rfl ?_
  unfold lines_of_b
  unfold linesOf at K
  (with_reducible (refine SS_ife ?_; refine T_cmp ?_; refine E_cmp ?_; refine E_nm (by with_unfolding_all rfl) ?_; refine E_cs ?_))
  refine cmp_str hs (by decide +kernel) ?_
  (with_reducible (refine tru_bool ?_))
  by_cases h : (s == Str.ofString "not") = true
  · rw [if_pos h] at K ⊢
    (with_reducible (refine SS_app1 ?_; refine SS_ret ?_; refine E_ci ?_))
    exact K
  rw [if_neg h] at K ⊢
  (with_reducible (refine SS_app0 ?_; refine SS_ife ?_; refine T_cmp ?_; refine E_cmp ?_; refine E_nm (by with_unfolding_all rfl) ?_; refine E_cs ?_))
  refine cmp_str hs (by decide +kernel) ?_
  (with_reducible (refine tru_bool ?_))
  by_cases h : (s == Str.ofString "pick") = true
  · rw [if_pos h] at K ⊢
    (with_reducible (refine SS_app1 ?_; refine SS_ret ?_; refine E_ci ?_))
    exact K
  rw [if_neg h] at K ⊢
  (with_reducible (refine SS_app0 ?_; refine SS_ife ?_; refine T_bop ?_; refine A_or ?_; refine T_cmp ?_; refine E_cmp ?_; refine E_nm (by with_unfolding_all rfl) ?_; refine E_cs ?_))
  refine cmp_str hs (by decide +kernel) ?_
  (with_reducible (refine tru_bool ?_))
  by_cases h : (s == Str.ofString "sum") = true
  · rw [h, Bool.true_or, if_pos rfl] at K
    rw [if_pos h]
    (with_reducible (refine if_t ?_; refine SS_app1 ?_; refine SS_ret ?_; refine E_ci ?_))
    exact K
  rw [if_neg h]
  rw [show (s == Str.ofString "sum") = false by simpa using h, Bool.false_or] at K
  (with_reducible (refine A_or ?_; refine T_cmp ?_; refine E_cmp ?_; refine E_nm (by with_unfolding_all rfl) ?_; refine E_cs ?_))
  refine cmp_str hs (by decide +kernel) ?_
  (with_reducible (refine tru_bool ?_))
  by_cases h : (s == Str.ofString "stop") = true
  · rw [if_pos h] at K ⊢
    (with_reducible (refine if_t ?_; refine SS_app1 ?_; refine SS_ret ?_; refine E_ci ?_))
    exact K
  rw [if_neg h] at K ⊢
  (with_reducible (refine A_nil_or ?_; refine if_f ?_; refine SS_app0 ?_; refine SS_ret ?_; refine E_ci ?_))
  exact K

theorem adj_from1 {n : Nat} (h : 1 ≤ n) : Builtin.Slice.sliceAdjust (some 1) none 1 (n : Int) = (((1 : Nat) : Int), ((n : Nat) : Int)) := by
  unfold Builtin.Slice.sliceAdjust
  simp only [show ¬ ((1 : Int) < 0) by omega, if_false]
  congr 1
  omega

theorem part_any_ct {v : V} {dv : PyData} {ahead : Int} (G : C.Good) (S : Std C) (Da : Def C "is_among" is_among_vs 3 is_among_b) (Dl : Def C "lines_of" lines_of_vs 1 lines_of_b) (D : Def C "is_part" is_part_vs 2 is_part_b)
    (hv : VD H v dv) (hlay : dv.canLay0 = true) (hlen : ∀ l, v = .tup l → l.length ≤ 100) (K : ∀ H', Ext H H' → Q (.bool (isP dv ahead)) H') : CallW C ⟨n + 2, true⟩ "is_part" [v, .int ahead] H Q X := by
  have hz : 1000 < sizeLine := by decide
  refine D.call G rfl ?_
  unfold is_part_b
  (with_reducible (refine SS_ife ?_; refine T_bop ?_; refine A_or ?_; refine T_not ?_; refine T_call ?_; refine E_call (Std.n_isinstance (by assumption)) callee_builtin ?_; refine Es_cons ?_; refine E_nm (by with_unfolding_all rfl) ?_; refine Es_cons ?_; refine E_gl (Std.n_tuple (by assumption)) ?_; refine Es_nil ?_))
  cases hv with
  | none => refine cv_isi (k := false) S.n_tuple (by rfl) ?_; (with_reducible (refine tru_bool ?_; refine if_nf ?_; refine if_t ?_; refine SS_app1 ?_; refine SS_ret ?_; refine E_cb ?_)); exact K _ (.refl _)
  | str s => refine cv_isi (k := false) S.n_tuple (by rfl) ?_; (with_reducible (refine tru_bool ?_; refine if_nf ?_; refine if_t ?_; refine SS_app1 ?_; refine SS_ret ?_; refine E_cb ?_)); exact K _ (.refl _)
  | int s => refine cv_isi (k := false) S.n_tuple (by rfl) ?_; (with_reducible (refine tru_bool ?_; refine if_nf ?_; refine if_t ?_; refine SS_app1 ?_; refine SS_ret ?_; refine E_cb ?_)); exact K _ (.refl _)
  | bool s => refine cv_isi (k := false) S.n_tuple (by rfl) ?_; (with_reducible (refine tru_bool ?_; refine if_nf ?_; refine if_t ?_; refine SS_app1 ?_; refine SS_ret ?_; refine E_cb ?_)); exact K _ (.refl _)
  | lst e y => refine cv_isi_list (k := false) S.n_tuple (items_lst e) (by simp) ?_; (with_reducible (refine tru_bool ?_; refine if_nf ?_; refine if_t ?_; refine SS_app1 ?_; refine SS_ret ?_; refine E_cb ?_)); exact K _ (.refl _)
  | fro e y => refine cv_isi_list (k := false) S.n_tuple (items_fro e) (by simp) ?_; (with_reducible (refine tru_bool ?_; refine if_nf ?_; refine if_t ?_; refine SS_app1 ?_; refine SS_ret ?_; refine E_cb ?_)); exact K _ (.refl _)
  | @tup l ds y =>
    have hl := hlen l rfl
    refine cv_isi (k := true) S.n_tuple (by rfl) ?_
    (with_reducible (refine tru_bool ?_; refine if_nt ?_; refine A_or ?_; refine T_cmp ?_; refine E_cmp ?_; refine E_call (Std.n_len (by assumption)) callee_builtin ?_; refine Es_cons ?_; refine E_nm (by with_unfolding_all rfl) ?_; refine Es_nil ?_))
    refine cv_len_tup (by omega) ?_
    (with_reducible (refine E_ci ?_; refine cmp_lt ?_; refine tru_bool ?_))
    cases y with
    | nil => (skip); exact K _ (.refl _)
    | @cons x dx xs dxs hx hxs =>
    cases hxs with
    | nil =>
      (skip)
      have e : isP (.tuple [dx]) ahead = false := by cases dx <;> rfl
      rw [e] at K
      exact K _ (.refl _)
    | @cons x2 dx2 xs dxs hx2 hxs =>
    have hge : (decide (((x :: x2 :: xs).length : Int) < 2)) = false := decide_eq_false (by simp only [List.length_cons]; omega)
    rw [hge]
    (with_reducible (refine if_f ?_; refine A_or ?_; refine T_not ?_; refine T_call ?_; refine E_call (Std.n_isinstance (by assumption)) callee_builtin ?_; refine Es_cons ?_; refine E_sub ?_; refine E_nm (by with_unfolding_all rfl) ?_; refine E_ci ?_))
    refine sub_t0 (Nat.ble_eq_true_of_le (by simp at hl ⊢; omega)) ?_
    (with_reducible (refine Es_cons ?_; refine E_gl (Std.n_str (by assumption)) ?_; refine Es_nil ?_))
    have nostr : ∀ (hd : isP (.tuple (dx :: dx2 :: dxs)) ahead = false), Q (.bool false) H := fun e => by rw [e] at K; exact K _ (.refl _)
    cases hx with
    | none => refine cv_isi (k := false) S.n_str (by rfl) ?_; (with_reducible (refine tru_bool ?_; refine if_nf ?_; refine if_t ?_; refine SS_app1 ?_; refine SS_ret ?_; refine E_cb ?_)); exact nostr rfl
    | int s => refine cv_isi (k := false) S.n_str (by rfl) ?_; (with_reducible (refine tru_bool ?_; refine if_nf ?_; refine if_t ?_; refine SS_app1 ?_; refine SS_ret ?_; refine E_cb ?_)); exact nostr rfl
    | bool s => refine cv_isi (k := false) S.n_str (by rfl) ?_; (with_reducible (refine tru_bool ?_; refine if_nf ?_; refine if_t ?_; refine SS_app1 ?_; refine SS_ret ?_; refine E_cb ?_)); exact nostr rfl
    | tup y => refine cv_isi (k := false) S.n_str (by rfl) ?_; (with_reducible (refine tru_bool ?_; refine if_nf ?_; refine if_t ?_; refine SS_app1 ?_; refine SS_ret ?_; refine E_cb ?_)); exact nostr rfl
    | lst e y => refine cv_isi_list (k := false) S.n_str (items_lst e) (by simp) ?_; (with_reducible (refine tru_bool ?_; refine if_nf ?_; refine if_t ?_; refine SS_app1 ?_; refine SS_ret ?_; refine E_cb ?_)); exact nostr rfl
    | fro e y => refine cv_isi_list (k := false) S.n_str (items_fro e) (by simp) ?_; (with_reducible (refine tru_bool ?_; refine if_nf ?_; refine if_t ?_; refine SS_app1 ?_; refine SS_ret ?_; refine E_cb ?_)); exact nostr rfl
    | str s =>
      refine cv_isi (k := true) S.n_str (by rfl) ?_
      (with_reducible (refine tru_bool ?_; refine if_nt ?_; refine A_nil_or ?_; refine if_f ?_; refine SS_app0 ?_; refine SS_ret ?_; refine E_bop ?_; refine B_and ?_; refine E_cmp ?_; refine E_bin ?_; refine E_call (Std.n_len (by assumption)) callee_builtin ?_; refine Es_cons ?_; refine E_nm (by with_unfolding_all rfl) ?_; refine Es_nil ?_))
      refine cv_len_tup (by omega) ?_
      (with_reducible (refine E_ci ?_; refine bin_sub ?_))
      refine E_fn Dl.fn ?_
      (with_reducible (refine Es_cons ?_; refine E_sub ?_; refine E_nm (by with_unfolding_all rfl) ?_; refine E_ci ?_))
      refine sub_t0 (Nat.ble_eq_true_of_le (by simp at hl ⊢; omega)) ?_
      (with_reducible (refine Es_nil ?_))
      have hlay' := hlay
      simp only [PyData.canLay0, PyData.canLayAll0, Bool.and_eq_true] at hlay'
      refine lines_ct G Dl (by simpa [PyData.canLay0] using hlay'.1) ?_
      (with_reducible (refine cmp_eq_int ?_; refine tru_bool ?_))
      have ev := (hxs.len).symm
      have hb : isP (.tuple (.str s :: dx2 :: dxs)) ahead = ((((x2 :: xs).length : Int) == linesOf s) && (dx2 :: dxs).all (fun x => amD x 0 (ahead - 1))) := by
        unfold isP
        simp [ev]
      have e1 : (((V.str s :: x2 :: xs).length : Int) - 1) = ((x2 :: xs).length : Int) := by simp
      rw [e1]
      rw [hb] at K
      by_cases h : (((x2 :: xs).length : Int) == linesOf s) = true
      · rw [h, Bool.true_and] at K
        rw [h]
        (with_reducible (refine if_t ?_; refine B_one ?_; refine E_call (Std.n_all (by assumption)) callee_builtin ?_; refine Es_cons ?_))
        refine E_comp ?_
        (with_reducible (refine E_sli ?_; refine E_nm (by with_unfolding_all rfl) ?_; refine E_ci ?_; refine E_cn ?_; refine E_cn ?_))
        refine sli_tup (lo := some 1) (hi := none) (a := 1) (b := (V.str s :: x2 :: xs).length) (.int 1) .none (adj_from1 (by simp)) (Nat.le_refl _) (by omega) ?_
        have e2 : ((V.str s :: x2 :: xs).drop 1).take ((V.str s :: x2 :: xs).length - 1) = x2 :: xs := by simp
        rw [e2]
        refine ⟨_, ⟨.inl rfl, fun _ _ _ e => by cases e⟩, rfl, by simp at hl ⊢; omega, ?_⟩
        have hvs : VDs H (x2 :: xs) (dx2 :: dxs) := .cons hx2 hxs
        refine comp_inv (P := fun i acc H' => acc = (((dx2 :: dxs).take i).map (fun x => amD x 0 (ahead - 1))).map .bool ∧ H = H') ⟨rfl, rfl⟩ (fun i x acc H' R hP hxi hR => ?_) fun acc H' hP => ⟨rfl, ?_⟩
        · obtain ⟨rfl, rfl⟩ := hP
          obtain ⟨di, hdi, hvi⟩ := hvs.at hxi
          refine ⟨rfl, _, rfl, ?_⟩
          (with_reducible (refine Ts_nil ?_; refine if_t ?_))
          refine E_fn Da.fn ?_
          (with_reducible (refine Es_cons ?_; refine E_nm (by with_unfolding_all rfl) ?_; refine Es_cons ?_; refine E_ci ?_; refine Es_cons ?_; refine E_bin ?_; refine E_nm (by with_unfolding_all rfl) ?_; refine E_ci ?_; refine bin_sub ?_; refine Es_nil ?_))
          refine among_any G S Da hvi (hR _ _ ⟨?_, rfl⟩)
          rw [List.take_add_one, hdi]
          simp
        · obtain ⟨rfl, rfl⟩ := hP
          have hlen2 : (x2 :: xs).length = (dx2 :: dxs).length := hvs.len
          rw [hlen2, List.take_of_length_le (Nat.le_refl _)]
          refine ⟨by rw [List.length_map, List.length_map, ← hlen2]; simp at hl ⊢; omega, fun b hb => ?_⟩
          (with_reducible (refine Es_nil ?_))
          refine cv_all rfl (upd_self ..) ?_
          rw [List.all_map]
          exact K _ (.new hb)
      · have h' : (((x2 :: xs).length : Int) == linesOf s) = false := by simpa using h
        rw [h', Bool.false_and] at K
        rw [h']
        (with_reducible (refine if_f ?_))
        exact K _ (.refl _)
end
end Vc
end

section
set_option autoImplicit false
set_option linter.unusedVariables false
namespace Vc
open PySem PyProof.Rows

noncomputable def ivD : PyData → Int
  | .int x => x
  | _ => 0
noncomputable def psOk (i : Int) (ps : List PyData) : Bool := ps.zipIdx.all fun pk => isP pk.1 (i + (pk.2 : Int))
theorem psOk_get {i : Int} {ps : List PyData} (h : psOk i ps = true) {k : Nat} {d : PyData} (e : ps[k]? = some d) : isP d (i + k) = true :=
  List.all_eq_true.mp h (d, k) (List.mem_zipIdx_iff_getElem?.mpr e)
theorem psOk_of {i : Int} {ps : List PyData} (h : ∀ (k : Nat) (d : PyData), ps[k]? = some d → isP d (i + k) = true) : psOk i ps = true :=
  List.all_eq_true.mpr fun pk hm => h pk.2 pk.1 (List.mem_zipIdx_iff_getElem?.mp hm)
noncomputable def nw3 (r i : PyData) : PyData → Bool
  | .list ps => decide (1 ≤ ps.length) && decide (ps.length ≤ 10) && psOk (ivD i) ps
  | _ => false
noncomputable def nw : PyData → Bool
  | .tuple [r, i, p] => amD r 2 5 && amD i 1 6 && nw3 r i p
  | _ => false

theorem nw_t (r i p : PyData) : nw (.tuple [r, i, p]) = (amD r 2 5 && amD i 1 6 && nw3 r i p) := rfl
theorem nw3_l (r i : PyData) (ps : List PyData) : nw3 r i (.list ps) = (decide (1 ≤ ps.length) && decide (ps.length ≤ 10) && psOk (ivD i) ps) := rfl

theorem nw_ne : ∀ {ds : List PyData}, ds.length ≠ 3 → nw (.tuple ds) = false
  | [], _ => rfl
  | [_], _ => rfl
  | [_, _], _ => rfl
  | [_, _, _], k => (k rfl).elim
  | _ :: _ :: _ :: _ :: _, _ => rfl

structure Sm (H : MH) (l : List V) : Prop where
  len : l.length ≤ 100
  lst : ∀ p ∈ l, ∀ a items, p = .ref a → H a = some (.lst items) → items.length ≤ 100 ∧ ∀ x ∈ items, ∀ m, x = .tup m → m.length ≤ 100
  fro : ∀ p ∈ l, ∀ a items, p = .ref a → H a ≠ some (.fro items)
inductive WD (H : MH) : V → Bool → Prop
  | data {v : V} {dv : PyData} : VD H v dv → dv.canLay0 = true → (∀ l, v = .tup l → Sm H l) → WD H v (nw dv)
  | dict {r i : Int} {a : Addr} {l : List (Int × V)} : H a = some (.dci l) → WD H (.tup [.int r, .int i, .ref a]) false

noncomputable def GI (C : Cx) (x : String) (i : Int) : Prop := ∃ t, C.G x (.int i t)

section
variable {C : Cx} {d : Md} {ρ : Lo} {H : MH} {Q : V → MH → Prop} {X : XP} {n : Nat} {q : Bool}
theorem E_gi {x : String} {i : Int} (h : GI C x i) (K : Q (.int i) H) : wpE C d (.gl x) ρ H Q X := by
  obtain ⟨t, hG⟩ := h
  exact ⟨.int i, _, hG, by rw [VR]; exact ⟨t, rfl⟩, K⟩
theorem SS_rais {K : KP} {X : XS} {ts : List St} {c m : String} (h : RaiW C d c H (fun c H1 => X c ρ H1)) : wpSs C d (.rais c m :: ts) ρ H K X := by dsimp only [wpSs, wpS]; exact h
theorem SS_raisa {K : KP} {X : XS} {ts us : List St} {c m : String} (h : RaiW C d c H (fun c H1 => X c ρ H1)) : wpSs C d ([.rais c m] ++ ts) ρ H K X := SS_rais h

theorem Sm.ext {H H' : MH} {l : List V} (s : Sm H l) (x : Ext H H') (hin : ∀ p ∈ l, ∀ a, p = .ref a → ∃ o, H a = some o) : Sm H' l :=
  ⟨s.len, fun p hp a items e h => by
    obtain ⟨o, ho⟩ := hin p hp a e
    have := x _ _ ho; rw [h] at this; cases this
    exact s.lst p hp a items e ho, fun p hp a items e h => by
    obtain ⟨o, ho⟩ := hin p hp a e
    have := x _ _ ho; rw [h] at this; cases this
    exact s.fro p hp a items e ho⟩
theorem WD.ext {H H' : MH} {v : V} {b : Bool} (w : WD H v b) (x : Ext H H') : WD H' v b := by
  cases w with
  | dict h => exact .dict (x _ _ h)
  | data hv hl hs =>
    refine .data (hv.ext x) hl fun l e => (hs l e).ext x fun p hp a ea => ?_
    subst e
    cases hv with
    | tup y =>
      obtain ⟨k, hk⟩ := List.mem_iff_getElem?.mp hp
      obtain ⟨d, _, hd⟩ := y.at hk
      subst ea
      cases hd with
      | lst e _ => exact ⟨_, e⟩
      | fro e _ => exact ⟨_, e⟩

theorem enumd_at : ∀ {l : List V} {k i : Nat} {x : V}, (enumd k l)[i]? = some x → ∃ y, l[i]? = some y ∧ x = .tup [.int ((k + i : Nat) : Int), y]
  | [], _, _, _, h => by simp [enumd] at h
  | y :: l, k, 0, x, h => by simp [enumd] at h; exact ⟨y, rfl, by rw [← h]; simp⟩
  | y :: l, k, i + 1, x, h => by
    simp [enumd] at h
    obtain ⟨z, h1, h2⟩ := enumd_at h
    exact ⟨z, by simpa using h1, by rw [h2]; congr 3; omega⟩
theorem layAll_get : ∀ {l : List PyData} {k : Nat} {d : PyData}, PyData.canLayAll0 l = true → l[k]? = some d → d.canLay0 = true
  | [], _, _, _, h => by simp at h
  | x :: l, 0, d, hl, h => by simp at h; subst h; simp only [PyData.canLayAll0, Bool.and_eq_true] at hl; exact hl.1
  | x :: l, k + 1, d, hl, h => by simp only [PyData.canLayAll0, Bool.and_eq_true] at hl; exact layAll_get hl.2 (by simpa using h)

theorem need_ct {v : V} {b : Bool} (G : C.Good) (S : Std C) (hR : ∀ {d : Md} {H : MH} {X : XP}, d.q = true → X "BadWork" H → RaiW C d "BadWork" H X) (g1 : GI C "MOST_RING" 5) (g2 : GI C "MOST_INPUTS" 6) (g3 : GI C "MOST_PARTS" 10)
    (Da : Def C "is_among" is_among_vs 3 is_among_b) (Dl : Def C "lines_of" lines_of_vs 1 lines_of_b) (Dp : Def C "is_part" is_part_vs 2 is_part_b) (D : Def C "need_work" need_work_vs 1 need_work_b)
    (hw : WD H v b) (K1 : b = true → ∀ H', Ext H H' → Q (.bool true) H') (K2 : b = false → ∀ H', Ext H H' → X "BadWork" H') : CallW C ⟨n + 3, true⟩ "need_work" [v] H Q X := by
  have hz : 1000 < sizeLine := by decide
  refine D.call G rfl ?_
  unfold need_work_b
  (with_reducible (refine SS_ife ?_; refine T_bop ?_; refine A_or ?_; refine T_not ?_; refine T_call ?_; refine E_call (Std.n_isinstance (by assumption)) callee_builtin ?_; refine Es_cons ?_; refine E_nm (by with_unfolding_all rfl) ?_; refine Es_cons ?_; refine E_gl (Std.n_tuple (by assumption)) ?_; refine Es_nil ?_))
  cases hw with
  | @dict r i a l ha =>
    refine cv_isi (k := true) S.n_tuple (by rfl) ?_
    (with_reducible (refine tru_bool ?_; refine if_nt ?_; refine A_or ?_; refine T_cmp ?_; refine E_cmp ?_; refine E_call (Std.n_len (by assumption)) callee_builtin ?_; refine Es_cons ?_; refine E_nm (by with_unfolding_all rfl) ?_; refine Es_nil ?_))
    refine cv_len_tup (by simp; omega) ?_
    (with_reducible (refine E_ci ?_; refine cmp_ne_int ?_; refine tru_bool ?_))
    refine SS_unp ?_
    (with_reducible (refine E_nm (by with_unfolding_all rfl) ?_))
    refine ⟨_, rfl, ⟨.inl rfl, fun _ _ _ e => by cases e⟩, rfl, ?_⟩
    (with_reducible (refine SS_ife ?_; refine T_bop ?_; refine A_or ?_; refine T_not ?_; refine T_call ?_))
    refine E_fn Da.fn ?_
    (with_reducible (refine Es_cons ?_; refine E_nm (by with_unfolding_all rfl) ?_; refine Es_cons ?_; refine E_ci ?_; refine Es_cons ?_))
    refine E_gi g1 ?_
    (with_reducible (refine Es_nil ?_))
    refine among_any G S Da (.int r) ?_
    (with_reducible (refine tru_bool ?_))
    split
    · rename_i h1
      (with_reducible (refine if_t ?_; refine SS_app1 ?_))
      refine SS_raisa (us := []) (hR rfl (K2 rfl _ (.refl _)))
    rename_i h1
    (with_reducible (refine A_or ?_; refine T_not ?_; refine T_call ?_))
    refine E_fn Da.fn ?_
    (with_reducible (refine Es_cons ?_; refine E_nm (by with_unfolding_all rfl) ?_; refine Es_cons ?_; refine E_ci ?_; refine Es_cons ?_))
    refine E_gi g2 ?_
    (with_reducible (refine Es_nil ?_))
    refine among_any G S Da (.int i) ?_
    (with_reducible (refine tru_bool ?_))
    split
    · rename_i h2
      (with_reducible (refine if_t ?_; refine SS_app1 ?_))
      refine SS_raisa (us := []) (hR rfl (K2 rfl _ (.refl _)))
    rename_i h2
    (with_reducible (refine A_nil_or ?_; refine if_f ?_; refine SS_app0 ?_; refine SS_ife ?_; refine T_bop ?_; refine A_or ?_; refine T_not ?_; refine T_call ?_; refine E_call (Std.n_isinstance (by assumption)) callee_builtin ?_; refine Es_cons ?_; refine E_nm (by with_unfolding_all rfl) ?_; refine Es_cons ?_; refine E_gl (Std.n_list (by assumption)) ?_; refine Es_nil ?_))
    refine cv_isi_dict S.n_list ha ?_
    (with_reducible (refine tru_bool ?_; refine if_nf ?_; refine if_t ?_; refine SS_app1 ?_))
    exact SS_raisa (us := []) (hR rfl (K2 rfl _ (.refl _)))
  | @data v dv hv hlay hsm =>
    have bad : nw dv = false → ∀ H', Ext H H' → X "BadWork" H' := K2
    cases hv with
    | none => refine cv_isi (k := false) S.n_tuple (by rfl) ?_; (with_reducible (refine tru_bool ?_; refine if_nf ?_; refine if_t ?_; refine SS_app1 ?_)); exact SS_raisa (us := []) (hR rfl (bad rfl _ (.refl _)))
    | str s => refine cv_isi (k := false) S.n_tuple (by rfl) ?_; (with_reducible (refine tru_bool ?_; refine if_nf ?_; refine if_t ?_; refine SS_app1 ?_)); exact SS_raisa (us := []) (hR rfl (bad rfl _ (.refl _)))
    | int s => refine cv_isi (k := false) S.n_tuple (by rfl) ?_; (with_reducible (refine tru_bool ?_; refine if_nf ?_; refine if_t ?_; refine SS_app1 ?_)); exact SS_raisa (us := []) (hR rfl (bad rfl _ (.refl _)))
    | bool s => refine cv_isi (k := false) S.n_tuple (by rfl) ?_; (with_reducible (refine tru_bool ?_; refine if_nf ?_; refine if_t ?_; refine SS_app1 ?_)); exact SS_raisa (us := []) (hR rfl (bad rfl _ (.refl _)))
    | lst e y => refine cv_isi_list (k := false) S.n_tuple (items_lst e) (by simp) ?_; (with_reducible (refine tru_bool ?_; refine if_nf ?_; refine if_t ?_; refine SS_app1 ?_)); exact SS_raisa (us := []) (hR rfl (bad rfl _ (.refl _)))
    | fro e y => refine cv_isi_list (k := false) S.n_tuple (items_fro e) (by simp) ?_; (with_reducible (refine tru_bool ?_; refine if_nf ?_; refine if_t ?_; refine SS_app1 ?_)); exact SS_raisa (us := []) (hR rfl (bad rfl _ (.refl _)))
    | @tup l ds y =>
    have sm := hsm l rfl
    refine cv_isi (k := true) S.n_tuple (by rfl) ?_
    (with_reducible (refine tru_bool ?_; refine if_nt ?_; refine A_or ?_; refine T_cmp ?_; refine E_cmp ?_; refine E_call (Std.n_len (by assumption)) callee_builtin ?_; refine Es_cons ?_; refine E_nm (by with_unfolding_all rfl) ?_; refine Es_nil ?_))
    refine cv_len_tup (by have := sm.len; omega) ?_
    (with_reducible (refine E_ci ?_; refine cmp_ne_int ?_; refine tru_bool ?_))
    by_cases h3 : l.length = 3
    · match l, ds, y, h3 with
      | [vr, vi, vp], [dr, di, dp], .cons hr (.cons hi (.cons hp .nil)), _ =>
      (skip)
      refine SS_unp ?_
      (with_reducible (refine E_nm (by with_unfolding_all rfl) ?_))
      refine ⟨_, rfl, ⟨.inl rfl, fun _ _ _ e => by cases e⟩, rfl, ?_⟩
      (with_reducible (refine SS_ife ?_; refine T_bop ?_; refine A_or ?_; refine T_not ?_; refine T_call ?_))
      refine E_fn Da.fn ?_
      (with_reducible (refine Es_cons ?_; refine E_nm (by with_unfolding_all rfl) ?_; refine Es_cons ?_; refine E_ci ?_; refine Es_cons ?_))
      refine E_gi g1 ?_
      (with_reducible (refine Es_nil ?_))
      refine among_any G S Da hr ?_
      (with_reducible (refine tru_bool ?_))
      by_cases h1 : amD dr 2 5 = true
      rotate_left
      · have h1' : amD dr 2 5 = false := by simpa using h1
        rw [h1']
        (with_reducible (refine if_nf ?_; refine if_t ?_; refine SS_app1 ?_))
        exact SS_raisa (us := []) (hR rfl (bad (by rw [nw_t, h1']; rfl) _ (.refl _)))
      rw [h1]
      (with_reducible (refine if_nt ?_; refine A_or ?_; refine T_not ?_; refine T_call ?_))
      refine E_fn Da.fn ?_
      (with_reducible (refine Es_cons ?_; refine E_nm (by with_unfolding_all rfl) ?_; refine Es_cons ?_; refine E_ci ?_; refine Es_cons ?_))
      refine E_gi g2 ?_
      (with_reducible (refine Es_nil ?_))
      refine among_any G S Da hi ?_
      (with_reducible (refine tru_bool ?_))
      by_cases h2 : amD di 1 6 = true
      rotate_left
      · have h2' : amD di 1 6 = false := by simpa using h2
        rw [h2']
        (with_reducible (refine if_nf ?_; refine if_t ?_; refine SS_app1 ?_))
        exact SS_raisa (us := []) (hR rfl (bad (by rw [nw_t, h2', Bool.and_false]; rfl) _ (.refl _)))
      rw [h2]
      (with_reducible (refine if_nt ?_; refine A_nil_or ?_; refine if_f ?_; refine SS_app0 ?_; refine SS_ife ?_; refine T_bop ?_; refine A_or ?_; refine T_not ?_; refine T_call ?_; refine E_call (Std.n_isinstance (by assumption)) callee_builtin ?_; refine Es_cons ?_; refine E_nm (by with_unfolding_all rfl) ?_; refine Es_cons ?_; refine E_gl (Std.n_list (by assumption)) ?_; refine Es_nil ?_))
      have enw : nw (.tuple [dr, di, dp]) = nw3 dr di dp := by rw [nw_t, h1, h2]; rfl
      rw [enw] at K1 bad
      have hdi : ∃ x, di = .int x ∧ vi = .int x := by
        cases hi with
        | int x => exact ⟨x, rfl, rfl⟩
        | _ => cases h2
      obtain ⟨x, rfl, rfl⟩ := hdi
      cases hp with
      | none => refine cv_isi (k := false) S.n_list (by rfl) ?_; (with_reducible (refine tru_bool ?_; refine if_nf ?_; refine if_t ?_; refine SS_app1 ?_)); exact SS_raisa (us := []) (hR rfl (bad rfl _ (.refl _)))
      | str s => refine cv_isi (k := false) S.n_list (by rfl) ?_; (with_reducible (refine tru_bool ?_; refine if_nf ?_; refine if_t ?_; refine SS_app1 ?_)); exact SS_raisa (us := []) (hR rfl (bad rfl _ (.refl _)))
      | int s => refine cv_isi (k := false) S.n_list (by rfl) ?_; (with_reducible (refine tru_bool ?_; refine if_nf ?_; refine if_t ?_; refine SS_app1 ?_)); exact SS_raisa (us := []) (hR rfl (bad rfl _ (.refl _)))
      | bool s => refine cv_isi (k := false) S.n_list (by rfl) ?_; (with_reducible (refine tru_bool ?_; refine if_nf ?_; refine if_t ?_; refine SS_app1 ?_)); exact SS_raisa (us := []) (hR rfl (bad rfl _ (.refl _)))
      | tup s => refine cv_isi (k := false) S.n_list (by rfl) ?_; (with_reducible (refine tru_bool ?_; refine if_nf ?_; refine if_t ?_; refine SS_app1 ?_)); exact SS_raisa (us := []) (hR rfl (bad rfl _ (.refl _)))
      | fro e y => exact (sm.fro _ (by simp) _ _ rfl e).elim
      | @lst a items dps e y =>
      obtain ⟨hil, hpl⟩ := sm.lst _ (by simp) a items rfl e
      have hlen := y.len
      refine cv_isi_list (k := true) S.n_list (items_lst e) (by simp) ?_
      (with_reducible (refine tru_bool ?_; refine if_nt ?_; refine A_or ?_; refine T_not ?_; refine T_cmp2 ?_; refine E_ci ?_; refine E_call (Std.n_len (by assumption)) callee_builtin ?_; refine Es_cons ?_; refine E_nm (by with_unfolding_all rfl) ?_; refine Es_nil ?_))
      refine cv_len_list (items_lst e) (by omega) ?_
      (with_reducible (refine cmp_le ?_; refine tru_bool ?_))
      by_cases h4 : 1 ≤ items.length
      rotate_left
      · rw [show decide ((1 : Int) ≤ (items.length : Int)) = false from decide_eq_false (by omega)]
        (with_reducible (refine if_f ?_; refine if_nf ?_; refine if_t ?_; refine SS_app1 ?_))
        exact SS_raisa (us := []) (hR rfl (bad (by rw [nw3_l, decide_eq_false (show ¬ 1 ≤ dps.length by omega)]; rfl) _ (.refl _)))
      rw [show decide ((1 : Int) ≤ (items.length : Int)) = true from decide_eq_true (by omega)]
      (with_reducible (refine if_t ?_))
      refine E_gi g3 ?_
      (with_reducible (refine cmp_le ?_; refine tru_bool ?_))
      by_cases h5 : items.length ≤ 10
      rotate_left
      · rw [show decide ((items.length : Int) ≤ 10) = false from decide_eq_false (by omega)]
        (with_reducible (refine if_nf ?_; refine if_t ?_; refine SS_app1 ?_))
        exact SS_raisa (us := []) (hR rfl (bad (by rw [nw3_l, decide_eq_false (show ¬ dps.length ≤ 10 by omega), Bool.and_false]; rfl) _ (.refl _)))
      rw [show decide ((items.length : Int) ≤ 10) = true from decide_eq_true (by omega)]
      (with_reducible (refine if_nt ?_; refine A_nil_or ?_; refine if_f ?_; refine SS_app0 ?_))
      have enw3 : nw3 dr (.int x) (.list dps) = psOk x dps := by rw [nw3_l, decide_eq_true (show 1 ≤ dps.length by omega), decide_eq_true (show dps.length ≤ 10 by omega)]; rfl
      rw [enw3] at K1 bad
      refine SS_fore S.n_enumerate ?_
      (with_reducible (refine E_nm (by with_unfolding_all rfl) ?_))
      refine ⟨enumd 0 items, ⟨rfl, .inl rfl, fun _ _ _ e => by cases e⟩, by simp only [svItems, items_lst e]; rfl, ?_⟩
      refine for_inv (P := fun i ρ' H' => (∃ u u', ρ' = [some (.tup [vr, .int x, .ref a]), some vr, some (.int x), some (.ref a), u, u']) ∧ Ext H H' ∧ ∀ (k : Nat) (d : PyData), k < i → dps[k]? = some d → isP d (x + k) = true) ⟨⟨_, _, rfl⟩, .refl _, fun _ _ h => by omega⟩
        (fun i z ρ' H' R hP hz' hRR => ?_) fun ρ' H' hP => ?_
      · obtain ⟨⟨u, u', rfl⟩, hx, hok⟩ := hP
        obtain ⟨yv, hy, rfl⟩ := enumd_at hz'
        obtain ⟨dy, hdy, hvy⟩ := y.at hy
        refine ⟨by simp only [svItems, items_lst (hx _ _ e)]; rfl, _, rfl, ?_⟩
        (with_reducible (refine SS_ife ?_; refine T_not ?_; refine T_call ?_))
        refine E_fn Dp.fn ?_
        (with_reducible (refine Es_cons ?_; refine E_nm (by with_unfolding_all rfl) ?_; refine Es_cons ?_; refine E_bin ?_; refine E_nm (by with_unfolding_all rfl) ?_; refine E_nm (by with_unfolding_all rfl) ?_; refine bin_add ?_; refine Es_nil ?_))
        rw [Nat.zero_add]
        have hlayp : dy.canLay0 = true := by
          have h0 := hlay
          simp only [PyData.canLay0, PyData.canLayAll0, Bool.and_eq_true] at h0
          exact layAll_get h0.2.2.1 hdy
        refine part_any_ct G S Da Dl Dp (hvy.ext hx) hlayp (fun m e' => hpl _ (List.mem_of_getElem? hy) m e') fun H2 hx2 => ?_
        (with_reducible (refine tru_bool ?_))
        by_cases h6 : isP dy (x + i) = true
        · rw [h6]
          (with_reducible (refine if_nt ?_; refine SS_app0 ?_))
          refine hRR _ _ ⟨⟨_, _, rfl⟩, hx.trans hx2, fun k d hk hd => ?_⟩
          by_cases hki : k = i
          · subst hki; rw [hdy] at hd; cases hd; exact h6
          · exact hok k d (by omega) hd
        · have h6' : isP dy (x + i) = false := by simpa using h6
          rw [h6']
          (with_reducible (refine if_nf ?_; refine SS_app1 ?_))
          refine SS_raisa (us := []) (hR rfl (bad ?_ _ (hx.trans hx2)))
          cases hps : psOk x dps with
          | false => rfl
          | true => rw [psOk_get hps hdy] at h6'; cases h6'
      · obtain ⟨⟨u, u', rfl⟩, hx, hok⟩ := hP
        refine ⟨by simp only [svItems, items_lst (hx _ _ e)]; rfl, ?_⟩
        (with_reducible (refine SS_ret ?_; refine E_cb ?_))
        refine K1 (psOk_of fun k d hd => hok k d ?_ hd) _ hx
        rw [enumd_length, hlen]
        exact (List.getElem?_eq_some_iff.mp hd).1
    · have hne : (!((l.length : Int) == 3)) = true := by simp; omega
      rw [hne]
      (with_reducible (refine if_t ?_; refine if_t ?_; refine SS_app1 ?_))
      refine SS_raisa (us := []) (hR rfl (bad ?_ _ (.refl _)))
      have key : ds.length ≠ 3 := by have := y.len; omega
      exact nw_ne key
end
end Vc
end

section
set_option autoImplicit false
set_option linter.unusedVariables false
namespace Vc
open PySem PyProof.Rows

noncomputable def law_word_vs : Vs := [(Str.ofString "_law_e", .loc), (Str.ofString "_law_names", .loc), (Str.ofString "_law_found", .loc)]
noncomputable def law_word_b : List St :=
   [.asg 1 (.lst [(.tup [(.cs "work"), (.call "isinstance" [(.nm 0), (.gl "BadWork")])]), (.tup [(.cs "given"), (.call "isinstance" [(.nm 0), (.gl "BadGiven")])]), (.tup [(.cs "look"), (.call "isinstance" [(.nm 0), (.gl "BadLook")])])]),
    .asg 1 (.bin .Add (.nm 1) (.lst [(.tup [(.cs "set"), (.call "isinstance" [(.nm 0), (.gl "BadSet")])]), (.tup [(.cs "room"), (.call "isinstance" [(.nm 0), (.gl "HasRoom")])]), (.tup [(.cs "line"), (.call "isinstance" [(.nm 0), (.gl "NoLine")])])])),
    .asg 1 (.bin .Add (.nm 1) (.lst [(.tup [(.cs "none"), (.call "isinstance" [(.nm 0), (.gl "NoLook")])]), (.tup [(.cs "text"), (.call "isinstance" [(.nm 0), (.gl "BadText")])])])),
    .asg 2 (.comp 2 (.nm 3) (.nm 1) [(.nm 4)]),
    .ife (.una .Not (.call "isinstance" [(.nm 0), (.gl "ValueError")])) [.exp (.meth (.nm 2) "append" [(.cs "bare")])] [],
    .ret (.call "tuple" [(.nm 2)])]
noncomputable def law_said_vs : Vs := [(Str.ofString "_law_thing", .loc), (Str.ofString "_law_e", .loc)]
noncomputable def law_said_b : List St :=
   [.tre [.ret (.call "need_work" [(.nm 0)])] "WorkError" (some 1) [.ret (.call "_law_word" [(.nm 1)])] []]

noncomputable def IsE (C : Cx) (x : String) (b : Bool) : Prop := (∃ cv, C.G x cv) ∧ ∀ {d : Md} {H : MH} {Q : V → MH → Prop} {X : XP}, Q (.bool b) H → CallV C d (.builtin "isinstance") [.exc "BadWork", .glb x] H Q X
structure WdK (C : Cx) : Prop where
  work : IsE C "BadWork" true
  given : IsE C "BadGiven" false
  look : IsE C "BadLook" false
  set : IsE C "BadSet" false
  room : IsE C "HasRoom" false
  line : IsE C "NoLine" false
  no : IsE C "NoLook" false
  text : IsE C "BadText" false
  val : IsE C "ValueError" true

section
variable {C : Cx} {d : Md} {ρ : Lo} {H : MH} {Q : V → MH → Prop} {X : XP} {n : Nat} {q : Bool}
theorem E_isx {x : String} {b : Bool} {i : Nat} (S : Std C) (h : IsE C x b) (hl : lk ρ i = some (.exc "BadWork")) (K : Q (.bool b) H) : wpE C d (.call "isinstance" [.nm i, .gl x]) ρ H Q X := by
  refine E_call (Std.n_isinstance S) callee_builtin (Es_cons (E_nm hl (Es_cons ?_)))
  obtain ⟨⟨cv, hG⟩, h2⟩ := h
  exact E_gl hG (Es_nil (h2 K))
theorem T_isx {x : String} {b : Bool} {i : Nat} {P : Bool → MH → Prop} (S : Std C) (h : IsE C x b) (hl : lk ρ i = some (.exc "BadWork")) (K : P b H) : wpT C d (.call "isinstance" [.nm i, .gl x]) ρ H P X :=
  T_call (E_isx S h hl (tru_bool K))
theorem SS_tre {K : KP} {X : XS} {body hb el ts : List St} {c : String} {as : Option Nat} (h : wpSs C d body ρ H (fun f ρ' H' => match f with | .next => wpSs C d el ρ' H' (fun f ρ' H' => match f with | .next => wpSs C d ts ρ' H' K X | .ret v => K (.ret v) ρ' H') X | .ret v => K (.ret v) ρ' H')
      (fun c' ρ' H' => ∃ b, Exm C c' c b ∧ if b = true then wpSs C d.in hb (asV as ρ' c') H' (fun f ρ2 H2 => match f with | .next => wpSs C d ts (asO as ρ2) H2 K X | .ret v => K (.ret v) (asO as ρ2) H2) (fun _ _ _ => False) else X c' ρ' H')) : wpSs C d (.tre body c as hb el :: ts) ρ H K X := by
  dsimp only [wpSs, wpS]; exact h

theorem word_ct (G : C.Good) (S : Std C) (W : WdK C) (D : Def C "_law_word" law_word_vs 1 law_word_b) (K : ∀ H', Ext H H' → Q (.tup [.str (Str.ofString "work")]) H') : CallW C ⟨n + 1, q⟩ "_law_word" [.exc "BadWork"] H Q X := by
  have hz : 1000 < sizeLine := by decide
  refine D.call G rfl ?_
  unfold law_word_b
  refine SS_asg (E_lst (Es_cons (E_tup (Es_cons (E_cs (Es_cons (E_isx S W.work rfl (Es_nil ⟨by decide, ?_⟩))))))))
  refine Es_cons (E_tup (Es_cons (E_cs (Es_cons (E_isx S W.given rfl (Es_nil ⟨by decide, ?_⟩))))))
  refine Es_cons (E_tup (Es_cons (E_cs (Es_cons (E_isx S W.look rfl (Es_nil ⟨by decide, Es_nil ⟨by decide, fun a ha => ?_⟩⟩))))))
  refine SS_asg (E_bin (E_nm rfl (E_lst (Es_cons (E_tup (Es_cons (E_cs (Es_cons (E_isx S W.set rfl (Es_nil ⟨by decide, ?_⟩))))))))))
  refine Es_cons (E_tup (Es_cons (E_cs (Es_cons (E_isx S W.room rfl (Es_nil ⟨by decide, ?_⟩))))))
  refine Es_cons (E_tup (Es_cons (E_cs (Es_cons (E_isx S W.line rfl (Es_nil ⟨by decide, Es_nil ⟨by decide, fun b hb => ?_⟩⟩))))))
  refine bin_cat ((Ext.new hb).items items_new) items_new (by decide) fun c hc => ?_
  refine SS_asg (E_bin (E_nm rfl (E_lst (Es_cons (E_tup (Es_cons (E_cs (Es_cons (E_isx S W.no rfl (Es_nil ⟨by decide, ?_⟩))))))))))
  refine Es_cons (E_tup (Es_cons (E_cs (Es_cons (E_isx S W.text rfl (Es_nil ⟨by decide, Es_nil ⟨by decide, fun e he => ?_⟩⟩))))))
  refine bin_cat ((Ext.new he).items items_new) items_new (by decide) fun f hf => ?_
  generalize hH : upd _ f _ = H6
  have x6 : Ext H H6 := by rw [← hH]; exact (((((Ext.refl H).more ha).more hb).more hc).more he).more hf
  have hit : itemsOf H6 (.ref f) = some [V.tup [.str (Str.ofString "work"), .bool true], .tup [.str (Str.ofString "given"), .bool false], .tup [.str (Str.ofString "look"), .bool false], .tup [.str (Str.ofString "set"), .bool false], .tup [.str (Str.ofString "room"), .bool false], .tup [.str (Str.ofString "line"), .bool false], .tup [.str (Str.ofString "none"), .bool false], .tup [.str (Str.ofString "text"), .bool false]] := by rw [← hH]; exact items_new
  refine SS_asg (E_comp (E_nm rfl ?_))
  refine ⟨_, ⟨.inr (.inl ⟨f, rfl⟩), fun _ _ _ e => by cases e⟩, hit, by decide, ?_⟩
  refine ⟨hit, _, rfl, ?_⟩
  (with_reducible (refine Ts_cons ?_; refine T_nm ?_; refine E_nm (by with_unfolding_all rfl) ?_; refine tru_bool ?_; refine if_t ?_; refine Ts_nil ?_; refine if_t ?_; refine E_nm (by with_unfolding_all rfl) ?_))
  refine ⟨hit, _, rfl, ?_⟩
  (with_reducible (refine Ts_cons ?_; refine T_nm ?_; refine E_nm (by with_unfolding_all rfl) ?_; refine tru_bool ?_; refine if_f ?_; refine if_f ?_))
  refine ⟨hit, _, rfl, ?_⟩
  (with_reducible (refine Ts_cons ?_; refine T_nm ?_; refine E_nm (by with_unfolding_all rfl) ?_; refine tru_bool ?_; refine if_f ?_; refine if_f ?_))
  refine ⟨hit, _, rfl, ?_⟩
  (with_reducible (refine Ts_cons ?_; refine T_nm ?_; refine E_nm (by with_unfolding_all rfl) ?_; refine tru_bool ?_; refine if_f ?_; refine if_f ?_))
  refine ⟨hit, _, rfl, ?_⟩
  (with_reducible (refine Ts_cons ?_; refine T_nm ?_; refine E_nm (by with_unfolding_all rfl) ?_; refine tru_bool ?_; refine if_f ?_; refine if_f ?_))
  refine ⟨hit, _, rfl, ?_⟩
  (with_reducible (refine Ts_cons ?_; refine T_nm ?_; refine E_nm (by with_unfolding_all rfl) ?_; refine tru_bool ?_; refine if_f ?_; refine if_f ?_))
  refine ⟨hit, _, rfl, ?_⟩
  (with_reducible (refine Ts_cons ?_; refine T_nm ?_; refine E_nm (by with_unfolding_all rfl) ?_; refine tru_bool ?_; refine if_f ?_; refine if_f ?_))
  refine ⟨hit, _, rfl, ?_⟩
  (with_reducible (refine Ts_cons ?_; refine T_nm ?_; refine E_nm (by with_unfolding_all rfl) ?_; refine tru_bool ?_; refine if_f ?_; refine if_f ?_))
  refine ⟨hit, by decide, fun g hg => ?_⟩
  refine SS_ife (T_not (T_isx S W.val rfl ?_))
  (with_reducible (refine if_nt ?_; refine SS_app0 ?_; refine SS_ret ?_; refine E_call (Std.n_tuple (by assumption)) callee_type ?_; refine Es_cons ?_; refine E_nm (by with_unfolding_all rfl) ?_; refine Es_nil ?_))
  refine cv_tuple items_new (by decide) ?_
  exact K _ (x6.more hg)

theorem said_ct {v : V} {b : Bool} (G : C.Good) (S : Std C) (W : WdK C) (hR : ∀ {d : Md} {H : MH} {X : XP}, d.q = true → X "BadWork" H → RaiW C d "BadWork" H X) (hE : Exm C "BadWork" "WorkError" true) (g1 : GI C "MOST_RING" 5) (g2 : GI C "MOST_INPUTS" 6) (g3 : GI C "MOST_PARTS" 10)
    (Da : Def C "is_among" is_among_vs 3 is_among_b) (Dl : Def C "lines_of" lines_of_vs 1 lines_of_b) (Dp : Def C "is_part" is_part_vs 2 is_part_b) (Dn : Def C "need_work" need_work_vs 1 need_work_b)
    (Dw : Def C "_law_word" law_word_vs 1 law_word_b) (D : Def C "_law_said" law_said_vs 1 law_said_b)
    (hw : WD H v b) (K1 : b = true → ∀ H', Ext H H' → Q (.bool true) H') (K2 : b = false → ∀ H', Ext H H' → Q (.tup [.str (Str.ofString "work")]) H') : CallW C ⟨n + 4, true⟩ "_law_said" [v] H Q X := by
  refine D.call G rfl ?_
  unfold law_said_b
  refine SS_tre ?_
  refine SS_ret (E_fn Dn.fn ?_)
  (with_reducible (refine Es_cons ?_; refine E_nm (by with_unfolding_all rfl) ?_; refine Es_nil ?_))
  refine need_ct G S hR g1 g2 g3 Da Dl Dp Dn hw (fun e H' x => K1 e H' x) fun e H' x => ⟨true, hE, ?_⟩
  refine if_t ?_
  refine SS_ret (E_fn Dw.fn ?_)
  (with_reducible (refine Es_cons ?_; refine E_nm (by with_unfolding_all rfl) ?_; refine Es_nil ?_))
  exact word_ct (n := n + 2) (q := false) G S W Dw fun H2 x2 => K2 e _ (x.trans x2)
end
end Vc
end

section
set_option autoImplicit false
set_option linter.unusedVariables false
namespace Vc
open PySem PyProof.Rows

noncomputable def law_odd_vs : Vs := [(Str.ofString "_law_cell_here", .loc), (Str.ofString "_law_bound", .loc)]
noncomputable def law_odd_b : List St :=
   [.ret (.sub (.lst [(.ci 0), (.nm 1), (.bin .Add (.nm 1) (.bin .Mod (.bin .FloorDiv (.nm 0) (.ci 16)) (.ci 9))), (.bin .Sub (.una .USub (.ci 1)) (.bin .Mod (.bin .FloorDiv (.nm 0) (.ci 16)) (.ci 9))), (.cb true), (.cb false), .cn, (.cs "2"), (.lst [(.ci 2)]), (.bin .Pow (.ci 10) (.ci 20))]) (.bin .Mod (.nm 0) (.ci 10)))]
noncomputable def law_bad_part_vs : Vs := [(Str.ofString "_law_part_here", .loc), (Str.ofString "_law_line", .loc), (Str.ofString "_law_cell_here", .loc), (Str.ofString "_law_at", .loc), (Str.ofString "_law_far", .loc), (Str.ofString "_law_some", .loc)]
noncomputable def law_bad_part_b : List St :=
   [.asg 3 (.bin .Add (.ci 1) (.bin .Mod (.bin .FloorDiv (.nm 2) (.ci 16)) (.bin .Sub (.call "len" [(.nm 0)]) (.ci 1)))),
    .asg 4 (.sub (.lst [(.nm 1), (.bin .Add (.nm 1) (.bin .Mod (.bin .FloorDiv (.nm 2) (.ci 64)) (.ci 5))), (.bin .Sub (.una .USub (.ci 1)) (.bin .Mod (.bin .FloorDiv (.nm 2) (.ci 64)) (.ci 5))), (.cb true), .cn, (.cs "0"), (.lst [(.ci 0)])]) (.bin .Mod (.bin .FloorDiv (.nm 2) (.ci 256)) (.ci 7))),
    .asg 5 (.lst [(.call "list" [(.nm 0)]), (.sli (.nm 0) .cn (.una .USub (.ci 1)) .cn), (.bin .Add (.nm 0) (.tup [(.ci 0)])), (.bin .Add (.bin .Add (.sli (.nm 0) .cn (.nm 3) .cn) (.tup [(.nm 4)])) (.sli (.nm 0) (.bin .Add (.nm 3) (.ci 1)) .cn .cn)), (.bin .Add (.tup [(.bin .Add (.sub (.nm 0) (.ci 0)) (.cs "s"))]) (.sli (.nm 0) (.ci 1) .cn .cn))]),
    .asg 5 (.bin .Add (.nm 5) (.lst [.cn, (.tup []), (.tup [(.sub (.nm 0) (.ci 0))]), (.bin .Add (.tup [(.ci 0)]) (.sli (.nm 0) (.ci 1) .cn .cn)), (.tup [(.lst [(.cs "sum")]), (.ci 0), (.ci 0)]), (.sub (.nm 0) (.ci 0))])),
    .ret (.sub (.bin .Add (.nm 5) (.bin .Mult (.lst [(.sub (.nm 5) (.ci 3))]) (.ci 5))) (.bin .Mod (.nm 2) (.ci 16)))]

structure Se (H : MH) (p : V) : Prop where
  lst : ∀ a items, p = .ref a → H a = some (.lst items) → items.length ≤ 100 ∧ ∀ x ∈ items, ∀ m, x = .tup m → m.length ≤ 100
  fro : ∀ a items, p = .ref a → H a ≠ some (.fro items)
theorem Se.of {H : MH} {p : V} (h : ∀ a, p ≠ .ref a) : Se H p := ⟨fun a _ e => (h a e).elim, fun a _ e => (h a e).elim⟩
theorem Sm.of {H : MH} {l : List V} (h : l.length ≤ 100) (s : ∀ p ∈ l, Se H p) : Sm H l := ⟨h, fun p hp a items => (s p hp).lst a items, fun p hp a items => (s p hp).fro a items⟩
structure GO (bound : Int) (H : MH) (x : V) : Prop where
  ex : ∃ dv, VD H x dv ∧ dv.canLay0 = true ∧ ∀ lo hi, 1 ≤ lo → hi < bound → amD dv lo hi = false
  se : Se H x
noncomputable def GF (L : Int) (H : MH) (x : V) : Prop := ∃ dv, VD H x dv ∧ dv.canLay0 = true ∧ amD dv 0 (L - 1) = false
structure GB (L : Int) (H : MH) (x : V) : Prop where
  ex : ∃ dv, VD H x dv ∧ dv.canLay0 = true ∧ isP dv L = false
  len : ∀ l, x = .tup l → l.length ≤ 100

section
variable {C : Cx} {d : Md} {H : MH} {Q : V → MH → Prop} {X : XP} {n : Nat}

theorem sub_pick {a : Addr} {l : List V} {i : Int} (h : itemsOf H (.ref a) = some l) (hl : l.length ≤ sizeLine) (h0 : 0 ≤ i) (h1 : i < l.length) (q : ∀ x ∈ l, Q x H) : SubW C d (.ref a) (.int i) H Q X := by
  obtain ⟨k, rfl⟩ := Int.eq_ofNat_of_zero_le h0
  have hk : k < l.length := by omega
  exact sub_listn h hl (List.getElem?_eq_getElem hk) (q _ (List.getElem_mem hk))
theorem amD_lt {x lo hi : Int} (h : x < lo) : amD (.int x) lo hi = false := by
  show (decide (lo ≤ x) && decide (x ≤ hi)) = false
  rw [decide_eq_false (by omega)]; rfl
theorem amD_gt {x lo hi : Int} (h : hi < x) : amD (.int x) lo hi = false := by
  show (decide (lo ≤ x) && decide (x ≤ hi)) = false
  rw [decide_eq_false (show ¬ x ≤ hi by omega), Bool.and_false]
theorem strOk_2 : PyData.canLay0 (.str (Str.ofString "2")) = true := by decide +kernel
theorem strOk_0 : PyData.canLay0 (.str (Str.ofString "0")) = true := by decide +kernel

theorem odd_ct {c bound : Int} (G : C.Good) (S : Std C) (D : Def C "_law_odd" law_odd_vs 2 law_odd_b) (hc : 0 ≤ c) (hb : 6 ≤ bound) (hb2 : bound ≤ 7) (K : ∀ v H', Ext H H' → GO bound H' v → Q v H') : CallW C ⟨n + 1, true⟩ "_law_odd" [.int c, .int bound] H Q X := by
  have hz : 1000 < sizeLine := by decide
  refine D.call G rfl ?_
  unfold law_odd_b
  have r0 : 0 ≤ c / 16 % 9 := Int.emod_nonneg _ (by decide)
  (with_reducible (refine SS_ret ?_; refine E_sub ?_; refine E_lst ?_; refine Es_cons ?_; refine E_ci ?_; refine Es_cons ?_; refine E_nm (by with_unfolding_all rfl) ?_; refine Es_cons ?_; refine E_bin ?_; refine E_nm (by with_unfolding_all rfl) ?_; refine E_bin ?_; refine E_bin ?_; refine E_nm (by with_unfolding_all rfl) ?_; refine E_ci ?_))
  refine bin_divp (by decide) (by decide) ?_
  (with_reducible (refine E_ci ?_))
  refine bin_modp (by decide) ?_
  (with_reducible (refine bin_add ?_; refine Es_cons ?_; refine E_bin ?_; refine E_una ?_; refine E_ci ?_; refine una_neg ?_; refine E_bin ?_; refine E_bin ?_; refine E_nm (by with_unfolding_all rfl) ?_; refine E_ci ?_))
  refine bin_divp (by decide) (by decide) ?_
  (with_reducible (refine E_ci ?_))
  refine bin_modp (by decide) ?_
  (with_reducible (refine bin_sub ?_; refine Es_cons ?_; refine E_cb ?_; refine Es_cons ?_; refine E_cb ?_; refine Es_cons ?_; refine E_cn ?_; refine Es_cons ?_; refine E_cs ?_; refine Es_cons ?_; refine E_lst ?_; refine Es_cons ?_; refine E_ci ?_; refine Es_nil ?_))
  refine ⟨by decide, fun a ha => ?_⟩
  (with_reducible (refine Es_cons ?_; refine E_bin ?_; refine E_ci ?_; refine E_ci ?_))
  refine bin_pow (by decide) (by decide) (by decide) ?_
  (with_reducible (refine Es_nil ?_))
  refine ⟨by simp; omega, fun b hb' => ?_⟩
  (with_reducible (refine E_bin ?_; refine E_nm (by with_unfolding_all rfl) ?_; refine E_ci ?_))
  refine bin_modp (by decide) ?_
  refine sub_pick items_new (by simp; omega) (Int.emod_nonneg _ (by decide)) (by simp; exact Int.emod_lt_of_pos _ (by decide)) fun x hx => ?_
  refine K x _ (((Ext.refl H).more ha).more hb') ?_
  have ea : upd (upd H a (.lst [V.int 2])) b (.lst [.int 0, .int bound, .int (bound + c / 16 % 9), .int (-1 - c / 16 % 9), .bool true, .bool false, .none, .str (Str.ofString "2"), .ref a, .int (10 ^ (20 : Int).toNat)]) a = some (.lst [V.int 2]) := Ext.new hb' _ _ (upd_self ..)
  simp only [List.mem_cons, List.not_mem_nil, or_false] at hx
  rcases hx with rfl | rfl | rfl | rfl | rfl | rfl | rfl | rfl | rfl | rfl
  · exact ⟨⟨_, .int _, rfl, fun lo hi h1 h2 => amD_lt (by omega)⟩, .of fun a e => by cases e⟩
  · exact ⟨⟨_, .int _, rfl, fun lo hi h1 h2 => amD_gt (by omega)⟩, .of fun a e => by cases e⟩
  · exact ⟨⟨_, .int _, rfl, fun lo hi h1 h2 => amD_gt (by omega)⟩, .of fun a e => by cases e⟩
  · exact ⟨⟨_, .int _, rfl, fun lo hi h1 h2 => amD_lt (by omega)⟩, .of fun a e => by cases e⟩
  · exact ⟨⟨_, .bool _, rfl, fun lo hi h1 h2 => rfl⟩, .of fun a e => by cases e⟩
  · exact ⟨⟨_, .bool _, rfl, fun lo hi h1 h2 => rfl⟩, .of fun a e => by cases e⟩
  · exact ⟨⟨_, .none, rfl, fun lo hi h1 h2 => rfl⟩, .of fun a e => by cases e⟩
  · exact ⟨⟨_, .str _, strOk_2, fun lo hi h1 h2 => rfl⟩, .of fun a e => by cases e⟩
  · refine ⟨⟨_, .lst ea (.cons (.int 2) .nil), rfl, fun lo hi h1 h2 => rfl⟩, fun a' items e h => ?_, fun a' items e h => ?_⟩
    · cases e; rw [ea] at h; cases h; exact ⟨by simp, fun x hx m e => by simp at hx; subst hx; cases e⟩
    · cases e; rw [ea] at h; cases h
  · refine ⟨⟨_, .int _, rfl, fun lo hi h1 h2 => amD_gt ?_⟩, .of fun a e => by cases e⟩
    have : (10 : Int) ^ (20 : Int).toNat = 100000000000000000000 := by decide
    omega

theorem VDs.take {H : MH} : ∀ {l : List V} {ds : List PyData} (k : Nat), VDs H l ds → VDs H (l.take k) (ds.take k)
  | _, _, 0, _ => by simpa using VDs.nil
  | _, _, _ + 1, .nil => by simpa using VDs.nil
  | _, _, k + 1, .cons y ys => by simpa using VDs.cons y (VDs.take k ys)
theorem VDs.drop {H : MH} : ∀ {l : List V} {ds : List PyData} (k : Nat), VDs H l ds → VDs H (l.drop k) (ds.drop k)
  | _, _, 0, y => by simpa using y
  | _, _, _ + 1, .nil => by simpa using VDs.nil
  | _, _, k + 1, .cons y ys => by simpa using VDs.drop k ys
theorem VDs.append {H : MH} : ∀ {l m : List V} {ds es : List PyData}, VDs H l ds → VDs H m es → VDs H (l ++ m) (ds ++ es)
  | _, _, _, _, .nil, z => z
  | _, _, _, _, .cons y ys, z => .cons y (VDs.append ys z)
theorem layAll_append : ∀ {l m : List PyData}, PyData.canLayAll0 l = true → PyData.canLayAll0 m = true → PyData.canLayAll0 (l ++ m) = true
  | [], _, _, h => h
  | x :: l, m, h, h' => by simp only [PyData.canLayAll0, Bool.and_eq_true, List.cons_append] at h ⊢; exact ⟨h.1, layAll_append h.2 h'⟩
theorem layAll_take : ∀ {l : List PyData} (k : Nat), PyData.canLayAll0 l = true → PyData.canLayAll0 (l.take k) = true
  | _, 0, _ => by simp [PyData.canLayAll0]
  | [], _ + 1, _ => by simp [PyData.canLayAll0]
  | x :: l, k + 1, h => by simp only [PyData.canLayAll0, Bool.and_eq_true, List.take_succ_cons] at h ⊢; exact ⟨h.1, layAll_take k h.2⟩
theorem layAll_drop : ∀ {l : List PyData} (k : Nat), PyData.canLayAll0 l = true → PyData.canLayAll0 (l.drop k) = true
  | _, 0, h => by simpa using h
  | [], _ + 1, _ => by simp [PyData.canLayAll0]
  | x :: l, k + 1, h => by simp only [PyData.canLayAll0, Bool.and_eq_true] at h; simpa using layAll_drop k h.2
theorem lay_tup {l : List PyData} (h : PyData.canLayAll0 l = true) : (PyData.tuple l).canLay0 = true := by rw [PyData.canLay0]; exact h
theorem lay_lst {l : List PyData} (h : PyData.canLayAll0 l = true) : (PyData.list l).canLay0 = true := by rw [PyData.canLay0]; exact h

theorem adj_to {t n : Nat} (h : t ≤ n) : Builtin.Slice.sliceAdjust none (some (t : Int)) 1 (n : Int) = (((0 : Nat) : Int), ((t : Nat) : Int)) := by
  unfold Builtin.Slice.sliceAdjust
  simp only [show ¬ ((1 : Int) < 0) by omega, show ¬ ((t : Int) < 0) by omega, if_false]
  congr 1
  omega
theorem adj_neg1 {n : Nat} (h : 1 ≤ n) : Builtin.Slice.sliceAdjust none (some (-1)) 1 (n : Int) = (((0 : Nat) : Int), ((n - 1 : Nat) : Int)) := by
  unfold Builtin.Slice.sliceAdjust
  simp only [show ¬ ((1 : Int) < 0) by omega, show ((-1 : Int) < 0) by omega, if_false, if_true]
  congr 1
  omega
theorem adj_from {t n : Nat} (h : t ≤ n) : Builtin.Slice.sliceAdjust (some (t : Int)) none 1 (n : Int) = (((t : Nat) : Int), ((n : Nat) : Int)) := by
  unfold Builtin.Slice.sliceAdjust
  simp only [show ¬ ((1 : Int) < 0) by omega, show ¬ ((t : Int) < 0) by omega, if_false]
  congr 1
  omega

theorem isP_len {s : Str} {r : List PyData} {L : Int} (h : ((r.length : Nat) : Int) ≠ linesOf s) : isP (.tuple (.str s :: r)) L = false := by
  show (decide (1 ≤ r.length) && (((r.length : Nat) : Int) == linesOf s) && r.all (fun x => amD x 0 (L - 1))) = false
  rw [beq_eq_false_iff_ne.mpr h, Bool.and_false, Bool.false_and]
theorem isP_bad {s : Str} {r : List PyData} {L : Int} {k : Nat} {x : PyData} (hk : r[k]? = some x) (h : amD x 0 (L - 1) = false) : isP (.tuple (.str s :: r)) L = false := by
  show (decide (1 ≤ r.length) && (((r.length : Nat) : Int) == linesOf s) && r.all (fun x => amD x 0 (L - 1))) = false
  have : r.all (fun x => amD x 0 (L - 1)) = false := by
    rw [List.all_eq_false]
    exact ⟨x, List.mem_of_getElem? hk, by rw [h]; decide⟩
  rw [this, Bool.and_false]
theorem linesOf_name (w : Wd) : linesOf (Str.ofString w.name) = w.ar := by cases w <;> decide +kernel
theorem linesOf_s (w : Wd) : linesOf (Str.ofString w.name ++ Str.ofString "s") = 0 := by cases w <;> decide +kernel
theorem name_lay (w : Wd) : (PyData.str (Str.ofString w.name)).canLay0 = true := by cases w <;> decide +kernel
theorem name_lay_s (w : Wd) : (PyData.str (Str.ofString w.name ++ Str.ofString "s")).canLay0 = true := by cases w <;> decide +kernel
theorem name_len (w : Wd) : (Str.ofString w.name).length + (Str.ofString "s").length ≤ 100 := by cases w <;> decide +kernel
theorem lay_nats' : ∀ ls : List Nat, PyData.canLayAll0 (ls.map fun (l : Nat) => PyData.int l) = true
  | [] => rfl
  | _ :: ls => by simp only [List.map_cons, PyData.canLayAll0, PyData.canLay0, Bool.true_and]; exact lay_nats' ls
theorem vds_nats' {H : MH} : ∀ ls : List Nat, VDs H (ls.map fun (l : Nat) => V.int l) (ls.map fun (l : Nat) => PyData.int l)
  | [] => .nil
  | _ :: ls => .cons (.int _) (vds_nats' ls)
end
end Vc
end

section
set_option autoImplicit false
set_option linter.unusedVariables false
namespace Vc
open PySem PyProof.Rows

section
variable {C : Cx} {d : Md} {H : MH} {Q : V → MH → Prop} {X : XP} {n : Nat}

theorem bad_ct {p : Pt} {L c : Int} (G : C.Good) (S : Std C) (D : Def C "_law_bad_part" law_bad_part_vs 3 law_bad_part_b) (hp : p.ok L.toNat) (hL : 1 ≤ L) (hc : 0 ≤ c) (K : ∀ v H', Ext H H' → GB L H' v → Q v H') :
    CallW C ⟨n + 1, true⟩ "_law_bad_part" [p.v, .int L, .int c] H Q X := by
  have hz : 1000 < sizeLine := by decide
  obtain ⟨w, ls⟩ := p
  obtain ⟨h1, h2⟩ := hp
  dsimp only at h1 h2
  have har1 : 1 ≤ w.ar := by cases w <;> decide
  have har3 : w.ar ≤ 3 := by cases w <;> decide
  refine D.call G rfl ?_
  unfold law_bad_part_b
  show wpSs C _ _ ([V.tup (.str (Str.ofString w.name) :: ls.map fun (l : Nat) => V.int l), V.int L, V.int c].map some ++ _) H _ _
  generalize hpl : (V.str (Str.ofString w.name) :: ls.map fun (l : Nat) => V.int l) = pl
  have hlen : pl.length = w.ar + 1 := by rw [← hpl]; simp [h1]
  have hdat : ∀ H', VDs H' pl (.str (Str.ofString w.name) :: ls.map fun (l : Nat) => PyData.int l) := fun H' => by rw [← hpl]; exact .cons (.str _) (vds_nats' ls)
  generalize hpd : (PyData.str (Str.ofString w.name) :: ls.map fun (l : Nat) => PyData.int l) = pd at hdat
  have hlay : PyData.canLayAll0 pd = true := by rw [← hpd]; simp only [PyData.canLayAll0, name_lay, Bool.true_and]; exact lay_nats' ls
  have hdlen : pd.length = w.ar + 1 := by rw [← hpd]; simp [h1]
  have hnr : ∀ x ∈ pl, ∀ a, x ≠ .ref a := by
    rw [← hpl]
    intro x hx a e
    simp only [List.mem_cons, List.mem_map] at hx
    rcases hx with rfl | ⟨l, _, rfl⟩ <;> cases e
  (with_reducible (refine SS_asg ?_; refine E_bin ?_; refine E_ci ?_; refine E_bin ?_; refine E_bin ?_; refine E_nm (by with_unfolding_all rfl) ?_; refine E_ci ?_))
  refine bin_divp (by decide) (by decide) ?_
  (with_reducible (refine E_bin ?_; refine E_call (Std.n_len (by assumption)) callee_builtin ?_; refine Es_cons ?_; refine E_nm (by with_unfolding_all rfl) ?_; refine Es_nil ?_))
  refine cv_len_tup (by omega) ?_
  (with_reducible (refine E_ci ?_; refine bin_sub ?_))
  refine bin_modp (by omega) ?_
  obtain ⟨T, hT⟩ : ∃ T : Nat, (1 : Int) + c / 16 % ((pl.length : Int) - 1) = (T : Int) := by
    have := Int.emod_nonneg (c / 16) (show ((pl.length : Int) - 1) ≠ 0 by omega)
    exact ⟨(1 + c / 16 % ((pl.length : Int) - 1)).toNat, by omega⟩
  have hT1 : 1 ≤ T := by
    have := Int.emod_nonneg (c / 16) (show ((pl.length : Int) - 1) ≠ 0 by omega)
    omega
  have hT2 : T ≤ w.ar := by
    have := Int.emod_lt_of_pos (c / 16) (show 0 < ((pl.length : Int) - 1) by omega)
    omega
  (with_reducible (refine bin_add ?_; refine SS_asg ?_; refine E_sub ?_; refine E_lst ?_; refine Es_cons ?_; refine E_nm (by with_unfolding_all rfl) ?_; refine Es_cons ?_; refine E_bin ?_; refine E_nm (by with_unfolding_all rfl) ?_; refine E_bin ?_; refine E_bin ?_; refine E_nm (by with_unfolding_all rfl) ?_; refine E_ci ?_))
  rw [hT]
  have r0 : 0 ≤ c / 64 % 5 := Int.emod_nonneg _ (by decide)
  refine bin_divp (by decide) (by decide) ?_
  (with_reducible (refine E_ci ?_))
  refine bin_modp (by decide) ?_
  (with_reducible (refine bin_add ?_; refine Es_cons ?_; refine E_bin ?_; refine E_una ?_; refine E_ci ?_; refine una_neg ?_; refine E_bin ?_; refine E_bin ?_; refine E_nm (by with_unfolding_all rfl) ?_; refine E_ci ?_))
  refine bin_divp (by decide) (by decide) ?_
  (with_reducible (refine E_ci ?_))
  refine bin_modp (by decide) ?_
  (with_reducible (refine bin_sub ?_; refine Es_cons ?_; refine E_cb ?_; refine Es_cons ?_; refine E_cn ?_; refine Es_cons ?_; refine E_cs ?_; refine Es_cons ?_; refine E_lst ?_; refine Es_cons ?_; refine E_ci ?_; refine Es_nil ?_))
  refine ⟨by decide, fun a0 ha0 => ?_⟩
  (with_reducible (refine Es_nil ?_))
  refine ⟨by simp; omega, fun a1 ha1 => ?_⟩
  (with_reducible (refine E_bin ?_; refine E_bin ?_; refine E_nm (by with_unfolding_all rfl) ?_; refine E_ci ?_))
  refine bin_divp (by decide) (by decide) ?_
  (with_reducible (refine E_ci ?_))
  refine bin_modp (by decide) ?_
  have ea0 : upd (upd H a0 (.lst [V.int 0])) a1 (.lst [.int L, .int (L + c / 64 % 5), .int (-1 - c / 64 % 5), .bool true, .none, .str (Str.ofString "0"), .ref a0]) a0 = some (.lst [V.int 0]) := Ext.new ha1 _ _ (upd_self ..)
  refine sub_pick items_new (by simp; omega) (Int.emod_nonneg _ (by decide)) (by simp; exact Int.emod_lt_of_pos _ (by decide)) fun fv hfv => ?_
  have gf : GF L (upd (upd H a0 (.lst [V.int 0])) a1 (.lst [.int L, .int (L + c / 64 % 5), .int (-1 - c / 64 % 5), .bool true, .none, .str (Str.ofString "0"), .ref a0])) fv := by
    simp only [List.mem_cons, List.not_mem_nil, or_false] at hfv
    rcases hfv with rfl | rfl | rfl | rfl | rfl | rfl | rfl
    · exact ⟨_, .int _, rfl, amD_gt (by omega)⟩
    · exact ⟨_, .int _, rfl, amD_gt (by omega)⟩
    · exact ⟨_, .int _, rfl, amD_lt (by omega)⟩
    · exact ⟨_, .bool _, rfl, rfl⟩
    · exact ⟨_, .none, rfl, rfl⟩
    · exact ⟨_, .str _, strOk_0, rfl⟩
    · exact ⟨_, .lst ea0 (.cons (.int 0) .nil), rfl, rfl⟩
  clear hfv ea0
  have x1 : Ext H (upd (upd H a0 (.lst [V.int 0])) a1 (.lst [.int L, .int (L + c / 64 % 5), .int (-1 - c / 64 % 5), .bool true, .none, .str (Str.ofString "0"), .ref a0])) := ((Ext.refl H).more ha0).more ha1
  generalize upd (upd H a0 (.lst [V.int 0])) a1 (.lst [.int L, .int (L + c / 64 % 5), .int (-1 - c / 64 % 5), .bool true, .none, .str (Str.ofString "0"), .ref a0]) = H1 at gf x1 ⊢
  obtain ⟨fd, hfd, hfl, hfa⟩ := gf
  (with_reducible (refine SS_asg ?_; refine E_lst ?_; refine Es_cons ?_; refine E_call (Std.n_list (by assumption)) callee_type ?_; refine Es_cons ?_; refine E_nm (by with_unfolding_all rfl) ?_; refine Es_nil ?_))
  have hp0 : pl[0]? = some (.str (Str.ofString w.name)) := by rw [← hpl]; rfl
  have hs0 : seqIndex? 0 pl.length = some 0 := by rw [← hpl]; simp [seqIndex?]
  have hnl := name_len w
  refine cv_list (.inr ⟨_, rfl⟩) rfl (by omega) fun a2 ha2 => ?_
  have x2 : Ext H (upd H1 a2 (.lst pl)) := x1.more ha2
  have y2 : Ext H1 (upd H1 a2 (.lst pl)) := .new ha2
  have e2 : upd H1 a2 (.lst pl) a2 = some (.lst pl) := upd_self ..
  generalize upd H1 a2 (.lst pl) = H2 at x2 y2 e2 ⊢
  have hfd2 := hfd.ext y2
  (with_reducible (refine Es_cons ?_; refine E_sli ?_; refine E_nm (by with_unfolding_all rfl) ?_; refine E_cn ?_; refine E_una ?_; refine E_ci ?_; refine una_neg ?_; refine E_cn ?_))
  refine sli_tup (lo := none) (hi := some (-1)) (a := 0) (b := pl.length - 1) .none (.int _) (adj_neg1 (by omega)) (by omega) (by omega) ?_
  (with_reducible (refine Es_cons ?_; refine E_bin ?_; refine E_nm (by with_unfolding_all rfl) ?_; refine E_tup ?_; refine Es_cons ?_; refine E_ci ?_; refine Es_nil ?_))
  refine ⟨by decide, ?_⟩
  refine bin_tcat (by simp; omega) ?_
  (with_reducible (refine Es_cons ?_; refine E_bin ?_; refine E_bin ?_; refine E_sli ?_; refine E_nm (by with_unfolding_all rfl) ?_; refine E_cn ?_; refine E_nm (by with_unfolding_all rfl) ?_; refine E_cn ?_))
  refine sli_tup (lo := none) (hi := some (T : Int)) (a := 0) (b := T) .none (.int _) (adj_to (by omega)) (by omega) (by omega) ?_
  (with_reducible (refine E_tup ?_; refine Es_cons ?_; refine E_nm (by with_unfolding_all rfl) ?_; refine Es_nil ?_))
  refine ⟨by simp; omega, ?_⟩
  refine bin_tcat (by simp; omega) ?_
  (with_reducible (refine E_sli ?_; refine E_nm (by with_unfolding_all rfl) ?_; refine E_bin ?_; refine E_nm (by with_unfolding_all rfl) ?_; refine E_ci ?_; refine bin_add ?_; refine E_cn ?_; refine E_cn ?_))
  refine sli_tup (lo := some ((T + 1 : Nat) : Int)) (hi := none) (a := T + 1) (b := pl.length) (.int _) .none (adj_from (by omega)) (by omega) (by omega) ?_
  refine bin_tcat (by simp; omega) ?_
  (with_reducible (refine Es_cons ?_; refine E_bin ?_; refine E_tup ?_; refine Es_cons ?_; refine E_bin ?_; refine E_sub ?_; refine E_nm (by with_unfolding_all rfl) ?_; refine E_ci ?_))
  refine sub_tup (j := 0) hs0 (by omega) hp0 ?_
  (with_reducible (refine E_cs ?_))
  refine bin_str (by omega) ?_
  (with_reducible (refine Es_nil ?_))
  refine ⟨by simp; omega, ?_⟩
  (with_reducible (refine E_sli ?_; refine E_nm (by with_unfolding_all rfl) ?_; refine E_ci ?_; refine E_cn ?_; refine E_cn ?_))
  refine sli_tup (lo := some 1) (hi := none) (a := 1) (b := pl.length) (.int _) .none (adj_from1 (by omega)) (by omega) (by omega) ?_
  refine bin_tcat (by simp; omega) ?_
  (with_reducible (refine Es_nil ?_))
  rw [Nat.sub_zero, List.drop_zero, Nat.sub_zero]
  rw [show (pl.drop (T + 1)).take (pl.length - (T + 1)) = pl.drop (T + 1) from List.take_of_length_le (by simp), show (pl.drop 1).take (pl.length - 1) = pl.drop 1 from List.take_of_length_le (by simp)]
  have b1 : GB L H2 (.tup (pl.take (pl.length - 1))) := by
    refine ⟨⟨_, .tup ((hdat H2).take _), lay_tup (layAll_take _ hlay), ?_⟩, fun l e => by cases e; simp; omega⟩
    rw [← hpd, show pl.length - 1 = (w.ar - 1) + 1 by omega, List.take_succ_cons]
    exact isP_len (by rw [linesOf_name]; simp [h1]; omega)
  have b2 : GB L H2 (.tup (pl ++ [V.int 0])) := by
    refine ⟨⟨_, .tup ((hdat H2).append (.cons (.int 0) .nil)), lay_tup (layAll_append hlay rfl), ?_⟩, fun l e => by cases e; simp; omega⟩
    rw [← hpd, List.cons_append]
    exact isP_len (by rw [linesOf_name]; simp [h1]; omega)
  have b3 : GB L H2 (.tup (pl.take T ++ [fv] ++ pl.drop (T + 1))) := by
    refine ⟨⟨_, .tup ((((hdat H2).take T).append (.cons hfd2 .nil)).append ((hdat H2).drop (T + 1))), lay_tup (layAll_append (layAll_append (layAll_take _ hlay) (by simp only [PyData.canLayAll0, hfl, Bool.true_and])) (layAll_drop _ hlay)), ?_⟩, fun l e => by cases e; simp; omega⟩
    rw [← hpd, show T = (T - 1) + 1 by omega, List.take_succ_cons, List.cons_append, List.cons_append]
    refine isP_bad (k := T - 1) (x := fd) ?_ hfa
    rw [List.append_assoc, List.getElem?_append_right (by simp; omega)]
    simp [h1, show T - 1 ≤ w.ar by omega, show min (T - 1) w.ar = T - 1 by omega]
  have b4 : GB L H2 (.tup ([V.str (Str.ofString w.name ++ Str.ofString "s")] ++ pl.drop 1)) := by
    refine ⟨⟨_, .tup ((VDs.cons (.str _) .nil).append ((hdat H2).drop 1)), lay_tup (layAll_append (by simp only [PyData.canLayAll0, name_lay_s, Bool.true_and]) (layAll_drop _ hlay)), ?_⟩, fun l e => by cases e; simp; omega⟩
    rw [← hpd]
    exact isP_len (by rw [linesOf_s]; simp [h1]; omega)
  have b0 : GB L H2 (.ref a2) := ⟨⟨_, .lst e2 (hdat H2), lay_lst hlay, rfl⟩, fun l e => by cases e⟩
  generalize V.tup (pl.take (pl.length - 1)) = v1 at b1 ⊢
  generalize V.tup (pl ++ [V.int 0]) = v2 at b2 ⊢
  generalize V.tup (pl.take T ++ [fv] ++ pl.drop (T + 1)) = v3 at b3 ⊢
  generalize V.tup ([V.str (Str.ofString w.name ++ Str.ofString "s")] ++ pl.drop 1) = v4 at b4 ⊢
  refine ⟨by simp; omega, fun a3 ha3 => ?_⟩
  have x3 : Ext H2 (upd H2 a3 (.lst [.ref a2, v1, v2, v3, v4])) := .new ha3
  have e3 : upd H2 a3 (.lst [.ref a2, v1, v2, v3, v4]) a3 = some (.lst [.ref a2, v1, v2, v3, v4]) := upd_self ..
  generalize upd H2 a3 (.lst [.ref a2, v1, v2, v3, v4]) = H3 at x3 e3 ⊢
  (with_reducible (refine SS_asg ?_; refine E_bin ?_; refine E_nm (by with_unfolding_all rfl) ?_; refine E_lst ?_; refine Es_cons ?_; refine E_cn ?_; refine Es_cons ?_; refine E_tup ?_; refine Es_nil ?_))
  refine ⟨by decide, ?_⟩
  (with_reducible (refine Es_cons ?_; refine E_tup ?_; refine Es_cons ?_; refine E_sub ?_; refine E_nm (by with_unfolding_all rfl) ?_; refine E_ci ?_))
  refine sub_tup (j := 0) hs0 (by omega) hp0 ?_
  (with_reducible (refine Es_nil ?_))
  refine ⟨by simp; omega, ?_⟩
  (with_reducible (refine Es_cons ?_; refine E_bin ?_; refine E_tup ?_; refine Es_cons ?_; refine E_ci ?_; refine Es_nil ?_))
  refine ⟨by decide, ?_⟩
  (with_reducible (refine E_sli ?_; refine E_nm (by with_unfolding_all rfl) ?_; refine E_ci ?_; refine E_cn ?_; refine E_cn ?_))
  refine sli_tup (lo := some 1) (hi := none) (a := 1) (b := pl.length) (.int _) .none (adj_from1 (by omega)) (by omega) (by omega) ?_
  refine bin_tcat (by simp; omega) ?_
  (with_reducible (refine Es_cons ?_; refine E_tup ?_; refine Es_cons ?_; refine E_lst ?_; refine Es_cons ?_; refine E_cs ?_; refine Es_nil ?_))
  refine ⟨by decide, fun a4 ha4 => ?_⟩
  have x4 : Ext H3 (upd H3 a4 (.lst [V.str (Str.ofString "sum")])) := .new ha4
  have e4 : upd H3 a4 (.lst [V.str (Str.ofString "sum")]) a4 = some (.lst [V.str (Str.ofString "sum")]) := upd_self ..
  generalize upd H3 a4 (.lst [V.str (Str.ofString "sum")]) = H4 at x4 e4 ⊢
  (with_reducible (refine Es_cons ?_; refine E_ci ?_; refine Es_cons ?_; refine E_ci ?_; refine Es_nil ?_))
  refine ⟨by simp; omega, ?_⟩
  (with_reducible (refine Es_cons ?_; refine E_sub ?_; refine E_nm (by with_unfolding_all rfl) ?_; refine E_ci ?_))
  refine sub_tup (j := 0) hs0 (by omega) hp0 ?_
  (with_reducible (refine Es_nil ?_))
  rw [show (pl.drop 1).take (pl.length - 1) = pl.drop 1 from List.take_of_length_le (by simp)]
  have c7 : GB L H4 (.tup [V.str (Str.ofString w.name)]) := ⟨⟨_, .tup (.cons (.str _) .nil), lay_tup (by simp only [PyData.canLayAll0, name_lay, Bool.true_and]), rfl⟩, fun l e => by cases e; simp⟩
  have c8 : GB L H4 (.tup ([V.int 0] ++ pl.drop 1)) := ⟨⟨_, .tup ((VDs.cons (.int 0) .nil).append ((hdat H4).drop 1)), lay_tup (layAll_append rfl (layAll_drop _ hlay)), rfl⟩, fun l e => by cases e; simp; omega⟩
  have c9 : GB L H4 (.tup [V.ref a4, .int 0, .int 0]) := ⟨⟨_, .tup (.cons (.lst e4 (.cons (.str _) .nil)) (.cons (.int 0) (.cons (.int 0) .nil))), lay_tup (by decide +kernel), rfl⟩, fun l e => by cases e; simp⟩
  have c10 : GB L H4 (.str (Str.ofString w.name)) := ⟨⟨_, .str _, name_lay w, rfl⟩, fun l e => by cases e⟩
  have c5 : GB L H4 .none := ⟨⟨_, .none, rfl, rfl⟩, fun l e => by cases e⟩
  have c6 : GB L H4 (.tup []) := ⟨⟨_, .tup .nil, rfl, rfl⟩, fun l e => by cases e; simp⟩
  generalize V.tup ([V.int 0] ++ pl.drop 1) = v8 at c8 ⊢
  refine ⟨by simp; omega, fun a5 ha5 => ?_⟩
  refine bin_cat ((((Ext.refl H3).trans x4).more ha5).items (items_lst e3)) items_new (by simp; omega) fun a6 ha6 => ?_
  have x6 : Ext H4 (upd (upd H4 a5 (.lst [V.none, .tup [], .tup [.str (Str.ofString w.name)], v8, .tup [.ref a4, .int 0, .int 0], .str (Str.ofString w.name)])) a6 (.lst ([.ref a2, v1, v2, v3, v4] ++ [V.none, .tup [], .tup [.str (Str.ofString w.name)], v8, .tup [.ref a4, .int 0, .int 0], .str (Str.ofString w.name)]))) := (Ext.new ha5).more ha6
  have e6 : upd (upd H4 a5 (.lst [V.none, .tup [], .tup [.str (Str.ofString w.name)], v8, .tup [.ref a4, .int 0, .int 0], .str (Str.ofString w.name)])) a6 (.lst ([.ref a2, v1, v2, v3, v4] ++ [V.none, .tup [], .tup [.str (Str.ofString w.name)], v8, .tup [.ref a4, .int 0, .int 0], .str (Str.ofString w.name)])) a6 = some (.lst ([.ref a2, v1, v2, v3, v4] ++ [V.none, .tup [], .tup [.str (Str.ofString w.name)], v8, .tup [.ref a4, .int 0, .int 0], .str (Str.ofString w.name)])) := upd_self ..
  generalize upd (upd H4 a5 (.lst [V.none, .tup [], .tup [.str (Str.ofString w.name)], v8, .tup [.ref a4, .int 0, .int 0], .str (Str.ofString w.name)])) a6 (.lst ([.ref a2, v1, v2, v3, v4] ++ [V.none, .tup [], .tup [.str (Str.ofString w.name)], v8, .tup [.ref a4, .int 0, .int 0], .str (Str.ofString w.name)])) = H6 at x6 e6 ⊢
  (with_reducible (refine SS_ret ?_; refine E_sub ?_; refine E_bin ?_; refine E_nm (by with_unfolding_all rfl) ?_; refine E_bin ?_; refine E_lst ?_; refine Es_cons ?_; refine E_sub ?_; refine E_nm (by with_unfolding_all rfl) ?_; refine E_ci ?_))
  refine sub_listn (i := 3) (x := v3) (items_lst e6) (by simp; omega) rfl ?_
  (with_reducible (refine Es_nil ?_))
  refine ⟨by simp; omega, fun a7 ha7 => ?_⟩
  (with_reducible (refine E_ci ?_))
  refine bin_lmul (upd_self ..) (by simp) (by decide) (by decide) (by simp) fun a8 ha8 => ?_
  refine bin_cat ((((Ext.refl H6).more ha7).more ha8).items (items_lst e6)) items_new (by simp; omega) fun a9 ha9 => ?_
  (with_reducible (refine E_bin ?_; refine E_nm (by with_unfolding_all rfl) ?_; refine E_ci ?_))
  refine bin_modp (by decide) ?_
  have x9 := (((Ext.refl H6).more (o := .lst [v3]) ha7).more (o := .lst (List.replicate (5 : Int).toNat [v3]).flatten) ha8).more (o := .lst (([.ref a2, v1, v2, v3, v4] ++ [V.none, .tup [], .tup [.str (Str.ofString w.name)], v8, .tup [.ref a4, .int 0, .int 0], .str (Str.ofString w.name)]) ++ (List.replicate (5 : Int).toNat [v3]).flatten)) ha9
  refine sub_pick items_new (by simp; omega) (Int.emod_nonneg _ (by decide)) (by simp; exact Int.emod_lt_of_pos _ (by decide)) fun x hx => ?_
  have xf := x6.trans x9
  have x2f := (x3.trans x4).trans xf
  refine K x _ (x2.trans x2f) ?_
  have up : ∀ {Ha Hb : MH} {y : V}, Ext Ha Hb → GB L Ha y → GB L Hb y := fun e g => ⟨let ⟨dv, h1, h2, h3⟩ := g.ex; ⟨dv, h1.ext e, h2, h3⟩, g.len⟩
  have hx' : x = .ref a2 ∨ x = v1 ∨ x = v2 ∨ x = v3 ∨ x = v4 ∨ x = .none ∨ x = .tup [] ∨ x = .tup [.str (Str.ofString w.name)] ∨ x = v8 ∨ x = .tup [.ref a4, .int 0, .int 0] ∨ x = .str (Str.ofString w.name) := by
    simp only [List.mem_append, List.mem_cons, List.not_mem_nil, or_false, List.mem_flatten, List.mem_replicate] at hx
    rcases hx with (hx | hx) | ⟨l, ⟨_, rfl⟩, hx⟩
    · rcases hx with h | h | h | h | h <;> simp [h]
    · rcases hx with h | h | h | h | h | h <;> simp [h]
    · simp at hx; simp [hx]
  rcases hx' with rfl | rfl | rfl | rfl | rfl | rfl | rfl | rfl | rfl | rfl | rfl
  · exact up x2f b0
  · exact up x2f b1
  · exact up x2f b2
  · exact up x2f b3
  · exact up x2f b4
  · exact up xf c5
  · exact up xf c6
  · exact up xf c7
  · exact up xf c8
  · exact up xf c9
  · exact up xf c10
end
end Vc
end

section
set_option autoImplicit false
set_option linter.unusedVariables false
namespace Vc
open PySem PyProof.Rows

noncomputable def law_spoilt_vs : Vs := [(Str.ofString "_law_work_here", .loc), (Str.ofString "_law_kind", .loc), (Str.ofString "_law_cell_here", .loc), (Str.ofString "_law_ring", .loc), (Str.ofString "_law_inputs", .loc), (Str.ofString "_law_parts", .loc), (Str.ofString "_law_at", .loc)]
noncomputable def law_spoilt_b : List St :=
   [.unp [3, 4, 5] (.nm 0),
    .ife (.cmp .Eq (.nm 1) (.ci 0)) [.ret (.sub (.lst [(.call "list" [(.nm 0)]), (.sli (.nm 0) .cn (.ci 2) .cn), (.bin .Add (.nm 0) (.tup [(.ci 0)])), .cn, (.cs "work"), (.tup []), (.ci 5)]) (.bin .Mod (.nm 2) (.ci 7)))] [],
    .ife (.cmp .Eq (.nm 1) (.ci 1)) [.ret (.tup [(.sub (.lst [(.call "_law_odd" [(.nm 2), (.ci 6)]), (.ci 1)]) (.call "int" [(.cmp .Eq (.bin .Mod (.bin .FloorDiv (.nm 2) (.ci 10)) (.ci 11)) (.ci 3))])), (.nm 4), (.nm 5)])] [],
    .ife (.cmp .Eq (.nm 1) (.ci 2)) [.ret (.tup [(.nm 3), (.call "_law_odd" [(.nm 2), (.ci 7)]), (.nm 5)])] [],
    .ife (.cmp .Eq (.nm 1) (.ci 3)) [.ret (.tup [(.nm 3), (.nm 4), (.sub (.lst [(.call "tuple" [(.nm 5)]), (.lst []), .cn, (.bin .Mult (.sli (.nm 5) .cn (.ci 1) .cn) (.ci 11)), (.emp 0), (.cs "sum")]) (.bin .Mod (.nm 2) (.ci 6)))])] [],
    .asg 6 (.bin .Mod (.bin .FloorDiv (.nm 2) (.ci 7)) (.call "len" [(.nm 5)])),
    .ret (.tup [(.nm 3), (.nm 4), (.bin .Add (.bin .Add (.sli (.nm 5) .cn (.nm 6) .cn) (.lst [(.call "_law_bad_part" [(.sub (.nm 5) (.nm 6)), (.bin .Add (.nm 4) (.nm 6)), (.bin .FloorDiv (.nm 2) (.ci 70))])])) (.sli (.nm 5) (.bin .Add (.nm 6) (.ci 1)) .cn .cn))])]
section
variable {C : Cx} {d : Md} {H : MH} {Q : V → MH → Prop} {X : XP} {n : Nat}

noncomputable def ptd (p : Pt) : PyData := .tuple (.str (Str.ofString p.w.name) :: p.ls.map fun (l : Nat) => PyData.int l)
theorem ptd_vd {H : MH} (p : Pt) : VD H p.v (ptd p) := .tup (.cons (.str _) (vds_nats' _))
theorem ptd_lay (p : Pt) : (ptd p).canLay0 = true := lay_tup (by simp only [PyData.canLayAll0, name_lay, Bool.true_and]; exact lay_nats' _)
theorem ptds_vd {H : MH} : ∀ ps : List Pt, VDs H (ps.map Pt.v) (ps.map ptd)
  | [] => .nil
  | p :: ps => .cons (ptd_vd p) (ptds_vd ps)
theorem ptds_lay : ∀ ps : List Pt, PyData.canLayAll0 (ps.map ptd) = true
  | [] => rfl
  | p :: ps => by simp only [List.map_cons, PyData.canLayAll0, ptd_lay, Bool.true_and]; exact ptds_lay ps
theorem Pt.v_len {p : Pt} {k : Nat} (h : p.ok k) {m : List V} (e : p.v = .tup m) : m.length ≤ 100 := by
  unfold Pt.v at e; cases e
  have : p.w.ar ≤ 3 := by cases p.w <;> decide
  simp [h.1]; omega
theorem isP_pt {p : Pt} {k : Nat} (h : p.ok k) : isP (ptd p) k = true := by
  obtain ⟨w, ls⟩ := p
  obtain ⟨h1, h2⟩ := h
  have har1 : 1 ≤ w.ar := by cases w <;> decide
  show (decide (1 ≤ (ls.map fun (l : Nat) => PyData.int l).length) && ((((ls.map fun (l : Nat) => PyData.int l).length : Nat) : Int) == linesOf (Str.ofString w.name)) && (ls.map fun (l : Nat) => PyData.int l).all (fun x => amD x 0 (k - 1))) = true
  rw [linesOf_name, List.length_map]
  dsimp only at h1 h2
  rw [h1, decide_eq_true har1, beq_self_eq_true, Bool.true_and, Bool.true_and, List.all_eq_true]
  intro x hx
  obtain ⟨l, hl, rfl⟩ := List.mem_map.mp hx
  have := h2 l hl
  show (decide ((0 : Int) ≤ (l : Int)) && decide ((l : Int) ≤ k - 1)) = true
  rw [decide_eq_true (by omega), decide_eq_true (by omega)]; rfl

theorem work_wd {w : Wk} {pa : Addr} (hw : w.Ok 10) (hp : H pa = some (.lst (w.ps.map Pt.v))) : WD H (w.v pa) true := by
  have hd : VD H (w.v pa) (.tuple [.int w.ring, .int w.inp, .list (w.ps.map ptd)]) := .tup (.cons (.int _) (.cons (.int _) (.cons (.lst hp (ptds_vd _)) .nil)))
  have e : nw (.tuple [.int w.ring, .int w.inp, .list (w.ps.map ptd)]) = true := by
    have h1 := hw.r1; have h2 := hw.r2; have h3 := hw.i1; have h4 := hw.i2; have h5 := hw.p1; have h6 := hw.p2
    rw [nw_t, nw3_l]
    have a1 : amD (.int w.ring) 2 5 = true := by show (decide _ && decide _) = true; rw [decide_eq_true h1, decide_eq_true h2]; rfl
    have a2 : amD (.int w.inp) 1 6 = true := by show (decide _ && decide _) = true; rw [decide_eq_true (by omega), decide_eq_true (by omega)]; rfl
    rw [a1, a2, List.length_map, decide_eq_true h5, decide_eq_true h6, Bool.true_and, Bool.true_and, Bool.true_and]
    refine psOk_of fun k d hk => ?_
    rw [List.getElem?_map] at hk
    cases hq : w.ps[k]? with
    | none => rw [hq] at hk; cases hk
    | some p =>
      rw [hq] at hk; cases hk
      have := isP_pt (hw.pt k p hq)
      simpa [ivD] using this
  have := WD.data hd (lay_tup (by simp only [PyData.canLayAll0, PyData.canLay0, ptds_lay, Bool.true_and])) (fun l el => by
    cases el
    refine Sm.of (by simp) fun p hp' => ?_
    simp only [List.mem_cons, List.not_mem_nil, or_false] at hp'
    rcases hp' with rfl | rfl | rfl
    · exact .of fun a e => by cases e
    · exact .of fun a e => by cases e
    · refine ⟨fun a items e h => ?_, fun a items e h => ?_⟩
      · cases e; rw [hp] at h; cases h
        refine ⟨by have := hw.p2; simp; omega, fun x hx m em => ?_⟩
        obtain ⟨p, hpm, rfl⟩ := List.mem_map.mp hx
        obtain ⟨k, hk⟩ := List.mem_iff_getElem?.mp hpm
        exact p.v_len (hw.pt k p hk) em
      · cases e; rw [hp] at h; cases h)
  rw [e] at this
  exact this

theorem wd_of {v : V} {dv : PyData} (hv : VD H v dv) (hl : dv.canLay0 = true) (hs : ∀ l, v = .tup l → Sm H l) (e : nw dv = false) : WD H v false := e ▸ WD.data hv hl hs
theorem lay_work {w : Wk} : PyData.canLayAll0 [.int w.ring, .int w.inp, .list (w.ps.map ptd)] = true := by simp only [PyData.canLayAll0, PyData.canLay0, ptds_lay, Bool.true_and]
theorem se_pa {w : Wk} {pa : Addr} {most : Nat} (hw : w.Ok most) (hm : most ≤ 100) (hp : H pa = some (.lst (w.ps.map Pt.v))) : Se H (.ref pa) := by
  refine ⟨fun a items e h => ?_, fun a items e h => ?_⟩
  · cases e; rw [hp] at h; cases h
    refine ⟨by have := hw.p2; simp; omega, fun x hx m em => ?_⟩
    obtain ⟨p, hpm, rfl⟩ := List.mem_map.mp hx
    obtain ⟨k, hk⟩ := List.mem_iff_getElem?.mp hpm
    exact p.v_len (hw.pt k p hk) em
  · cases e; rw [hp] at h; cases h
theorem work_lay : (PyData.str (Str.ofString "work")).canLay0 = true := by decide +kernel

theorem spoilt0 {w : Wk} {pa : Addr} {c : Int} (G : C.Good) (S : Std C) (D : Def C "_law_spoilt" law_spoilt_vs 3 law_spoilt_b) (hw : w.Ok 10) (hp : H pa = some (.lst (w.ps.map Pt.v))) (hc : 0 ≤ c)
    (K : ∀ v H', Ext H H' → WD H' v false → Q v H') : CallW C ⟨n + 2, true⟩ "_law_spoilt" [w.v pa, .int 0, .int c] H Q X := by
  have hz : 1000 < sizeLine := by decide
  refine D.call G rfl ?_
  unfold law_spoilt_b
  rw [show w.v pa = .tup [.int w.ring, .int w.inp, .ref pa] from rfl]
  refine SS_unp ?_
  (with_reducible (refine E_nm (by with_unfolding_all rfl) ?_))
  refine ⟨_, rfl, ⟨.inl rfl, fun _ _ _ e => by cases e⟩, rfl, ?_⟩
  (with_reducible (refine SS_ife ?_; refine T_cmp ?_; refine E_cmp ?_; refine E_nm (by with_unfolding_all rfl) ?_; refine E_ci ?_; refine cmp_eq_int ?_; refine tru_bool ?_))
  rw [show ((0 : Int) == 0) = true from rfl]
  (with_reducible (refine if_t ?_; refine SS_app1 ?_; refine SS_ret ?_; refine E_sub ?_; refine E_lst ?_; refine Es_cons ?_; refine E_call (Std.n_list (by assumption)) callee_type ?_; refine Es_cons ?_; refine E_nm (by with_unfolding_all rfl) ?_; refine Es_nil ?_))
  refine cv_list (l := [.int w.ring, .int w.inp, .ref pa]) (.inr ⟨_, rfl⟩) rfl (by simp; omega) fun a1 ha1 => ?_
  have x1 : Ext H (upd H a1 (.lst [.int w.ring, .int w.inp, .ref pa])) := .new ha1
  have e1 : upd H a1 (.lst [V.int w.ring, .int w.inp, .ref pa]) a1 = some (.lst [V.int w.ring, .int w.inp, .ref pa]) := upd_self ..
  generalize upd H a1 (.lst [V.int w.ring, .int w.inp, .ref pa]) = H1 at x1 e1 ⊢
  have hp1 := x1 _ _ hp
  (with_reducible (refine Es_cons ?_; refine E_sli ?_; refine E_nm (by with_unfolding_all rfl) ?_; refine E_cn ?_; refine E_ci ?_; refine E_cn ?_))
  refine sli_tup (lo := none) (hi := some ((2 : Nat) : Int)) (a := 0) (b := 2) .none (.int _) (adj_to (by simp)) (by simp) (by simp; omega) ?_
  (with_reducible (refine Es_cons ?_; refine E_bin ?_; refine E_nm (by with_unfolding_all rfl) ?_; refine E_tup ?_; refine Es_cons ?_; refine E_ci ?_; refine Es_nil ?_))
  refine ⟨by decide, ?_⟩
  refine bin_tcat (by simp; omega) ?_
  (with_reducible (refine Es_cons ?_; refine E_cn ?_; refine Es_cons ?_; refine E_cs ?_; refine Es_cons ?_; refine E_tup ?_; refine Es_nil ?_))
  refine ⟨by decide, ?_⟩
  (with_reducible (refine Es_cons ?_; refine E_ci ?_; refine Es_nil ?_))
  refine ⟨by simp; omega, fun a2 ha2 => ?_⟩
  (with_reducible (refine E_bin ?_; refine E_nm (by with_unfolding_all rfl) ?_; refine E_ci ?_))
  refine bin_modp (by decide) ?_
  refine sub_pick items_new (by simp; omega) (Int.emod_nonneg _ (by decide)) (by simp; exact Int.emod_lt_of_pos _ (by decide)) fun x hx => ?_
  refine K x _ (x1.more ha2) (WD.ext (H := H1) ?_ (.new ha2))
  have hpd : VD H1 (.ref pa) (.list (w.ps.map ptd)) := .lst hp1 (ptds_vd _)
  have hwd : VDs H1 [.int w.ring, .int w.inp, .ref pa] [.int w.ring, .int w.inp, .list (w.ps.map ptd)] := .cons (.int _) (.cons (.int _) (.cons hpd .nil))
  have sp : ∀ p ∈ [V.int w.ring, .int w.inp, .ref pa], Se H1 p := fun p hp' => by
    simp only [List.mem_cons, List.not_mem_nil, or_false] at hp'
    rcases hp' with rfl | rfl | rfl
    · exact .of fun a e => by cases e
    · exact .of fun a e => by cases e
    · exact se_pa hw (by decide) hp1
  simp only [List.mem_cons, List.not_mem_nil, or_false] at hx
  rcases hx with rfl | rfl | rfl | rfl | rfl | rfl | rfl
  · exact wd_of (.lst e1 hwd) (lay_lst lay_work) (fun l e => by cases e) rfl
  · exact wd_of (dv := .tuple [.int w.ring, .int w.inp]) (.tup (.cons (.int _) (.cons (.int _) .nil))) rfl (fun l e => by cases e; exact .of (by simp) fun p hp' => sp p (by simp at hp' ⊢; rcases hp' with h | h <;> simp [h])) rfl
  · refine wd_of (dv := .tuple ([.int w.ring, .int w.inp, .list (w.ps.map ptd)] ++ [.int 0])) (.tup (hwd.append (.cons (.int 0) .nil))) (lay_tup (layAll_append lay_work rfl)) (fun l e => ?_) rfl
    cases e
    refine .of (by simp) fun p hp' => ?_
    rcases List.mem_append.mp hp' with h | h
    · exact sp p h
    · simp at h; subst h; exact .of fun a e => by cases e
  · exact wd_of .none rfl (fun l e => by cases e) rfl
  · exact wd_of (.str _) work_lay (fun l e => by cases e) rfl
  · exact wd_of (.tup .nil) rfl (fun l e => by cases e; exact .of (by simp) fun p hp' => by simp at hp') rfl
  · exact wd_of (.int _) rfl (fun l e => by cases e) rfl

theorem spoilt1 {w : Wk} {pa : Addr} {c : Int} (G : C.Good) (S : Std C) (Do : Def C "_law_odd" law_odd_vs 2 law_odd_b) (D : Def C "_law_spoilt" law_spoilt_vs 3 law_spoilt_b) (hw : w.Ok 10) (hp : H pa = some (.lst (w.ps.map Pt.v))) (hc : 0 ≤ c)
    (K : ∀ v H', Ext H H' → WD H' v false → Q v H') : CallW C ⟨n + 2, true⟩ "_law_spoilt" [w.v pa, .int 1, .int c] H Q X := by
  have hz : 1000 < sizeLine := by decide
  refine D.call G rfl ?_
  unfold law_spoilt_b
  rw [show w.v pa = .tup [.int w.ring, .int w.inp, .ref pa] from rfl]
  refine SS_unp ?_
  (with_reducible (refine E_nm (by with_unfolding_all rfl) ?_))
  refine ⟨_, rfl, ⟨.inl rfl, fun _ _ _ e => by cases e⟩, rfl, ?_⟩
  (with_reducible (refine SS_ife ?_; refine T_cmp ?_; refine E_cmp ?_; refine E_nm (by with_unfolding_all rfl) ?_; refine E_ci ?_; refine cmp_eq_int ?_; refine tru_bool ?_))
  rw [show ((1 : Int) == 0) = false from rfl]
  (with_reducible (refine if_f ?_; refine SS_app0 ?_; refine SS_ife ?_; refine T_cmp ?_; refine E_cmp ?_; refine E_nm (by with_unfolding_all rfl) ?_; refine E_ci ?_; refine cmp_eq_int ?_; refine tru_bool ?_))
  rw [show ((1 : Int) == 1) = true from rfl]
  (with_reducible (refine if_t ?_; refine SS_app1 ?_; refine SS_ret ?_; refine E_tup ?_; refine Es_cons ?_; refine E_sub ?_; refine E_lst ?_; refine Es_cons ?_))
  refine E_fn Do.fn ?_
  (with_reducible (refine Es_cons ?_; refine E_nm (by with_unfolding_all rfl) ?_; refine Es_cons ?_; refine E_ci ?_; refine Es_nil ?_))
  refine odd_ct (bound := 6) G S Do hc (by decide) (by decide) fun v H1 x1 g => ?_
  (with_reducible (refine Es_cons ?_; refine E_ci ?_; refine Es_nil ?_))
  refine ⟨by simp; omega, fun a1 ha1 => ?_⟩
  (with_reducible (refine E_call (Std.n_int (by assumption)) callee_type ?_; refine Es_cons ?_; refine E_cmp ?_; refine E_bin ?_; refine E_bin ?_; refine E_nm (by with_unfolding_all rfl) ?_; refine E_ci ?_))
  refine bin_divp (by decide) (by decide) ?_
  (with_reducible (refine E_ci ?_))
  refine bin_modp (by decide) ?_
  (with_reducible (refine E_ci ?_; refine cmp_eq_int ?_; refine Es_nil ?_))
  refine cv_int_bool ?_
  have hp1 := (x1.more (o := .lst [v, .int 1]) ha1) _ _ hp
  refine sub_pick items_new (by simp; omega) (by split <;> decide) (by simp; split <;> decide) fun x hx => ?_
  (with_reducible (refine Es_cons ?_; refine E_nm (by with_unfolding_all rfl) ?_; refine Es_cons ?_; refine E_nm (by with_unfolding_all rfl) ?_; refine Es_nil ?_))
  refine ⟨by simp; omega, ?_⟩
  refine K _ _ (x1.more ha1) ?_
  have hpd : VD (upd H1 a1 (.lst [v, .int 1])) (.ref pa) (.list (w.ps.map ptd)) := .lst hp1 (ptds_vd _)
  have fin : ∀ dr, VD (upd H1 a1 (.lst [v, .int 1])) x dr → dr.canLay0 = true → amD dr 2 5 = false → Se (upd H1 a1 (.lst [v, .int 1])) x → WD (upd H1 a1 (.lst [v, .int 1])) (.tup [x, .int w.inp, .ref pa]) false := fun dr h1 h2 h3 h4 => by
    refine wd_of (dv := .tuple [dr, .int w.inp, .list (w.ps.map ptd)]) (.tup (.cons h1 (.cons (.int _) (.cons hpd .nil)))) (lay_tup (by simp only [PyData.canLayAll0, h2, PyData.canLay0, ptds_lay, Bool.true_and])) (fun l e => ?_) (by rw [nw_t, h3]; rfl)
    cases e
    refine .of (by simp) fun p hp' => ?_
    simp only [List.mem_cons, List.not_mem_nil, or_false] at hp'
    rcases hp' with rfl | rfl | rfl
    · exact h4
    · exact .of fun a e => by cases e
    · exact se_pa hw (by decide) hp1
  simp only [List.mem_cons, List.not_mem_nil, or_false] at hx
  rcases hx with rfl | rfl
  · obtain ⟨dv, g1, g2, g3⟩ := g.ex
    refine fin dv (g1.ext (.new ha1)) g2 (g3 2 5 (by decide) (by decide)) ?_
    refine ⟨fun a items e h => ?_, fun a items e h => ?_⟩
    · subst e
      cases g1 with
      | lst e1 _ => have := (Ext.new (o := .lst [V.ref a, .int 1]) ha1) _ _ e1; rw [h] at this; cases this; exact g.se.lst a _ rfl e1
      | fro e1 _ => have := (Ext.new (o := .lst [V.ref a, .int 1]) ha1) _ _ e1; rw [h] at this; cases this
    · subst e
      cases g1 with
      | lst e1 _ => have := (Ext.new (o := .lst [V.ref a, .int 1]) ha1) _ _ e1; rw [h] at this; cases this
      | fro e1 _ => exact g.se.fro a _ rfl e1
  · exact fin (.int 1) (.int 1) rfl rfl (.of fun a e => by cases e)

theorem spoilt2 {w : Wk} {pa : Addr} {c : Int} (G : C.Good) (S : Std C) (Do : Def C "_law_odd" law_odd_vs 2 law_odd_b) (D : Def C "_law_spoilt" law_spoilt_vs 3 law_spoilt_b) (hw : w.Ok 10) (hp : H pa = some (.lst (w.ps.map Pt.v))) (hc : 0 ≤ c)
    (K : ∀ v H', Ext H H' → WD H' v false → Q v H') : CallW C ⟨n + 2, true⟩ "_law_spoilt" [w.v pa, .int 2, .int c] H Q X := by
  have hz : 1000 < sizeLine := by decide
  refine D.call G rfl ?_
  unfold law_spoilt_b
  rw [show w.v pa = .tup [.int w.ring, .int w.inp, .ref pa] from rfl]
  refine SS_unp ?_
  (with_reducible (refine E_nm (by with_unfolding_all rfl) ?_))
  refine ⟨_, rfl, ⟨.inl rfl, fun _ _ _ e => by cases e⟩, rfl, ?_⟩
  (with_reducible (refine SS_ife ?_; refine T_cmp ?_; refine E_cmp ?_; refine E_nm (by with_unfolding_all rfl) ?_; refine E_ci ?_; refine cmp_eq_int ?_; refine tru_bool ?_))
  rw [show ((2 : Int) == 0) = false from rfl]
  (with_reducible (refine if_f ?_; refine SS_app0 ?_; refine SS_ife ?_; refine T_cmp ?_; refine E_cmp ?_; refine E_nm (by with_unfolding_all rfl) ?_; refine E_ci ?_; refine cmp_eq_int ?_; refine tru_bool ?_))
  rw [show ((2 : Int) == 1) = false from rfl]
  (with_reducible (refine if_f ?_; refine SS_app0 ?_; refine SS_ife ?_; refine T_cmp ?_; refine E_cmp ?_; refine E_nm (by with_unfolding_all rfl) ?_; refine E_ci ?_; refine cmp_eq_int ?_; refine tru_bool ?_))
  rw [show ((2 : Int) == 2) = true from rfl]
  (with_reducible (refine if_t ?_; refine SS_app1 ?_; refine SS_ret ?_; refine E_tup ?_; refine Es_cons ?_; refine E_nm (by with_unfolding_all rfl) ?_; refine Es_cons ?_))
  refine E_fn Do.fn ?_
  (with_reducible (refine Es_cons ?_; refine E_nm (by with_unfolding_all rfl) ?_; refine Es_cons ?_; refine E_ci ?_; refine Es_nil ?_))
  refine odd_ct (bound := 7) G S Do hc (by decide) (by decide) fun v H1 x1 g => ?_
  (with_reducible (refine Es_cons ?_; refine E_nm (by with_unfolding_all rfl) ?_; refine Es_nil ?_))
  refine ⟨by simp; omega, ?_⟩
  refine K _ _ x1 ?_
  have hp1 := x1 _ _ hp
  have hpd : VD H1 (.ref pa) (.list (w.ps.map ptd)) := .lst hp1 (ptds_vd _)
  obtain ⟨dv, g1, g2, g3⟩ := g.ex
  refine wd_of (dv := .tuple [.int w.ring, dv, .list (w.ps.map ptd)]) (.tup (.cons (.int _) (.cons g1 (.cons hpd .nil)))) (lay_tup (by simp only [PyData.canLayAll0, g2, PyData.canLay0, ptds_lay, Bool.true_and])) (fun l e => ?_) (by rw [nw_t, g3 1 6 (by decide) (by decide), Bool.and_false]; rfl)
  cases e
  refine .of (by simp) fun p hp' => ?_
  simp only [List.mem_cons, List.not_mem_nil, or_false] at hp'
  rcases hp' with rfl | rfl | rfl
  · exact .of fun a e => by cases e
  · exact g.se
  · exact se_pa hw (by decide) hp1
end
end Vc
end

section
set_option autoImplicit false
set_option linter.unusedVariables false
namespace Vc
open PySem PyProof.Rows

section
variable {C : Cx} {d : Md} {H : MH} {Q : V → MH → Prop} {X : XP} {n : Nat}

theorem vds_rep {l : List V} {ds : List PyData} (h : VDs H l ds) : ∀ k : Nat, VDs H (List.replicate k l).flatten (List.replicate k ds).flatten
  | 0 => by simpa using VDs.nil
  | k + 1 => by rw [List.replicate_succ, List.replicate_succ, List.flatten_cons, List.flatten_cons]; exact h.append (vds_rep h k)
theorem lay_rep {ds : List PyData} (h : PyData.canLayAll0 ds = true) : ∀ k : Nat, PyData.canLayAll0 (List.replicate k ds).flatten = true
  | 0 => by simp [PyData.canLayAll0]
  | k + 1 => by rw [List.replicate_succ, List.flatten_cons]; exact layAll_append h (lay_rep h k)
theorem sumw_lay : (PyData.str (Str.ofString "sum")).canLay0 = true := by decide +kernel

theorem spoilt3 {w : Wk} {pa : Addr} {c : Int} (G : C.Good) (S : Std C) (D : Def C "_law_spoilt" law_spoilt_vs 3 law_spoilt_b) (hw : w.Ok 10) (hp : H pa = some (.lst (w.ps.map Pt.v))) (hc : 0 ≤ c)
    (K : ∀ v H', Ext H H' → WD H' v false → Q v H') : CallW C ⟨n + 2, true⟩ "_law_spoilt" [w.v pa, .int 3, .int c] H Q X := by
  have hz : 1000 < sizeLine := by decide
  have hp1 := hw.p1
  have hp2 := hw.p2
  have hll : (w.ps.map Pt.v).length ≤ sizeLine := by simp; omega
  refine D.call G rfl ?_
  unfold law_spoilt_b
  rw [show w.v pa = .tup [.int w.ring, .int w.inp, .ref pa] from rfl]
  refine SS_unp ?_
  (with_reducible (refine E_nm (by with_unfolding_all rfl) ?_))
  refine ⟨_, rfl, ⟨.inl rfl, fun _ _ _ e => by cases e⟩, rfl, ?_⟩
  (with_reducible (refine SS_ife ?_; refine T_cmp ?_; refine E_cmp ?_; refine E_nm (by with_unfolding_all rfl) ?_; refine E_ci ?_; refine cmp_eq_int ?_; refine tru_bool ?_))
  rw [show ((3 : Int) == 0) = false from rfl]
  (with_reducible (refine if_f ?_; refine SS_app0 ?_; refine SS_ife ?_; refine T_cmp ?_; refine E_cmp ?_; refine E_nm (by with_unfolding_all rfl) ?_; refine E_ci ?_; refine cmp_eq_int ?_; refine tru_bool ?_))
  rw [show ((3 : Int) == 1) = false from rfl]
  (with_reducible (refine if_f ?_; refine SS_app0 ?_; refine SS_ife ?_; refine T_cmp ?_; refine E_cmp ?_; refine E_nm (by with_unfolding_all rfl) ?_; refine E_ci ?_; refine cmp_eq_int ?_; refine tru_bool ?_))
  rw [show ((3 : Int) == 2) = false from rfl]
  (with_reducible (refine if_f ?_; refine SS_app0 ?_; refine SS_ife ?_; refine T_cmp ?_; refine E_cmp ?_; refine E_nm (by with_unfolding_all rfl) ?_; refine E_ci ?_; refine cmp_eq_int ?_; refine tru_bool ?_))
  rw [show ((3 : Int) == 3) = true from rfl]
  (with_reducible (refine if_t ?_; refine SS_app1 ?_; refine SS_ret ?_; refine E_tup ?_; refine Es_cons ?_; refine E_nm (by with_unfolding_all rfl) ?_; refine Es_cons ?_; refine E_nm (by with_unfolding_all rfl) ?_; refine Es_cons ?_; refine E_sub ?_; refine E_lst ?_; refine Es_cons ?_; refine E_call (Std.n_tuple (by assumption)) callee_type ?_; refine Es_cons ?_; refine E_nm (by with_unfolding_all rfl) ?_; refine Es_nil ?_))
  refine cv_tuple (items_lst hp) hll ?_
  (with_reducible (refine Es_cons ?_; refine E_lst ?_; refine Es_nil ?_))
  refine ⟨by decide, fun a1 ha1 => ?_⟩
  have x1 : Ext H (upd H a1 (.lst [])) := .new ha1
  have e1 : upd H a1 (.lst []) a1 = some (.lst []) := upd_self ..
  generalize upd H a1 (.lst []) = H1 at x1 e1 ⊢
  (with_reducible (refine Es_cons ?_; refine E_cn ?_; refine Es_cons ?_; refine E_bin ?_; refine E_sli ?_; refine E_nm (by with_unfolding_all rfl) ?_; refine E_cn ?_; refine E_ci ?_; refine E_cn ?_))
  refine sli_list (lo := none) (hi := some ((1 : Nat) : Int)) (items_lst (x1 _ _ hp)) hll .none (.int _) fun a2 ha2 => ?_
  have ev : vsl (w.ps.map Pt.v) none (some ((1 : Nat) : Int)) = (w.ps.take 1).map Pt.v := by
    unfold vsl
    simp only [Option.elim, List.length_map]
    rw [clipAt_nat, Nat.min_eq_left hp1]
    simp
  rw [ev]
  have x2 : Ext H1 (upd H1 a2 (.lst ((w.ps.take 1).map Pt.v))) := .new ha2
  have e2 : upd H1 a2 (.lst ((w.ps.take 1).map Pt.v)) a2 = some (.lst ((w.ps.take 1).map Pt.v)) := upd_self ..
  generalize upd H1 a2 (.lst ((w.ps.take 1).map Pt.v)) = H2 at x2 e2 ⊢
  (with_reducible (refine E_ci ?_))
  have ht1 : (w.ps.take 1).length = 1 := by simp; omega
  refine bin_lmul e2 (by intro z; rw [List.map_eq_nil_iff] at z; rw [z] at ht1; simp at ht1) (by decide) (by decide) (by simp; omega) fun a3 ha3 => ?_
  have x3 : Ext H2 (upd H2 a3 (.lst (List.replicate (11 : Int).toNat ((w.ps.take 1).map Pt.v)).flatten)) := .new ha3
  have e3 : upd H2 a3 (.lst (List.replicate (11 : Int).toNat ((w.ps.take 1).map Pt.v)).flatten) a3 = some (.lst (List.replicate (11 : Int).toNat ((w.ps.take 1).map Pt.v)).flatten) := upd_self ..
  generalize upd H2 a3 (.lst (List.replicate (11 : Int).toNat ((w.ps.take 1).map Pt.v)).flatten) = H3 at x3 e3 ⊢
  (with_reducible (refine Es_cons ?_; refine E_emp ?_))
  intro a4 ha4
  (with_reducible (refine Es_cons ?_; refine E_cs ?_; refine Es_nil ?_))
  refine ⟨by simp; omega, fun a5 ha5 => ?_⟩
  (with_reducible (refine E_bin ?_; refine E_nm (by with_unfolding_all rfl) ?_; refine E_ci ?_))
  refine bin_modp (by decide) ?_
  refine sub_pick items_new (by simp; omega) (Int.emod_nonneg _ (by decide)) (by simp; exact Int.emod_lt_of_pos _ (by decide)) fun x hx => ?_
  (with_reducible (refine Es_nil ?_))
  refine ⟨by simp; omega, ?_⟩
  have x4 : Ext H3 (upd H3 a4 (.dci [])) := .new ha4
  have e4 : upd H3 a4 (.dci []) a4 = some (.dci []) := upd_self ..
  generalize upd H3 a4 (.dci []) = H4 at x4 e4 ha5 ⊢
  refine K _ _ ((((x1.trans x2).trans x3).trans x4).more ha5) (WD.ext (H := H4) ?_ (.new ha5))
  have fin : ∀ dp, VD H4 x dp → dp.canLay0 = true → nw3 (.int w.ring) (.int w.inp) dp = false → Se H4 x → WD H4 (.tup [.int w.ring, .int w.inp, x]) false := fun dp h1 h2 h3 h4 => by
    refine wd_of (dv := .tuple [.int w.ring, .int w.inp, dp]) (.tup (.cons (.int _) (.cons (.int _) (.cons h1 .nil)))) (lay_tup (by simp only [PyData.canLayAll0, h2, PyData.canLay0, Bool.true_and])) (fun l e => ?_) (by rw [nw_t, h3, Bool.and_false])
    cases e
    refine .of (by simp) fun p hp' => ?_
    simp only [List.mem_cons, List.not_mem_nil, or_false] at hp'
    rcases hp' with rfl | rfl | rfl
    · exact .of fun a e => by cases e
    · exact .of fun a e => by cases e
    · exact h4
  simp only [List.mem_cons, List.not_mem_nil, or_false] at hx
  rcases hx with rfl | rfl | rfl | rfl | rfl | rfl
  · exact fin _ (.tup (ptds_vd _)) (lay_tup (ptds_lay _)) rfl (.of fun a e => by cases e)
  · have e1' := x4 _ _ (x3 _ _ (x2 _ _ e1))
    refine fin _ (.lst e1' .nil) rfl rfl ⟨fun a items e h => ?_, fun a items e h => ?_⟩
    · cases e; rw [e1'] at h; cases h; exact ⟨by simp, fun x hx => by simp at hx⟩
    · cases e; rw [e1'] at h; cases h
  · exact fin _ .none rfl rfl (.of fun a e => by cases e)
  · have e3' := x4 _ _ e3
    refine fin _ (.lst e3' (vds_rep (ptds_vd _) _)) (lay_lst (lay_rep (ptds_lay _) _)) ?_ ⟨fun a items e h => ?_, fun a items e h => ?_⟩
    · rw [nw3_l]
      have : (List.replicate (11 : Int).toNat ((w.ps.take 1).map ptd)).flatten.length = 11 := by
        rw [List.length_flatten, List.map_replicate, List.length_map, ht1]; rfl
      rw [this]; rfl
    · cases e; rw [e3'] at h; cases h
      refine ⟨by rw [List.length_flatten, List.map_replicate, List.length_map, ht1]; decide, fun x hx m em => ?_⟩
      obtain ⟨l, hl, hxl⟩ := List.mem_flatten.mp hx
      obtain ⟨_, rfl⟩ := List.mem_replicate.mp hl
      obtain ⟨p, hpm, rfl⟩ := List.mem_map.mp hxl
      obtain ⟨k, hk⟩ := List.mem_iff_getElem?.mp (List.mem_of_mem_take hpm)
      exact p.v_len (hw.pt k p hk) em
    · cases e; rw [e3'] at h; cases h
  · exact .dict e4
  · exact fin _ (.str _) sumw_lay rfl (.of fun a e => by cases e)

theorem spoilt4 {w : Wk} {pa : Addr} {c : Int} (G : C.Good) (S : Std C) (Db : Def C "_law_bad_part" law_bad_part_vs 3 law_bad_part_b) (D : Def C "_law_spoilt" law_spoilt_vs 3 law_spoilt_b) (hw : w.Ok 10) (hp : H pa = some (.lst (w.ps.map Pt.v))) (hc : 0 ≤ c)
    (K : ∀ v H', Ext H H' → WD H' v false → Q v H') : CallW C ⟨n + 2, true⟩ "_law_spoilt" [w.v pa, .int 4, .int c] H Q X := by
  have hz : 1000 < sizeLine := by decide
  have hp1 := hw.p1
  have hp2 := hw.p2
  have hi1 := hw.i1
  have hll : (w.ps.map Pt.v).length ≤ sizeLine := by simp; omega
  refine D.call G rfl ?_
  unfold law_spoilt_b
  rw [show w.v pa = .tup [.int w.ring, .int w.inp, .ref pa] from rfl]
  refine SS_unp ?_
  (with_reducible (refine E_nm (by with_unfolding_all rfl) ?_))
  refine ⟨_, rfl, ⟨.inl rfl, fun _ _ _ e => by cases e⟩, rfl, ?_⟩
  (with_reducible (refine SS_ife ?_; refine T_cmp ?_; refine E_cmp ?_; refine E_nm (by with_unfolding_all rfl) ?_; refine E_ci ?_; refine cmp_eq_int ?_; refine tru_bool ?_))
  rw [show ((4 : Int) == 0) = false from rfl]
  (with_reducible (refine if_f ?_; refine SS_app0 ?_; refine SS_ife ?_; refine T_cmp ?_; refine E_cmp ?_; refine E_nm (by with_unfolding_all rfl) ?_; refine E_ci ?_; refine cmp_eq_int ?_; refine tru_bool ?_))
  rw [show ((4 : Int) == 1) = false from rfl]
  (with_reducible (refine if_f ?_; refine SS_app0 ?_; refine SS_ife ?_; refine T_cmp ?_; refine E_cmp ?_; refine E_nm (by with_unfolding_all rfl) ?_; refine E_ci ?_; refine cmp_eq_int ?_; refine tru_bool ?_))
  rw [show ((4 : Int) == 2) = false from rfl]
  (with_reducible (refine if_f ?_; refine SS_app0 ?_; refine SS_ife ?_; refine T_cmp ?_; refine E_cmp ?_; refine E_nm (by with_unfolding_all rfl) ?_; refine E_ci ?_; refine cmp_eq_int ?_; refine tru_bool ?_))
  rw [show ((4 : Int) == 3) = false from rfl]
  (with_reducible (refine if_f ?_; refine SS_app0 ?_; refine SS_asg ?_; refine E_bin ?_; refine E_bin ?_; refine E_nm (by with_unfolding_all rfl) ?_; refine E_ci ?_))
  refine bin_divp (by decide) (by decide) ?_
  (with_reducible (refine E_call (Std.n_len (by assumption)) callee_builtin ?_; refine Es_cons ?_; refine E_nm (by with_unfolding_all rfl) ?_; refine Es_nil ?_))
  refine cv_len_list (items_lst hp) hll ?_
  refine bin_modp (by simp; omega) ?_
  obtain ⟨T, hT⟩ : ∃ T : Nat, c / 7 % (((w.ps.map Pt.v).length : Nat) : Int) = (T : Int) := by
    have := Int.emod_nonneg (c / 7) (show (((w.ps.map Pt.v).length : Nat) : Int) ≠ 0 by simp; intro z; rw [z] at hp1; simp at hp1)
    exact ⟨(c / 7 % (((w.ps.map Pt.v).length : Nat) : Int)).toNat, by omega⟩
  have hT2 : T < w.ps.length := by
    have := Int.emod_lt_of_pos (c / 7) (show 0 < (((w.ps.map Pt.v).length : Nat) : Int) by simp; omega)
    simp only [List.length_map] at this hT
    omega
  rw [hT]
  obtain ⟨p, hpT⟩ : ∃ p, w.ps[T]? = some p := ⟨_, List.getElem?_eq_getElem hT2⟩
  (with_reducible (refine SS_ret ?_; refine E_tup ?_; refine Es_cons ?_; refine E_nm (by with_unfolding_all rfl) ?_; refine Es_cons ?_; refine E_nm (by with_unfolding_all rfl) ?_; refine Es_cons ?_; refine E_bin ?_; refine E_bin ?_; refine E_sli ?_; refine E_nm (by with_unfolding_all rfl) ?_; refine E_cn ?_; refine E_nm (by with_unfolding_all rfl) ?_; refine E_cn ?_))
  refine sli_list (lo := none) (hi := some ((T : Nat) : Int)) (items_lst hp) hll .none (.int _) fun a1 ha1 => ?_
  have ev : vsl (w.ps.map Pt.v) none (some ((T : Nat) : Int)) = (w.ps.take T).map Pt.v := by
    unfold vsl
    simp only [Option.elim, List.length_map]
    rw [clipAt_nat, Nat.min_eq_left (by omega)]
    simp
  rw [ev]
  have x1 : Ext H (upd H a1 (.lst ((w.ps.take T).map Pt.v))) := .new ha1
  have e1 : upd H a1 (.lst ((w.ps.take T).map Pt.v)) a1 = some (.lst ((w.ps.take T).map Pt.v)) := upd_self ..
  generalize upd H a1 (.lst ((w.ps.take T).map Pt.v)) = H1 at x1 e1 ⊢
  (with_reducible (refine E_lst ?_; refine Es_cons ?_))
  refine E_fn Db.fn ?_
  (with_reducible (refine Es_cons ?_; refine E_sub ?_; refine E_nm (by with_unfolding_all rfl) ?_; refine E_nm (by with_unfolding_all rfl) ?_))
  refine sub_listn (items_lst (x1 _ _ hp)) hll (x := p.v) (by rw [List.getElem?_map, hpT]; rfl) ?_
  (with_reducible (refine Es_cons ?_; refine E_bin ?_; refine E_nm (by with_unfolding_all rfl) ?_; refine E_nm (by with_unfolding_all rfl) ?_; refine bin_add ?_; refine Es_cons ?_; refine E_bin ?_; refine E_nm (by with_unfolding_all rfl) ?_; refine E_ci ?_))
  refine bin_divp (by decide) (by decide) ?_
  (with_reducible (refine Es_nil ?_))
  have hpok := hw.pt T p hpT
  refine bad_ct (p := p) G S Db (by rw [show ((w.inp : Int) + (T : Int)).toNat = w.inp + T by omega]; exact hpok) (by omega) (Int.ediv_nonneg hc (by decide)) fun bv H2 x2 gb => ?_
  (with_reducible (refine Es_nil ?_))
  refine ⟨by simp; omega, fun a3 ha3 => ?_⟩
  have x3 : Ext H2 (upd H2 a3 (.lst [bv])) := .new ha3
  have e3 : upd H2 a3 (.lst [bv]) a3 = some (.lst [bv]) := upd_self ..
  generalize upd H2 a3 (.lst [bv]) = H3 at x3 e3 ⊢
  refine bin_cat (items_lst (x3 _ _ (x2 _ _ e1))) (items_lst e3) (by simp; omega) fun a4 ha4 => ?_
  have x4 : Ext H3 (upd H3 a4 (.lst ((w.ps.take T).map Pt.v ++ [bv]))) := .new ha4
  have e4 : upd H3 a4 (.lst ((w.ps.take T).map Pt.v ++ [bv])) a4 = some (.lst ((w.ps.take T).map Pt.v ++ [bv])) := upd_self ..
  generalize upd H3 a4 (.lst ((w.ps.take T).map Pt.v ++ [bv])) = H4 at x4 e4 ⊢
  have x14 := ((x1.trans x2).trans x3).trans x4
  (with_reducible (refine E_sli ?_; refine E_nm (by with_unfolding_all rfl) ?_; refine E_bin ?_; refine E_nm (by with_unfolding_all rfl) ?_; refine E_ci ?_; refine bin_add ?_; refine E_cn ?_; refine E_cn ?_))
  refine sli_list (lo := some ((T + 1 : Nat) : Int)) (hi := none) (items_lst (x14 _ _ hp)) hll (.int _) .none fun a5 ha5 => ?_
  have ev : vsl (w.ps.map Pt.v) (some ((T + 1 : Nat) : Int)) none = (w.ps.drop (T + 1)).map Pt.v := by
    unfold vsl
    simp only [Option.elim, List.length_map]
    rw [clipAt_nat, Nat.min_eq_left (by omega), List.map_drop]
    exact List.take_of_length_le (by simp)
  rw [ev]
  have x5 : Ext H4 (upd H4 a5 (.lst ((w.ps.drop (T + 1)).map Pt.v))) := .new ha5
  have e5 : upd H4 a5 (.lst ((w.ps.drop (T + 1)).map Pt.v)) a5 = some (.lst ((w.ps.drop (T + 1)).map Pt.v)) := upd_self ..
  generalize upd H4 a5 (.lst ((w.ps.drop (T + 1)).map Pt.v)) = H5 at x5 e5 ⊢
  refine bin_cat (items_lst (x5 _ _ e4)) (items_lst e5) (by simp; omega) fun a6 ha6 => ?_
  have x6 : Ext H5 (upd H5 a6 (.lst ((w.ps.take T).map Pt.v ++ [bv] ++ (w.ps.drop (T + 1)).map Pt.v))) := .new ha6
  have e6 : upd H5 a6 (.lst ((w.ps.take T).map Pt.v ++ [bv] ++ (w.ps.drop (T + 1)).map Pt.v)) a6 = some (.lst ((w.ps.take T).map Pt.v ++ [bv] ++ (w.ps.drop (T + 1)).map Pt.v)) := upd_self ..
  generalize upd H5 a6 (.lst ((w.ps.take T).map Pt.v ++ [bv] ++ (w.ps.drop (T + 1)).map Pt.v)) = H6 at x6 e6 ⊢
  (with_reducible (refine Es_nil ?_))
  refine ⟨by simp; omega, ?_⟩
  have x26 : Ext H2 H6 := ((x3.trans x4).trans x5).trans x6
  refine K _ _ ((x1.trans x2).trans x26) ?_
  obtain ⟨dv, g1, g2, g3⟩ := gb.ex
  have hds : VDs H6 ((w.ps.take T).map Pt.v ++ [bv] ++ (w.ps.drop (T + 1)).map Pt.v) ((w.ps.take T).map ptd ++ [dv] ++ (w.ps.drop (T + 1)).map ptd) := ((ptds_vd _).append (.cons (g1.ext x26) .nil)).append (ptds_vd _)
  have hlay : PyData.canLayAll0 ((w.ps.take T).map ptd ++ [dv] ++ (w.ps.drop (T + 1)).map ptd) = true := layAll_append (layAll_append (ptds_lay _) (by simp only [PyData.canLayAll0, g2, Bool.true_and])) (ptds_lay _)
  refine wd_of (dv := .tuple [.int w.ring, .int w.inp, .list ((w.ps.take T).map ptd ++ [dv] ++ (w.ps.drop (T + 1)).map ptd)]) (.tup (.cons (.int _) (.cons (.int _) (.cons (.lst e6 hds) .nil)))) (lay_tup (by simp only [PyData.canLayAll0, PyData.canLay0, Bool.true_and]; rw [hlay]; rfl)) (fun l e => ?_) ?_
  · cases e
    refine .of (by simp) fun q hq => ?_
    simp only [List.mem_cons, List.not_mem_nil, or_false] at hq
    rcases hq with rfl | rfl | rfl
    · exact .of fun a e => by cases e
    · exact .of fun a e => by cases e
    · refine ⟨fun a items e h => ?_, fun a items e h => ?_⟩
      · cases e; rw [e6] at h; cases h
        refine ⟨by simp; omega, fun x hx m em => ?_⟩
        rcases List.mem_append.mp hx with hx | hx
        · rcases List.mem_append.mp hx with hx | hx
          · obtain ⟨p', hpm, rfl⟩ := List.mem_map.mp hx
            obtain ⟨k, hk⟩ := List.mem_iff_getElem?.mp (List.mem_of_mem_take hpm)
            exact p'.v_len (hw.pt k p' hk) em
          · simp at hx; subst hx; exact gb.len m em
        · obtain ⟨p', hpm, rfl⟩ := List.mem_map.mp hx
          obtain ⟨k, hk⟩ := List.mem_iff_getElem?.mp (List.mem_of_mem_drop hpm)
          exact p'.v_len (hw.pt k p' hk) em
      · cases e; rw [e6] at h; cases h
  · rw [nw_t, nw3_l]
    have : psOk (ivD (.int w.inp)) ((w.ps.take T).map ptd ++ [dv] ++ (w.ps.drop (T + 1)).map ptd) = false := by
      cases hps : psOk (ivD (.int w.inp)) ((w.ps.take T).map ptd ++ [dv] ++ (w.ps.drop (T + 1)).map ptd) with
      | false => rfl
      | true =>
        have := psOk_get hps (k := T) (d := dv) (by
          rw [List.append_assoc, List.getElem?_append_right (by simp; omega)]
          simp [show min T w.ps.length = T by omega])
        rw [show ivD (.int w.inp) + (T : Int) = (w.inp : Int) + (T : Int) from rfl, g3] at this
        cases this
    rw [this, Bool.and_false, Bool.and_false]

theorem spoilt_ct {w : Wk} {pa : Addr} {c k : Int} (G : C.Good) (S : Std C) (Do : Def C "_law_odd" law_odd_vs 2 law_odd_b) (Db : Def C "_law_bad_part" law_bad_part_vs 3 law_bad_part_b) (D : Def C "_law_spoilt" law_spoilt_vs 3 law_spoilt_b) (hw : w.Ok 10) (hp : H pa = some (.lst (w.ps.map Pt.v))) (hc : 0 ≤ c)
    (hk : k = 0 ∨ k = 1 ∨ k = 2 ∨ k = 3 ∨ k = 4) (K : ∀ v H', Ext H H' → WD H' v false → Q v H') : CallW C ⟨n + 2, true⟩ "_law_spoilt" [w.v pa, .int k, .int c] H Q X := by
  rcases hk with rfl | rfl | rfl | rfl | rfl
  · exact spoilt0 G S D hw hp hc K
  · exact spoilt1 G S Do D hw hp hc K
  · exact spoilt2 G S Do D hw hp hc K
  · exact spoilt3 G S D hw hp hc K
  · exact spoilt4 G S Db D hw hp hc K
end
end Vc
end

section
set_option autoImplicit false
set_option linter.unusedVariables false
namespace Vc
open PySem PySem.W PyProof.Rows

theorem gi_const {p : Program} {mean : ExcName → Option Value} {C : Cx} (T : Top p [] mean C.mg C.mb C.h0) {x : String} {i : Int} (h : valOf p (Str.ofString x) = some (.int i)) : ∃ t, C.G x (.int i t) := by
  obtain ⟨v, h1, h2⟩ := T.const _ _ h
  have := h2 C.h0
  cases this with
  | int _ t => exact ⟨t, .inl h1⟩

noncomputable def bltOk (p : Program) (x : String) (v : Value) : Bool := bootBuiltins (Str.ofString x) == some v && !(Str.ofString x == ("__name__" : Str)) && !startupNames.contains (Str.ofString x) && !(((recsOf p).map (·.name)).contains (Str.ofString x)) && !(((litsOf p).map (·.1)).contains (Str.ofString x)) && !(((clssOf p []).map (·.name)).contains (Str.ofString x))
theorem g_blt {p : Program} {mean : ExcName → Option Value} {C : Cx} (T : Top p [] mean C.mg C.mb C.h0) {x : String} {v : Value} (h : bltOk p x v = true) : C.G x v := by
  unfold bltOk at h
  obtain ⟨h, h6⟩ := Bool.and_eq_true_iff.mp h
  obtain ⟨h, h5⟩ := Bool.and_eq_true_iff.mp h
  obtain ⟨h, h4⟩ := Bool.and_eq_true_iff.mp h
  obtain ⟨h, h3⟩ := Bool.and_eq_true_iff.mp h
  obtain ⟨h1, h2⟩ := Bool.and_eq_true_iff.mp h
  refine .inr ⟨T.free _ (not_mem_of h3) (List.not_mem_nil) (not_mem_of h4) (not_mem_of h5) (not_mem_of h6), ?_⟩
  rw [T.builtins _ fun e => ?_]
  · exact eq_of_beq h1
  · rw [e] at h2; exact Bool.false_ne_true h2

end Vc
end

section
set_option autoImplicit false
set_option linter.unusedVariables false
namespace Vc
open PySem PySem.W PyProof.Rows

noncomputable def search_init_vs : Vs := [(Str.ofString "self", .loc), (Str.ofString "work", .loc)]
noncomputable def search_init_b : List St :=
   [.exp (.call "need_work" [(.nm 1)]),
    .seta (.nm 0) "work" (.tup [(.sub (.nm 1) (.ci 0)), (.sub (.nm 1) (.ci 1)), (.call "list" [(.sub (.nm 1) (.ci 2))])]),
    .seta (.nm 0) "rows" (.lst []),
    .seta (.nm 0) "least" .cn]
noncomputable def law2_part_vs : Vs := [(Str.ofString "_law_cell_here", .loc), (Str.ofString "_law_lines", .loc), (Str.ofString "_law_word_here", .loc), (Str.ofString "_law_taken", .loc), (Str.ofString "_law_k", .loc), (Str.ofString "_law_near", .loc)]
noncomputable def law2_vs : Vs := [(Str.ofString "_law_script", .loc), (Str.ofString "_law_work_here", .loc), (Str.ofString "_law_kind", .loc), (Str.ofString "_law_kept", .loc), (Str.ofString "_law_thing", .loc), (Str.ofString "_law_e", .loc)]
noncomputable def law2_b : List St :=
   [.asg 1 (.call "_law_work" [(.nm 0), (.ci 10)]),
    .asg 2 (.bin .Mod (.call "_law_mixed" [(.nm 0), (.ci 20)]) (.ci 15)),
    .ife (.cmp .Gt (.nm 2) (.ci 9)) [.asg 3 (.call "list" [(.sub (.nm 1) (.ci 2))]),
    .ret (.bop .And [(.cmp .Is (.call "_law_said" [(.nm 1)]) (.cb true)), (.cmp .Is (.call "_law_said" [(.nm 1)]) (.cb true)), (.cmp .Eq (.sub (.nm 1) (.ci 2)) (.nm 3))])] [],
    .asg 4 (.call "_law_spoilt" [(.nm 1), (.sub (.lst [(.ci 0), (.ci 1), (.ci 2), (.ci 3), (.ci 4), (.ci 4), (.ci 4), (.ci 4), (.ci 3), (.ci 3)]) (.nm 2)), (.call "_law_mixed" [(.nm 0), (.ci 21)])]),
    .ife (.bop .Or [(.cmp .NotEq (.call "_law_said" [(.nm 4)]) (.tup [(.cs "work")])), (.cmp .IsNot (.call "_law_said" [(.nm 1)]) (.cb true)), (.cmp .NotEq (.call "_law_said" [(.nm 4)]) (.tup [(.cs "work")]))]) [.ret (.cb false)] [],
    .tre [.exp (.call "Search" [(.nm 4)])] "WorkError" (some 5) [.ret (.cmp .Eq (.call "_law_word" [(.nm 5)]) (.tup [(.cs "work")]))] [],
    .ret (.cb false)]

structure Cls (C : Cx) (cn : String) (vs : Vs) (np : Nat) (body : List St) : Prop where
  fn : Fn C cn
  call : ∀ {n : Nat} {q : Bool} {H : MH} {Q : V → MH → Prop} {X : XP} {args : List V}, args.length + 1 = np →
    (∀ a dx, H a = none → H dx = none → a ≠ dx → wpSs C ⟨n, q⟩ body ((.ref a :: args).map some ++ List.replicate (vs.length - np) none) (upd (upd H dx (.nsd [])) a (.ins cn dx)) (fun f _ H' => match f with | .ret v => v = .none ∧ Q (.ref a) H' | .next => V.none = .none ∧ Q (.ref a) H') (fun c _ H' => X c H')) →
    CallW C ⟨n + 2, q⟩ cn args H Q X
noncomputable def clsI (K : Frag) (vs : Vs) (np : Nat) (body : List St) (fI : Addr) : Bool := (typeIn K (.ref fI) == some (.type "function")) && (match K.lookup fI with | some ⟨_, _, .func fd, _⟩ => codeIn K fd.code fd.qualname && okFn fd vs np body | _ => false)
noncomputable def clsD (K : Frag) (vs : Vs) (np : Nat) (body : List St) (D : Addr) : Bool := makesIn K D && keepIn K (.ref D) && (match findIn K (.ref D) "__init__" with | some (some (.ref fI)) => clsI K vs np body fI | _ => false)
noncomputable def clsOk (K : Frag) (cn : String) (vs : Vs) (np : Nat) (body : List St) : Bool := match nsIn K mainGlobals (Str.ofString cn) with | some (some (.ref D)) => clsD K vs np body D | _ => false
theorem cls_of {C : Cx} {K : Frag} (G : C.Good) (KX : K.In C.h0) {cn : String} {vs : Vs} {np : Nat} {body : List St} (e : clsOk K cn vs np body = true) : Cls C cn vs np body := by
  unfold clsOk at e
  split at e
  · rename_i D hD
    unfold clsD at e
    obtain ⟨e1, e2⟩ := Bool.and_eq_true_iff.mp e
    obtain ⟨e0, e1⟩ := Bool.and_eq_true_iff.mp e1
    split at e2
    · rename_i fI hI
      unfold clsI at e2
      obtain ⟨e3, e4⟩ := Bool.and_eq_true_iff.mp e2
      split at e4
      · rename_i c1 d1 fd s1 ho
        obtain ⟨e5, e6⟩ := Bool.and_eq_true_iff.mp e4
        have g := own_g G KX hD
        exact ⟨⟨_, g, callee_cls KX e1⟩, fun hl W => call_w g (make_of KX g e0 hI (beq_iff_eq.mp e3) G (KX _ _ ho) rfl (codeRec_of KX e5) e6 hl W)⟩
      · exact (Bool.false_ne_true e4).elim
    · exact (Bool.false_ne_true e2).elim
  · exact (Bool.false_ne_true e).elim

theorem ptd_dep (p : Pt) : (ptd p).depth = 1 := by
  have : ∀ ls : List Nat, PyData.depthAll (ls.map fun (l : Nat) => PyData.int l) = 0 := fun ls => by
    induction ls with
    | nil => rfl
    | cons l ls ih => simp only [List.map_cons, PyData.depthAll, PyData.depth, ih]; rfl
  simp only [ptd, PyData.depth, PyData.depthAll, this]; rfl
theorem ptds_dep : ∀ ps : List Pt, PyData.depthAll (ps.map ptd) ≤ 1
  | [] => by simp [PyData.depthAll]
  | p :: ps => by simp only [List.map_cons, PyData.depthAll, ptd_dep]; have := ptds_dep ps; omega
theorem wtup_lay : (PyData.tuple [.str (Str.ofString "work")]).canLay0 = true := by decide +kernel

section
variable {C : Cx} {X : XP} {a : Addr} {ns : List Int}

theorem law02 {vs : Vs} (G : C.Good) (S : Std C) (W : WdK C) (hR : ∀ {d : Md} {H : MH} {X : XP}, d.q = true → X "BadWork" H → RaiW C d "BadWork" H X) (hE : Exm C "BadWork" "WorkError" true) (g1 : GI C "MOST_RING" 5) (g2 : GI C "MOST_INPUTS" 6) (g3 : GI C "MOST_PARTS" 10)
    (Dc : Def C "_law_cell" law_cell_vs 2 law_cell_b) (Dm : Def C "_law_mixed" law_mixed_vs 2 law_mixed_b) (Dp : Def C "_law_part" vs 2 law_part_b) (hv : vs.length = 6) (Dk : Def C "_law_work" law_work_vs 2 law_work_b)
    (Da : Def C "is_among" is_among_vs 3 is_among_b) (Dl : Def C "lines_of" lines_of_vs 1 lines_of_b) (Dpt : Def C "is_part" is_part_vs 2 is_part_b) (Dn : Def C "need_work" need_work_vs 1 need_work_b)
    (Dw : Def C "_law_word" law_word_vs 1 law_word_b) (Ds : Def C "_law_said" law_said_vs 1 law_said_b) (Do : Def C "_law_odd" law_odd_vs 2 law_odd_b) (Db : Def C "_law_bad_part" law_bad_part_vs 3 law_bad_part_b) (Dsp : Def C "_law_spoilt" law_spoilt_vs 3 law_spoilt_b)
    (Dcl : Cls C "Search" search_init_vs 2 search_init_b) (D : Def C "law" law2_vs 1 law2_b) (hl : ns.length ≤ 63) :
    CallW C ⟨60, true⟩ "law" [.ref a] (H0 a ns) (fun v _ => v = .bool true) X := by
  have hz : 1000 < sizeLine := by decide
  refine D.call G rfl ?_
  unfold law2_b
  have h0 : H0 a ns a = some (.fro (ns.map .int)) := if_pos rfl
  generalize H0 a ns = H at h0
  (with_reducible (refine SS_asg ?_))
  refine E_fn Dk.fn ?_
  (with_reducible (refine Es_cons ?_; refine E_nm (by with_unfolding_all rfl) ?_; refine Es_cons ?_; refine E_ci ?_; refine Es_nil ?_))
  refine work_ct (most := 10) G S Dc Dm Dp hv Dk h0 hl (by decide) (by decide) fun w pa H1 hw x1 hpa0 p1 => ?_
  have a1 := x1 _ _ h0
  have hp1 := hw.p1; have hp2 := hw.p2
  clear x1 h0
  (with_reducible (refine SS_asg ?_; refine E_bin ?_))
  refine E_fn Dm.fn ?_
  (with_reducible (refine Es_cons ?_; refine E_nm (by with_unfolding_all rfl) ?_; refine Es_cons ?_; refine E_ci ?_; refine Es_nil ?_))
  refine mixed_ct G Dc Dm a1 hl (by decide) fun H2 x2 => ?_
  (with_reducible (refine E_ci ?_))
  refine bin_modp (by decide) ?_
  have k0 : 0 ≤ mixed ns 20 % 15 := Int.emod_nonneg _ (by decide)
  generalize mixed ns 20 % 15 = kind at k0 ⊢
  have a2 := x2 _ _ a1
  have p2 := x2 _ _ p1
  clear x2 a1 p1
  (with_reducible (refine SS_ife ?_; refine T_cmp ?_; refine E_cmp ?_; refine E_nm (by with_unfolding_all rfl) ?_; refine E_ci ?_; refine cmp_gt ?_; refine tru_bool ?_))
  by_cases hk : kind > 9
  · rw [decide_eq_true hk]
    (with_reducible (refine if_t ?_; refine SS_app1 ?_; refine SS_asg ?_; refine E_call (Std.n_list (by assumption)) callee_type ?_; refine Es_cons ?_; refine E_sub ?_; refine E_nm (by with_unfolding_all rfl) ?_; refine E_ci ?_))
    rw [show w.v pa = .tup [.int w.ring, .int w.inp, .ref pa] from rfl]
    refine sub_t2 rfl ?_
    (with_reducible (refine Es_nil ?_))
    refine cv_list (.inl ⟨pa, rfl⟩) (items_lst p2) (by simp; omega) fun kp hkp => ?_
    have x3 := Ext.new (o := .lst (w.ps.map Pt.v)) hkp
    have k3 := upd_self H2 kp (.lst (w.ps.map Pt.v))
    generalize upd H2 kp (.lst (w.ps.map Pt.v)) = H3 at x3 k3 ⊢
    have p3 := x3 _ _ p2
    (with_reducible (refine SS_app1 ?_; refine SS_ret ?_; refine E_bop ?_; refine B_and ?_; refine E_cmp ?_))
    refine E_fn Ds.fn ?_
    (with_reducible (refine Es_cons ?_; refine E_nm (by with_unfolding_all rfl) ?_; refine Es_nil ?_))
    refine said_ct (n := 55) G S W hR hE g1 g2 g3 Da Dl Dpt Dn Dw Ds (work_wd hw p3) (fun _ H4 x4 => ?_) fun e => by cases e
    (with_reducible (refine E_cb ?_))
    refine cmp_is ?_
    rw [show (true == true) = true from rfl]
    (with_reducible (refine tru_bool ?_; refine if_t ?_; refine B_and ?_; refine E_cmp ?_))
    refine E_fn Ds.fn ?_
    (with_reducible (refine Es_cons ?_; refine E_nm (by with_unfolding_all rfl) ?_; refine Es_nil ?_))
    refine said_ct (n := 55) G S W hR hE g1 g2 g3 Da Dl Dpt Dn Dw Ds (work_wd hw (x4 _ _ p3)) (fun _ H5 x5 => ?_) fun e => by cases e
    (with_reducible (refine E_cb ?_))
    refine cmp_is ?_
    rw [show (true == true) = true from rfl]
    (with_reducible (refine tru_bool ?_; refine if_t ?_; refine B_one ?_; refine E_cmp ?_; refine E_sub ?_; refine E_nm (by with_unfolding_all rfl) ?_; refine E_ci ?_))
    refine sub_t2 rfl ?_
    (with_reducible (refine E_nm (by with_unfolding_all rfl) ?_))
    have x35 := x4.trans x5
    refine cmp_eq (.lst (x35 _ _ p3) (ptds_vd _)) (.lst (x35 _ _ k3) (ptds_vd _)) (lay_lst (ptds_lay _)) (lay_lst (ptds_lay _)) (by simp only [PyData.depth]; have := ptds_dep w.ps; omega) ?_
    rw [SeqAt.eqv_refl _ (lay_lst (ptds_lay _))]
  · rw [decide_eq_false hk]
    (with_reducible (refine if_f ?_; refine SS_app0 ?_; refine SS_asg ?_))
    refine E_fn Dsp.fn ?_
    (with_reducible (refine Es_cons ?_; refine E_nm (by with_unfolding_all rfl) ?_; refine Es_cons ?_; refine E_sub ?_; refine E_lst ?_; refine Es_cons ?_; refine E_ci ?_; refine Es_cons ?_; refine E_ci ?_; refine Es_cons ?_; refine E_ci ?_; refine Es_cons ?_; refine E_ci ?_; refine Es_cons ?_; refine E_ci ?_; refine Es_cons ?_; refine E_ci ?_; refine Es_cons ?_; refine E_ci ?_; refine Es_cons ?_; refine E_ci ?_; refine Es_cons ?_; refine E_ci ?_; refine Es_cons ?_; refine E_ci ?_; refine Es_nil ?_))
    refine ⟨by simp; omega, fun b hb => ?_⟩
    have x3 := Ext.new (o := .lst [V.int 0, .int 1, .int 2, .int 3, .int 4, .int 4, .int 4, .int 4, .int 3, .int 3]) hb
    (with_reducible (refine E_nm (by with_unfolding_all rfl) ?_))
    refine sub_pick items_new (by simp; omega) k0 (by simp; omega) fun x hx => ?_
    have hx' : ∃ k : Int, x = .int k ∧ (k = 0 ∨ k = 1 ∨ k = 2 ∨ k = 3 ∨ k = 4) := by
      simp only [List.mem_cons, List.not_mem_nil, or_false] at hx
      rcases hx with h | h | h | h | h | h | h | h | h | h <;> exact ⟨_, h, by decide⟩
    obtain ⟨k, rfl, hk'⟩ := hx'
    generalize upd H2 b (.lst [V.int 0, .int 1, .int 2, .int 3, .int 4, .int 4, .int 4, .int 4, .int 3, .int 3]) = H3 at x3 ⊢
    (with_reducible (refine Es_cons ?_))
    refine E_fn Dm.fn ?_
    (with_reducible (refine Es_cons ?_; refine E_nm (by with_unfolding_all rfl) ?_; refine Es_cons ?_; refine E_ci ?_; refine Es_nil ?_))
    refine mixed_ct G Dc Dm (x3 _ _ a2) hl (by decide) fun H4 x4 => ?_
    (with_reducible (refine Es_nil ?_))
    refine spoilt_ct (n := 57) G S Do Db Dsp hw (x4 _ _ (x3 _ _ p2)) (mixed_ge _ _) hk' fun v H5 x5 hv5 => ?_
    have p5 := x5 _ _ (x4 _ _ (x3 _ _ p2))
    (with_reducible (refine SS_ife ?_; refine T_bop ?_; refine A_or ?_; refine T_cmp ?_; refine E_cmp ?_))
    refine E_fn Ds.fn ?_
    (with_reducible (refine Es_cons ?_; refine E_nm (by with_unfolding_all rfl) ?_; refine Es_nil ?_))
    refine said_ct (n := 55) G S W hR hE g1 g2 g3 Da Dl Dpt Dn Dw Ds hv5 (fun e => by cases e) fun _ H6 x6 => ?_
    (with_reducible (refine E_tup ?_; refine Es_cons ?_; refine E_cs ?_; refine Es_nil ?_))
    refine ⟨by simp; omega, ?_⟩
    refine cmp_ne (.tup (.cons (.str _) .nil)) (.tup (.cons (.str _) .nil)) wtup_lay wtup_lay (by simp [PyData.depth, PyData.depthAll]) ?_
    rw [SeqAt.eqv_refl _ wtup_lay]
    (with_reducible (refine tru_bool ?_; refine if_nt ?_; refine A_or ?_; refine T_cmp ?_; refine E_cmp ?_))
    refine E_fn Ds.fn ?_
    (with_reducible (refine Es_cons ?_; refine E_nm (by with_unfolding_all rfl) ?_; refine Es_nil ?_))
    refine said_ct (n := 55) G S W hR hE g1 g2 g3 Da Dl Dpt Dn Dw Ds (work_wd hw (x6 _ _ p5)) (fun _ H7 x7 => ?_) fun e => by cases e
    (with_reducible (refine E_cb ?_))
    refine cmp_isnot ?_
    rw [show (true != true) = false from rfl]
    (with_reducible (refine tru_bool ?_; refine if_f ?_; refine A_or ?_; refine T_cmp ?_; refine E_cmp ?_))
    refine E_fn Ds.fn ?_
    (with_reducible (refine Es_cons ?_; refine E_nm (by with_unfolding_all rfl) ?_; refine Es_nil ?_))
    refine said_ct (n := 55) G S W hR hE g1 g2 g3 Da Dl Dpt Dn Dw Ds ((hv5.ext x6).ext x7) (fun e => by cases e) fun _ H8 x8 => ?_
    (with_reducible (refine E_tup ?_; refine Es_cons ?_; refine E_cs ?_; refine Es_nil ?_))
    refine ⟨by simp; omega, ?_⟩
    refine cmp_ne (.tup (.cons (.str _) .nil)) (.tup (.cons (.str _) .nil)) wtup_lay wtup_lay (by simp [PyData.depth, PyData.depthAll]) ?_
    rw [SeqAt.eqv_refl _ wtup_lay]
    (with_reducible (refine tru_bool ?_; refine if_nt ?_; refine A_nil_or ?_; refine if_f ?_; refine SS_app0 ?_))
    refine SS_tre ?_
    refine SS_exp (E_fn Dcl.fn ?_)
    (with_reducible (refine Es_cons ?_; refine E_nm (by with_unfolding_all rfl) ?_; refine Es_nil ?_))
    refine Dcl.call (n := 57) rfl fun ob dx ho hd hne => ?_
    unfold search_init_b
    refine SS_exp (E_fn Dn.fn ?_)
    (with_reducible (refine Es_cons ?_; refine E_nm (by with_unfolding_all rfl) ?_; refine Es_nil ?_))
    have xo : Ext H8 (upd (upd H8 dx (.nsd [])) ob (.ins "Search" dx)) := (Ext.new hd).more (by rw [upd_ne hne]; exact ho)
    refine need_ct (n := 54) G S hR g1 g2 g3 Da Dl Dpt Dn ((((hv5.ext x6).ext x7).ext x8).ext xo) (fun e => by cases e) fun _ H9 x9 => ?_
    refine ⟨true, hE, if_t ?_⟩
    refine SS_ret (E_cmp (E_fn Dw.fn ?_))
    (with_reducible (refine Es_cons ?_; refine E_nm (by with_unfolding_all rfl) ?_; refine Es_nil ?_))
    refine word_ct (n := 58) (q := false) G S W Dw fun H10 x10 => ?_
    (with_reducible (refine E_tup ?_; refine Es_cons ?_; refine E_cs ?_; refine Es_nil ?_))
    refine ⟨by simp; omega, ?_⟩
    refine cmp_eq (.tup (.cons (.str _) .nil)) (.tup (.cons (.str _) .nil)) wtup_lay wtup_lay (by simp [PyData.depth, PyData.depthAll]) ?_
    rw [SeqAt.eqv_refl _ wtup_lay]
end
end Vc
end

open PySem PySem.W PyProof.Rows
set_option Elab.async false
set_option maxRecDepth 100000
set_option maxHeartbeats 8000000
namespace Mine
section
variable {C : Vc.Cx} {P : Params} {mean : ExcName → Option Value} (G : C.Good) (T : Top (Vc.view PySem.Challenge.pw_uf020014_02) [] mean C.mg C.mb C.h0) (KX : (K02 P).In C.h0)
include G KX
theorem gBad : C.G "BadWork" (.ref 44) := Vc.own_g G KX (by kernel_rfl)
theorem isOwn {x : String} {r : Addr} {b : Bool} (g : nsIn (K02 P) mainGlobals (Str.ofString x) = some (some (.ref r))) (k : kitOne (K02 P) (.ref 44) (.ref r) = some b) : Vc.IsE C x b :=
  ⟨⟨_, Vc.own_g G KX g⟩, fun q => Vc.isx KX (gBad G KX) (Vc.own_g G KX g) (by kernel_rfl) k q⟩
include T
theorem isVal : Vc.IsE C "ValueError" true :=
  have g : C.G "ValueError" (.type "ValueError") := Vc.g_blt T (by kernel_rfl)
  ⟨⟨_, g⟩, fun q => Vc.isx KX (gBad G KX) g (by kernel_rfl) (by kernel_rfl) q⟩
theorem wdk : Vc.WdK C where
  work := isOwn G KX (r := 44) (by kernel_rfl) (by kernel_rfl)
  given := isOwn G KX (r := 56) (by kernel_rfl) (by kernel_rfl)
  look := isOwn G KX (r := 68) (by kernel_rfl) (by kernel_rfl)
  set := isOwn G KX (r := 80) (by kernel_rfl) (by kernel_rfl)
  room := isOwn G KX (r := 92) (by kernel_rfl) (by kernel_rfl)
  line := isOwn G KX (r := 104) (by kernel_rfl) (by kernel_rfl)
  no := isOwn G KX (r := 116) (by kernel_rfl) (by kernel_rfl)
  text := isOwn G KX (r := 128) (by kernel_rfl) (by kernel_rfl)
  val := isVal G T KX
theorem exmW : Vc.Exm C "BadWork" "WorkError" true := Vc.exm_of KX (gBad G KX) (Vc.own_g G KX (D := 31) (by kernel_rfl)) (by kernel_rfl)
theorem clsS : Vc.Cls C "Search" Vc.search_init_vs 2 Vc.search_init_b := Vc.cls_of G KX (by kernel_rfl)
theorem raiB {d : Vc.Md} {H : Vc.MH} {X : Vc.XP} (hq : d.q = true) (hX : X "BadWork" H) : Vc.RaiW C d "BadWork" H X := Vc.rai_of G T (by kernel_rfl) (by decide +kernel) hq hX
end
theorem main {w : World} {s₁ : Shared} {mg mb : Str → Option Value} {mean : ExcName → Option Value} {fa a : Addr} {vs : List Value} {ns : List Int} (T : Top (Vc.view PySem.Challenge.pw_uf020014_02) [] mean mg mb s₁.heap) (KX : (K02 w.params).In s₁.heap)
    (hL : s₁.heap.IsList a vs.toArray) (hI : IntsAre vs ns) (hg : s₁.gens = #[]) (hmg : mg "law" = some (.ref fa)) (hlen : ns.length ≤ 63) :
    wpAny (Vc.Cx.M ⟨PySem.Challenge.pw_uf020014_02, w, s₁.heap, mg, mb⟩) callerA (call (.ref fa) [.ref a]) (fun v s' => v = .bool true ∧ (∀ b o, s₁.heap.get? b = some o → s'.heap.get? b = some o) ∧ s'.gens = #[] ∧ s'.os = s₁.os) (fun _ _ => False) s₁ := by
  have GD : Vc.Cx.Good ⟨PySem.Challenge.pw_uf020014_02, w, s₁.heap, mg, mb⟩ := Vc.good_of T
  have SD : Vc.Std ⟨PySem.Challenge.pw_uf020014_02, w, s₁.heap, mg, mb⟩ := Vc.std_of T (by kernel_rfl)
  exact Vc.start (p := PySem.Challenge.pw_uf020014_02) (w := w) (mb := mb) hL hI hg hmg (Vc.law02 (vs := Vc.law2_part_vs) GD SD (wdk GD T KX) (fun hq hX => raiB GD T KX hq hX) (exmW GD T KX) (Vc.gi_const T (by kernel_rfl)) (Vc.gi_const T (by kernel_rfl)) (Vc.gi_const T (by kernel_rfl))
    (Vc.def_of T (by kernel_rfl)) (Vc.def_of T (by kernel_rfl)) (Vc.def_of T (by kernel_rfl)) rfl (Vc.def_of T (by kernel_rfl)) (Vc.def_of T (by kernel_rfl)) (Vc.def_of T (by kernel_rfl)) (Vc.def_of T (by kernel_rfl)) (Vc.def_of T (by kernel_rfl))
    (Vc.def_of T (by kernel_rfl)) (Vc.def_of T (by kernel_rfl)) (Vc.def_of T (by kernel_rfl)) (Vc.def_of T (by kernel_rfl)) (Vc.def_of T (by kernel_rfl)) (clsS GD T KX) (Vc.def_of T (by kernel_rfl)) hlen)
end Mine
theorem PySem.Challenge.cw_uf020014_02_holds : PySem.Challenge.rw_uf020014_02.Holds := by
  w_on
  refine holds_law Mine.said fun said => ?_
  refine holds_open (q := Vc.view PySem.Challenge.pw_uf020014_02) (loose := []) (Xt := Mine.xt02) (XP := XL (Vc.view PySem.Challenge.pw_uf020014_02) []) (Yf := Hook.obs Mine.hk02) (Ya := Hook.val Mine.hk02) (YP := Hook.says Mine.hk02) (N := 7030) Mine.left (Hook.of Mine.hk02) (Hook.keeps Mine.hk02) (fun s e => xl_of s (Bool.and_eq_true_iff.mp e).1) XL.keeps (by rfl) (by rfl) (by rfl) (fun s e => recFacts_of (Bool.and_eq_true_iff.mp e).2) (by rfl) said (by kernel_rfl) ⟨rfl, rfl, rfl, rfl, rfl, by decide +kernel⟩ ?hw ?hc
  case hw => w_witness2
  intro w s₀ s₁ mg mb G Y fa o pm cd doc dV kV ho hd hcd hD hmg hg args vals as hpre hlay hrd hwl hlo
  have KX := kIn_of Y
  refine Ground.open G ?_
  intro T B D TE TW
  wrow_args hpre hlay hrd hwl hlo
  clear ho hd hcd hD
  rename_i ns _ _ _ _ _ _ _ a vs _ hL _ _ _ hI _ hlen _
  refine wpAny_mono (Mine.main T KX hL hI hg hmg (by omega)) (fun v s' h => ?_) fun _ _ h => h.elim
  obtain ⟨rfl, k, g, os⟩ := h
  exact Vc.good_true k g os (by intro cls; rfl) (by first | rfl | wrow_post)
